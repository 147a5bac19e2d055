import PyProof.Rows.All
import Wide.All
import OpenK.AllK
import Wide.FinOn
import PyProof.EqAt
import PyProof.EqKinds
import PyProof.TupleCall
import HandS.ForMost
import HandS.ForExc
import HandS.TryMany
import HandS.CallSlots
import HandS.Wide
import HandS.EndBits
import HandS.ExcInit
import KE.KeyNested
import KE.KDictKeyed
import HandS.IsInst
import HandS.TupAny
import HandS.Rev
import HandS.TupMul
import HandS.Conv
import HandS.Style
import HandS.More
import HandS.ExcField
import HandS.ExcIs
import HandS.OwnEq
import HandS.Codes
import HandS.TupSets
import HandS.SortOrd
import HandS.SortRule
import PyProof.WalksMore
import PyProof.SumWalkG
import HandS.SortInts
import PyProof.Rows.SortShell
import HandS.NoneIn
import PyProof.EnumMake
import HandS.Small
import HandS.Iter
import PyProof.DictFindH
import PyProof.DictTable
import HandS.Strs
import HandS.Deep
import PyProof.ListStr
import HandS.Defaults
import HandS.SortKw
import PyProof.Rows.SortKeyStr
import PyProof.ExcBaseAll.ValueError
import HandS.Zip
import HandS.TupLe
import HandS.SetFor
import PyProof.FString5
import PyProof.StrBlock2
import HandS.ListItems
import HandS.DeepEq
import HandS.Finally
import HandS.Property
import KE.KExcIs
import KE.KDictCopyH
import HandS.TupLen
import HandS.DictComp
import KE.DatumOrd
import PyProof.DictRoadsH
import PySem.Challenge.RW_surelabels_k37_what_is_no_reader
set_option Elab.async false
set_option linter.all false
set_option maxRecDepth 100000
set_option maxHeartbeats 4000000
/-! # Values without addresses, and what stands for them in the heap -/
namespace SL
open PySem PySem.Spec PyProof.Rows L2

/-- a value of a running def: data, or the k-th cell of the store (an object that may change) -/
inductive W where
  | non | bl (b : Bool) | int (i : Int) | str (x : Str)
  | tup (xs : List W) | lst (xs : List W) | dct (ks vs : List W)
  | ins (c : Str) (ns : List Str) (vs : List W)
  | cell (k : Nat)
  /-- a list that is locked (the script); a built-in class; an own class -/
  | ro (xs : List W) | ty (n : String) | cls (c : Str)
  /-- a tuple that is known to be plain -/
  | tpn (xs : List W)
  deriving Inhabited

inductive Cel where
  | lst (ws : List W) | dct (ks vs : List W) | ins (c : Str) (ns : List Str) (ws : List W) | frz (w : W)
  /-- a dict whose keys are nested tuples (l: it is walked; wo: the world of its hashes) -/
  | nct (l : Bool) (wo : World) (ks vs : List W)
def Cel.live : Cel → Bool
  | .frz _ => false
  | _ => true
abbrev Sto := List Cel
abbrev Fr := List (Option W)

/-- an exception: its class and its fields -/
structure Exc where
  c : Str
  ns : List Str
  vs : List W

inductive Out (α : Type) where
  | ok (a : α) (st : Sto) | err (x : Exc) (st : Sto) | bad
abbrev Sem := Fr → Sto → Out W
abbrev SemL := Fr → Sto → Out (List W)
abbrev SemB := Fr → Sto → Out Bool
abbrev Fn := List W → Sto → Out W
def Out.bind {α β : Type} (o : Out α) (f : α → Sto → Out β) : Out β := match o with
  | .ok a st => f a st
  | .err x st => .err x st
  | .bad => .bad
@[simp] theorem Out.bind_ok {α β : Type} (a : α) (st : Sto) (f : α → Sto → Out β) : (Out.ok a st).bind f = f a st := rfl
@[simp] theorem Out.bind_err {α β : Type} (x : Exc) (st : Sto) (f : α → Sto → Out β) : (Out.err x st).bind f = .err x st := rfl
@[simp] theorem Out.bind_bad {α β : Type} (f : α → Sto → Out β) : (Out.bad).bind f = .bad := rfl

/-! ## what stands for a value -/
def keyW : W → Option Key
  | .int i => some (.inl i)
  | .str x => some (.inr x)
  | _ => none
def keysW : List W → Option (List Key)
  | [] => some []
  | w :: r => match keyW w, keysW r with
    | some k, some ks => some (k :: ks)
    | _, _ => none
def keyT : W → Option (List Key)
  | .tup ws => keysW ws
  | _ => none
def mapO {α β : Type} (f : α → Option β) : List α → Option (List β)
  | [] => some []
  | a :: r => match f a, mapO f r with
    | some b, some bs => some (b :: bs)
    | _, _ => none
/-- how the keys of a dict are told: "L": it is locked (walked); "T": its keys are tuples; "TL": both -/
def kindW : List W → Option (Bool × (List Key ⊕ List (List Key)))
  | .ty t :: ks => if t = "L" then (mapO keyW ks).map fun kk => (true, .inl kk) else if t = "T" then (mapO keyT ks).map fun kk => (false, .inr kk) else if t = "TL" then (mapO keyT ks).map fun kk => (true, .inr kk) else none
  | ks => (mapO keyW ks).map fun kk => (false, .inl kk)
def dObj : (List Key ⊕ List (List Key)) → List V → HO
  | .inl kk, vs => .dK (kk.zip vs)
  | .inr kk, vs => .dT (kk.zip vs)
def dLen : (List Key ⊕ List (List Key)) → Nat
  | .inl kk => kk.length
  | .inr kk => kk.length
mutual
def nkW : W → Option NestedKey
  | .non => some .none
  | .bl b => some (.num (if b = true then 1 else 0))
  | .int i => some (.num i)
  | .str x => some (.text x)
  | .tup ws => (nkWs ws).map .tup
  | _ => none
def nkWs : List W → Option (List NestedKey)
  | [] => some []
  | w :: r => match nkW w, nkWs r with
    | some k, some ks => some (k :: ks)
    | _, _ => none
end
/-- a key of a dict: a tuple, not too deep -/
def nkey : W → Option NestedKey
  | .tup ws => (match nkW (.tup ws) with
    | some k => if k.depth ≤ 8 then some k else none
    | none => none)
  | _ => none
/-- a key of any kind -/
def nkeyM : W → Option NestedKey
  | .tup ws => nkey (.tup ws)
  | .non => some .none
  | .bl b => some (.num (if b = true then 1 else 0))
  | .int i => some (.num i)
  | .str x => some (.text x)
  | _ => none
abbrev NEnt := NestedKey × V × V
def entN (wo : World) (x : NestedKey × Value × Value) : DictEntry := ⟨x.1.hash wo, x.2.1, x.2.2⟩
abbrev SameN : NEnt → NestedKey × Value × Value → Prop := fun x y => x.1 = y.1 ∧ RelV x.2.1 y.2.1 ∧ RelV x.2.2 y.2.2
/-- a dict of these entries stands at a -/
def DkN (wo : World) (a : Addr) (xs : List NEnt) : HO := .ext fun h => (a == sysModules) = false ∧ xs.length ≤ sizeLine ∧ ∃ ys, Paired SameN xs ys ∧ ∃ o es ep, h.get? a = some o ∧ o.ExactDict ∧ o.data = .dict es ep ∧ es.toList = ys.map (entN wo) ∧ (ys.map (·.1)).Nodup
/-- a dict of these keys and values stands at a -/
def DctAt (F : Hp) (a : Addr) (ks : List W) (vs : List V) : Prop := ∃ l q, kindW ks = some (l, q) ∧ dLen q = vs.length ∧ Rd F a (dObj q vs) ∧ (l = false → ∀ kk, q = .inr kk → F a = some (.dT (kk.zip vs))) ∧ (l = true → ∃ o, F a = some (.frz o (dObj q vs)))

/-- a tuple: tracked -/
def TupAt (K : PySem.W.Frag) (F : Hp) (a : Addr) (xs : List V) : Prop :=
  F a = some (.tup xs)
/-- a plain tuple, known to the object -/
def TpnAt (F : Hp) (a : Addr) (xs : List V) : Prop := ∃ o : Obj, o.dict = none ∧ F a = some (.frz o (.tup xs))
theorem TpnAt.sq {K : PySem.W.Frag} {F : Hp} {a : Addr} {xs : List V} (h : TpnAt F a xs) : SqT K F a xs := let ⟨o, _, e⟩ := h; .inl (.inr ⟨o, e⟩)
theorem TupAt.sq {K : PySem.W.Frag} {F : Hp} {a : Addr} {xs : List V} (h : TupAt K F a xs) : SqT K F a xs := .inl (.inl h)

section
variable (K : PySem.W.Frag) (mg : Str → Option Value) (F : Hp) (μ : List Addr)
mutual
def Rep : W → V → Prop
  | .non, v => v = .non
  | .bl b, v => v = .bl b
  | .int i, v => v = .int i
  | .str x, v => v = .str x
  | .tup ws, v => ∃ a vs, v = .ref a ∧ TupAt K F a vs ∧ Reps ws vs
  | .lst ws, v => ∃ a vs, v = .ref a ∧ F a = some (.lst vs) ∧ Reps ws vs
  | .ro ws, v => ∃ a vs, v = .ref a ∧ SqL K F a vs ∧ Reps ws vs
  | .tpn ws, v => ∃ a vs, v = .ref a ∧ TpnAt F a vs ∧ Reps ws vs
  | .ty n, v => v = .ty n
  | .cls c, v => ∃ C, mg c = some (.ref C) ∧ v = .ref C
  | .dct ks ws, v => ∃ a vs, v = .ref a ∧ DctAt F a ks vs ∧ Reps ws vs
  | .ins c ns ws, v => ∃ a C dx vs, v = .ref a ∧ mg c = some (.ref C) ∧ ns.length = vs.length ∧ F a = some (.ins C dx (ns.zip vs)) ∧ Reps ws vs
  | .cell k, v => ∃ a, μ[k]? = some a ∧ v = .ref a
def Reps : List W → List V → Prop
  | [], vs => vs = []
  | w :: ws, vs => ∃ v r, vs = v :: r ∧ Rep w v ∧ Reps ws r
end
end

/-- what is never locked -/
def Fix : HO → Prop
  | .dK _ => False
  | .frz _ (.tup _) => True
  | .frz _ (.dT _) => True
  | .frz _ (.dK _) => True
  | .frz _ _ => False
  | _ => True
/-- what could be read can be read; all but dicts stands as it stood -/
structure Le (F F' : Hp) : Prop where
  rd : ∀ a u, Rd F a u → Rd F' a u
  fix : ∀ a u, Fix u → F a = some u → F' a = some u
theorem Le.refl (F : Hp) : Le F F := ⟨fun _ _ h => h, fun _ _ _ h => h⟩
theorem Le.trans {F F' F'' : Hp} (x : Le F F') (y : Le F' F'') : Le F F'' := ⟨fun a u h => y.rd a u (x.rd a u h), fun a u f h => y.fix a u f (x.fix a u f h)⟩
theorem Le.of {F F' : Hp} (h : ∀ a o, F a = some o → F' a = some o) : Le F F' := by
  refine ⟨fun a u r => ?_, fun a u _ q => h _ _ q⟩
  rcases r with r | ⟨o, r⟩
  · exact .inl (h _ _ r)
  · exact .inr ⟨o, h _ _ r⟩
theorem Le.lst {F F' : Hp} (x : Le F F') {a : Addr} {vs : List V} (h : F a = some (.lst vs)) : F' a = some (.lst vs) := x.fix _ _ trivial h
theorem Le.ins {F F' : Hp} (x : Le F F') {a C dx : Addr} {fs : List (Str × V)} (h : F a = some (.ins C dx fs)) : F' a = some (.ins C dx fs) := x.fix _ _ trivial h
theorem Le.xd {F F' : Hp} (x : Le F F') {a : Addr} {fs : List (Str × V)} (h : F a = some (.xd fs)) : F' a = some (.xd fs) := x.fix _ _ trivial h
theorem TupAt.le {K : PySem.W.Frag} {F F' : Hp} {a : Addr} {xs : List V} (x : Le F F') (h : TupAt K F a xs) : TupAt K F' a xs := x.fix _ _ trivial h
theorem TpnAt.le {F F' : Hp} {a : Addr} {xs : List V} (x : Le F F') (h : TpnAt F a xs) : TpnAt F' a xs := let ⟨o, d, e⟩ := h; ⟨o, d, x.fix _ _ trivial e⟩
theorem SqT.le {K : PySem.W.Frag} {F F' : Hp} {a : Addr} {xs : List V} (x : Le F F') (h : SqT K F a xs) : SqT K F' a xs := by
  rcases h with h | h
  · exact .inl (x.rd _ _ h)
  · exact .inr h
theorem SqL.le {K : PySem.W.Frag} {F F' : Hp} {a : Addr} {xs : List V} (x : Le F F') (h : SqL K F a xs) : SqL K F' a xs := by
  rcases h with h | h
  · exact .inl (x.rd _ _ h)
  · exact .inr h
theorem DctAt.le {F F' : Hp} {a : Addr} {ks : List W} {vs : List V} (x : Le F F') (h : DctAt F a ks vs) : DctAt F' a ks vs := by
  obtain ⟨l, q, h1, h2, h3, h4, h5⟩ := h
  exact ⟨l, q, h1, h2, x.rd _ _ h3, fun e kk eq => x.fix _ _ trivial (h4 e kk eq), fun e => let ⟨o, z⟩ := h5 e; ⟨o, x.fix _ _ (by cases q <;> trivial) z⟩⟩

def Pre (μ μ' : List Addr) : Prop := ∃ e, μ' = μ ++ e
theorem Pre.refl (μ : List Addr) : Pre μ μ := ⟨[], by simp⟩
theorem Pre.trans {a b c : List Addr} (x : Pre a b) (y : Pre b c) : Pre a c := by
  obtain ⟨e, rfl⟩ := x
  obtain ⟨f, rfl⟩ := y
  exact ⟨e ++ f, by simp⟩
theorem Pre.get {a b : List Addr} (x : Pre a b) {k : Nat} {p : Addr} (h : a[k]? = some p) : b[k]? = some p := by
  obtain ⟨e, rfl⟩ := x
  have hk : k < a.length := by
    rcases Nat.lt_or_ge k a.length with q | q
    · exact q
    · rw [List.getElem?_eq_none q] at h; cases h
  rw [List.getElem?_append_left hk]
  exact h

section
variable {K : PySem.W.Frag} {mg : Str → Option Value} {F F' : Hp} {μ μ' : List Addr}
mutual
theorem Rep.mono (x : Le F F') (p : Pre μ μ') : ∀ (w : W) (v : V), Rep K mg F μ w v → Rep K mg F' μ' w v
  | .non, v, h => by unfold Rep at h ⊢; exact h
  | .bl b, v, h => by unfold Rep at h ⊢; exact h
  | .int i, v, h => by unfold Rep at h ⊢; exact h
  | .str s, v, h => by unfold Rep at h ⊢; exact h
  | .tup ws, v, h => by
    unfold Rep at h ⊢
    obtain ⟨a, vs, e, s, r⟩ := h
    exact ⟨a, vs, e, s.le x, Reps.mono x p ws vs r⟩
  | .lst ws, v, h => by
    unfold Rep at h ⊢
    obtain ⟨a, vs, e, s, r⟩ := h
    exact ⟨a, vs, e, x.lst s, Reps.mono x p ws vs r⟩
  | .ro ws, v, h => by
    unfold Rep at h ⊢
    obtain ⟨a, vs, e, s, r⟩ := h
    exact ⟨a, vs, e, SqL.le x s, Reps.mono x p ws vs r⟩
  | .tpn ws, v, h => by
    unfold Rep at h ⊢
    obtain ⟨a, vs, e, s, r⟩ := h
    exact ⟨a, vs, e, s.le x, Reps.mono x p ws vs r⟩
  | .ty n, v, h => by unfold Rep at h ⊢; exact h
  | .cls c, v, h => by unfold Rep at h ⊢; exact h
  | .dct ks ws, v, h => by
    unfold Rep at h ⊢
    obtain ⟨a, vs, e, s, r⟩ := h
    exact ⟨a, vs, e, s.le x, Reps.mono x p ws vs r⟩
  | .ins c ns ws, v, h => by
    unfold Rep at h ⊢
    obtain ⟨a, C, dx, vs, e, g, l, s, r⟩ := h
    exact ⟨a, C, dx, vs, e, g, l, x.ins s, Reps.mono x p ws vs r⟩
  | .cell k, v, h => by
    unfold Rep at h ⊢
    obtain ⟨a, g, e⟩ := h
    exact ⟨a, p.get g, e⟩
theorem Reps.mono (x : Le F F') (p : Pre μ μ') : ∀ (ws : List W) (vs : List V), Reps K mg F μ ws vs → Reps K mg F' μ' ws vs
  | [], vs, h => by unfold Reps at h ⊢; exact h
  | w :: ws, vs, h => by
    unfold Reps at h ⊢
    obtain ⟨v, r, e, h1, h2⟩ := h
    exact ⟨v, r, e, Rep.mono x p w v h1, Reps.mono x p ws r h2⟩
end
theorem Reps.length : ∀ {ws : List W} {vs : List V}, Reps K mg F μ ws vs → ws.length = vs.length
  | [], vs, h => by unfold Reps at h; subst h; rfl
  | w :: ws, vs, h => by
    unfold Reps at h
    obtain ⟨v, r, rfl, _, h2⟩ := h
    simp [Reps.length h2]
theorem Reps.nil_iff {vs : List V} : Reps K mg F μ [] vs ↔ vs = [] := by unfold Reps; exact Iff.rfl
theorem Reps.nil : Reps K mg F μ [] [] := by unfold Reps; rfl
theorem Reps.cons {w : W} {ws : List W} {v : V} {vs : List V} (h : Rep K mg F μ w v) (r : Reps K mg F μ ws vs) : Reps K mg F μ (w :: ws) (v :: vs) := by
  unfold Reps; exact ⟨v, vs, rfl, h, r⟩
theorem Reps.cons_inv {w : W} {ws : List W} {vs : List V} (h : Reps K mg F μ (w :: ws) vs) : ∃ v r, vs = v :: r ∧ Rep K mg F μ w v ∧ Reps K mg F μ ws r := by
  unfold Reps at h; exact h
theorem Reps.get : ∀ {ws : List W} {vs : List V} {i : Nat} {w : W}, Reps K mg F μ ws vs → ws[i]? = some w → ∃ v, vs[i]? = some v ∧ Rep K mg F μ w v
  | [], _, _, _, _, e => by simp at e
  | w0 :: ws, vs, 0, w, h, e => by
    obtain ⟨v, r, rfl, h1, _⟩ := h.cons_inv
    simp at e; subst e; exact ⟨v, rfl, h1⟩
  | w0 :: ws, vs, i + 1, w, h, e => by
    obtain ⟨v, r, rfl, _, h2⟩ := h.cons_inv
    obtain ⟨v', e1, e2⟩ := Reps.get (i := i) h2 (by simpa using e)
    exact ⟨v', by simpa using e1, e2⟩
theorem Reps.get' : ∀ {ws : List W} {vs : List V} {i : Nat} {v : V}, Reps K mg F μ ws vs → vs[i]? = some v → ∃ w, ws[i]? = some w ∧ Rep K mg F μ w v := fun {ws vs i v} h e => by
  have hl := h.length
  have hi : i < vs.length := by
    rcases Nat.lt_or_ge i vs.length with q | q
    · exact q
    · rw [List.getElem?_eq_none q] at e; cases e
  have hw : ws[i]? = some (ws[i]'(by omega)) := by simp
  obtain ⟨v', e1, e2⟩ := h.get hw
  rw [e] at e1; cases e1
  exact ⟨_, hw, e2⟩
theorem Reps.append : ∀ {ws us : List W} {vs xs : List V}, Reps K mg F μ ws vs → Reps K mg F μ us xs → Reps K mg F μ (ws ++ us) (vs ++ xs)
  | [], us, vs, xs, h, r => by rw [Reps.nil_iff] at h; subst h; exact r
  | w :: ws, us, vs, xs, h, r => by
    obtain ⟨v, t, rfl, h1, h2⟩ := h.cons_inv
    exact .cons h1 (h2.append r)
theorem Reps.set : ∀ {ws : List W} {vs : List V} {w : W} {v : V} (i : Nat), Reps K mg F μ ws vs → Rep K mg F μ w v → Reps K mg F μ (ws.set i w) (vs.set i v)
  | [], vs, _, _, _, h, _ => by rw [Reps.nil_iff] at h; subst h; exact .nil
  | w0 :: ws, vs, _, _, 0, h, r => by
    obtain ⟨v, t, rfl, h1, h2⟩ := h.cons_inv
    exact .cons r h2
  | w0 :: ws, vs, _, _, i + 1, h, r => by
    obtain ⟨v, t, rfl, h1, h2⟩ := h.cons_inv
    exact .cons h1 (h2.set i r)
theorem Reps.take : ∀ {ws : List W} {vs : List V} (n : Nat), Reps K mg F μ ws vs → Reps K mg F μ (ws.take n) (vs.take n)
  | ws, vs, 0, h => by simp; exact .nil
  | [], vs, n + 1, h => by rw [Reps.nil_iff] at h; subst h; exact .nil
  | w :: ws, vs, n + 1, h => by
    obtain ⟨v, t, rfl, h1, h2⟩ := h.cons_inv
    exact .cons h1 (h2.take n)
theorem Reps.drop : ∀ {ws : List W} {vs : List V} (n : Nat), Reps K mg F μ ws vs → Reps K mg F μ (ws.drop n) (vs.drop n)
  | ws, vs, 0, h => h
  | [], vs, n + 1, h => by rw [Reps.nil_iff] at h; subst h; exact .nil
  | w :: ws, vs, n + 1, h => by
    obtain ⟨v, t, rfl, h1, h2⟩ := h.cons_inv
    exact h2.drop n
theorem Reps.reverse : ∀ {ws : List W} {vs : List V}, Reps K mg F μ ws vs → Reps K mg F μ ws.reverse vs.reverse
  | [], vs, h => by rw [Reps.nil_iff] at h; subst h; exact .nil
  | w :: ws, vs, h => by
    obtain ⟨v, t, rfl, h1, h2⟩ := h.cons_inv
    rw [List.reverse_cons, List.reverse_cons]
    exact h2.reverse.append (.cons h1 .nil)
end

/-! ## the store -/
def LiveA (μ : List Addr) (st : Sto) (hid : List Addr) (a : Addr) : Prop := a ∈ hid ∨ ∃ (k : Nat) (c : Cel), μ[k]? = some a ∧ st[k]? = some c ∧ c.live = true
open Classical in
/-- what no cell of the store holds: read, never changed -/
noncomputable def Fz (μ : List Addr) (st : Sto) (hid : List Addr) (H : Hp) : Hp := fun a => if LiveA μ st hid a then none else H a
theorem Fz.sub {μ : List Addr} {st : Sto} {hid : List Addr} {H : Hp} {a : Addr} {o : HO} (h : Fz μ st hid H a = some o) : H a = some o ∧ ¬ LiveA μ st hid a := by
  unfold Fz at h
  split at h
  · cases h
  · rename_i n; exact ⟨h, n⟩
theorem Fz.mk {μ : List Addr} {st : Sto} {hid : List Addr} {H : Hp} {a : Addr} {o : HO} (h : H a = some o) (n : ¬ LiveA μ st hid a) : Fz μ st hid H a = some o := by
  unfold Fz
  rw [if_neg n]; exact h
theorem Fz.le {μ : List Addr} {st : Sto} {hid : List Addr} {H : Hp} : Le (Fz μ st hid H) H := Le.of fun _ _ h => (Fz.sub h).1

/-- a dict that may be changed -/
def DctM (H : Hp) (a : Addr) (ks : List W) (vs : List V) : Prop := ∃ l q, kindW ks = some (l, q) ∧ dLen q = vs.length ∧ (if l = true then ∃ o, H a = some (.frz o (dObj q vs)) else H a = some (dObj q vs))
theorem DctM.rd {H : Hp} {a : Addr} {ks : List W} {vs : List V} (h : DctM H a ks vs) : DctAt H a ks vs := by
  obtain ⟨l, q, h1, h2, h3⟩ := h
  refine ⟨l, q, h1, h2, ?_⟩
  cases l with
  | true => exact ⟨.inr h3, (fun e => nomatch e), fun _ => h3⟩
  | false => exact ⟨.inl h3, (fun _ kk e => by subst e; exact h3), fun e => nomatch e⟩
theorem DctM.at {H F : Hp} {a : Addr} {ks : List W} {vs : List V} (h : DctM H a ks vs) (e : F a = H a) : DctAt F a ks vs := by
  obtain ⟨l, q, h1, h2, h3, h4⟩ := h.rd
  refine ⟨l, q, h1, h2, ?_⟩
  unfold Rd at h3 ⊢
  rw [e]; exact ⟨h3, h4⟩
theorem DctM.some {H : Hp} {a : Addr} {ks : List W} {vs : List V} (h : DctM H a ks vs) : ∃ o, H a = .some o := by
  obtain ⟨l, q, h1, h2, h3⟩ := h
  cases l with
  | true => obtain ⟨o, h3⟩ := h3; exact ⟨_, h3⟩
  | false => exact ⟨_, h3⟩
theorem DctM.of_eq {H H' : Hp} {a : Addr} {ks : List W} {vs : List V} (h : DctM H a ks vs) (e : H' a = H a) : DctM H' a ks vs := by
  obtain ⟨l, q, h1, h2, h3⟩ := h
  exact ⟨l, q, h1, h2, by rw [e]; exact h3⟩

section
variable (K : PySem.W.Frag) (mg : Str → Option Value)
/-- the keys, one by one -/
def KN (F : Hp) (μ : List Addr) (ks : List W) (xs : List NEnt) : Prop := ks.length = xs.length ∧ ∀ (i : Nat) k x, ks[i]? = some k → xs[i]? = some x → nkeyM k = some x.1 ∧ Rep K mg F μ k x.2.1
def DctN (H : Hp) (a : Addr) (l : Bool) (wo : World) (xs : List NEnt) : Prop := if l = true then ∃ o, H a = some (.frz o (DkN wo a xs)) else H a = some (DkN wo a xs)
def CelOk (F : Hp) (μ : List Addr) (H : Hp) (a : Addr) : Cel → Prop
  | .lst ws => ∃ vs, H a = some (.lst vs) ∧ Reps K mg F μ ws vs
  | .dct ks ws => ∃ vs, DctM H a ks vs ∧ Reps K mg F μ ws vs
  | .ins c ns ws => ∃ C dx vs, mg c = some (.ref C) ∧ ns.length = vs.length ∧ H a = some (.ins C dx (ns.zip vs)) ∧ Reps K mg F μ ws vs
  | .frz w => Rep K mg F μ w (.ref a)
  | .nct l wo ks ws => ∃ xs, DctN H a l wo xs ∧ KN K mg F μ ks xs ∧ Reps K mg F μ ws (xs.map (·.2.2))
structure StOk (μ : List Addr) (st : Sto) (hid : List Addr) (H : Hp) : Prop where
  len : μ.length = st.length
  inj : ∀ (j k : Nat) (a : Addr) (c d : Cel), μ[j]? = some a → μ[k]? = some a → st[j]? = some c → st[k]? = some d → c.live = true → d.live = true → j = k
  hidn : ∀ (k : Nat) (a : Addr) (c : Cel), μ[k]? = some a → st[k]? = some c → c.live = true → a ∉ hid
  hidt : ∀ a ∈ hid, H a ≠ none ∧ ∀ vs, H a ≠ some (.tup vs)
  ok : ∀ (k : Nat) (a : Addr) (c : Cel), μ[k]? = some a → st[k]? = some c → CelOk K mg (Fz μ st hid H) μ H a c
end
/-- what is locked stays as it is -/
def Lk (H H' : Hp) : Prop := ∀ a o u, H a = some (.frz o u) → H' a = some (.frz o u)
theorem Lk.refl (H : Hp) : Lk H H := fun _ _ _ h => h
theorem Lk.trans {H H' H'' : Hp} (x : Lk H H') (y : Lk H' H'') : Lk H H'' := fun a o u h => y a o u (x a o u h)
/-- from one state to a later one: what stands beside the cells stands -/
structure Grow (hid : List Addr) (μ : List Addr) (st : Sto) (H : Hp) (μ' : List Addr) (st' : Sto) (H' : Hp) : Prop where
  pre : Pre μ μ'
  le : Le (Fz μ st hid H) (Fz μ' st' hid H')
  hid : ∀ a ∈ hid, H' a = H a
  lck : Lk H H'
theorem Grow.refl {hid μ : List Addr} {st : Sto} {H : Hp} : Grow hid μ st H μ st H := ⟨.refl _, .refl _, fun _ _ => rfl, fun _ _ _ h => h⟩
theorem Grow.trans {hid μ μ' μ'' : List Addr} {st st' st'' : Sto} {H H' H'' : Hp} (x : Grow hid μ st H μ' st' H') (y : Grow hid μ' st' H' μ'' st'' H'') : Grow hid μ st H μ'' st'' H'' :=
  ⟨x.pre.trans y.pre, x.le.trans y.le, fun a h => (y.hid a h).trans (x.hid a h), fun a o u h => y.lck a o u (x.lck a o u h)⟩

section
variable {K : PySem.W.Frag} {mg : Str → Option Value} {μ μ' : List Addr} {st st' : Sto} {hid : List Addr} {H H' : Hp}
theorem DctN.some {H : Hp} {a : Addr} {l : Bool} {wo : World} {xs : List NEnt} (h : DctN H a l wo xs) : ∃ o, H a = .some o := by
  unfold DctN at h
  cases l with
  | true => obtain ⟨o, h⟩ := h; exact ⟨_, h⟩
  | false => exact ⟨_, h⟩
theorem DctN.of_eq {H H' : Hp} {a : Addr} {l : Bool} {wo : World} {xs : List NEnt} (h : DctN H a l wo xs) (e : H' a = H a) : DctN H' a l wo xs := by
  unfold DctN at h ⊢
  rw [e]; exact h
theorem KN.mono {F F' : Hp} {μ μ' : List Addr} {ks : List W} {xs : List NEnt} (h : KN K mg F μ ks xs) (l : Le F F') (p : Pre μ μ') : KN K mg F' μ' ks xs :=
  ⟨h.1, fun i k x a b => ⟨(h.2 i k x a b).1, Rep.mono l p _ _ (h.2 i k x a b).2⟩⟩
theorem CelOk.there {F : Hp} {a : Addr} {c : Cel} (h : CelOk K mg F μ H a c) (l : c.live = true) : ∃ o, H a = some o := by
  cases c with
  | lst ws => obtain ⟨vs, h, _⟩ := h; exact ⟨_, h⟩
  | dct ks ws => obtain ⟨vs, h, _⟩ := h; exact h.some
  | ins c ns ws => obtain ⟨C, dx, vs, _, _, h, _⟩ := h; exact ⟨_, h⟩
  | frz w => cases l
  | nct l wo ks ws => obtain ⟨xs, h, _⟩ := h; exact h.some
theorem StOk.liveT (s : StOk K mg μ st hid H) {a : Addr} (h : LiveA μ st hid a) : H a ≠ none := by
  rcases h with h | ⟨k, c, h1, h2, h3⟩
  · exact (s.hidt a h).1
  · obtain ⟨o, e⟩ := (s.ok k a c h1 h2).there h3
    rw [e]; exact fun z => nomatch z
theorem StOk.notLive (s : StOk K mg μ st hid H) {a : Addr} (h : H a = none) : ¬ LiveA μ st hid a := fun z => s.liveT z h
/-- a new object beside the cells -/
theorem StOk.laid (s : StOk K mg μ st hid H) {p : Addr} {o : HO} (hp : H p = none) : StOk K mg μ st hid (upd H p o) ∧ Grow hid μ st H μ st (upd H p o) ∧ Fz μ st hid (upd H p o) p = some o := by
  have nl := s.notLive hp
  have hne : ∀ a, LiveA μ st hid a → a ≠ p := fun a h e => nl (e ▸ h)
  have le : Le (Fz μ st hid H) (Fz μ st hid (upd H p o)) := Le.of fun a u h => by
    obtain ⟨h1, h2⟩ := Fz.sub h
    exact Fz.mk (by rw [upd_ne (ne_of_none h1 hp)]; exact h1) h2
  refine ⟨⟨s.len, s.inj, s.hidn, fun a h => ?_, fun k a c h1 h2 => ?_⟩, ⟨.refl _, le, fun a h => ?_, fun a o u h => by rw [upd_ne (ne_of_none h hp)]; exact h⟩, Fz.mk upd_same nl⟩
  · rw [upd_ne (hne a (Or.inl h))]; exact s.hidt a h
  · have q := s.ok k a c h1 h2
    cases c with
    | lst ws =>
      obtain ⟨vs, e, r⟩ := q
      exact ⟨vs, by rw [upd_ne (ne_of_none e hp)]; exact e, r.mono le (.refl _)⟩
    | dct ks ws =>
      obtain ⟨vs, e, r⟩ := q
      exact ⟨vs, e.of_eq (upd_ne (hne a (Or.inr ⟨k, _, h1, h2, rfl⟩))), r.mono le (.refl _)⟩
    | ins c ns ws =>
      obtain ⟨C, dx, vs, g, l, e, r⟩ := q
      exact ⟨C, dx, vs, g, l, by rw [upd_ne (ne_of_none e hp)]; exact e, r.mono le (.refl _)⟩
    | frz w => exact Rep.mono le (.refl _) _ _ q
    | nct l wo ks ws =>
      obtain ⟨xs, e, kn, r⟩ := q
      exact ⟨xs, e.of_eq (upd_ne (hne a (Or.inr ⟨k, _, h1, h2, rfl⟩))), kn.mono le (.refl _), r.mono le (.refl _)⟩
  · rw [upd_ne (hne a (Or.inl h))]
end

/-! ## a body's state -/
/-- what is wished of an exception, and what is known besides (of a caught one) -/
structure Wish where
  w : WX
  /-- slots that stay as they are -/
  lock : List Nat
  y : L2.St → Hp → List Addr → Prop
  mono : ∀ σ F F' μ μ', Le F F' → Pre μ μ' → y σ F μ → y σ F' μ'
  slot : ∀ σ σ' F μ, (∀ i ∈ lock, σ'[i]? = σ[i]?) → y σ F μ → y σ' F μ
def Wish.of (w : WX) : Wish := ⟨w, [], fun _ _ _ => True, fun _ _ _ _ _ _ _ _ => trivial, fun _ _ _ _ _ _ => trivial⟩
structure SI (K : PySem.W.Frag) (mg : Str → Option Value) (Wx : Wish) (μ : List Addr) (st : Sto) (hid : List Addr) (fr : Fr) (σ : L2.St) (H : Hp) : Prop where
  sto : StOk K mg μ st hid H
  len : fr.length = σ.length
  loc : ∀ (i : Nat) (w : W), fr[i]? = some (some w) → ∃ v, σ[i]? = some (some v) ∧ Rep K mg (Fz μ st hid H) μ w v
  ex : Wx.y σ (Fz μ st hid H) μ
theorem SI.next {Wx : Wish} {K : PySem.W.Frag} {mg : Str → Option Value} {μ μ' : List Addr} {st st' : Sto} {hid : List Addr} {fr : Fr} {σ : L2.St} {H H' : Hp} (s : SI K mg Wx μ st hid fr σ H) (k : StOk K mg μ' st' hid H') (x : Grow hid μ st H μ' st' H') : SI K mg Wx μ' st' hid fr σ H' :=
  ⟨k, s.len, fun i w h => by
    obtain ⟨v, e, r⟩ := s.loc i w h
    exact ⟨v, e, Rep.mono x.le x.pre _ _ r⟩, Wx.mono _ _ _ _ _ x.le x.pre s.ex⟩
theorem SI.set {Wx : Wish} {K : PySem.W.Frag} {mg : Str → Option Value} {μ : List Addr} {st : Sto} {hid : List Addr} {fr : Fr} {σ : L2.St} {H : Hp} (s : SI K mg Wx μ st hid fr σ H) {w : W} {v : V} (i : Nat) (hi : i ∉ Wx.lock) (r : Rep K mg (Fz μ st hid H) μ w v) : SI K mg Wx μ st hid (fr.set i (some w)) (σ.set i (some v)) H :=
  ⟨s.sto, by simpa using s.len, fun j u h => by
    by_cases e : i = j
    · subst e
      have hi : i < fr.length := by
        rcases Nat.lt_or_ge i fr.length with q | q
        · exact q
        · rw [List.set_eq_of_length_le q, List.getElem?_eq_none q] at h; cases h
      rw [List.getElem?_set_self hi] at h
      cases h
      exact ⟨v, by rw [List.getElem?_set_self (by rw [← s.len]; exact hi)], r⟩
    · rw [List.getElem?_set_ne e] at h
      rw [List.getElem?_set_ne e]
      exact s.loc j u h, Wx.slot _ _ _ _ (fun j hj => List.getElem?_set_ne (fun z : i = j => hi (z ▸ hj))) s.ex⟩

/-- an exception's own part -/
def XRep (K : PySem.W.Frag) (mg : Str → Option Value) (F : Hp) (μ : List Addr) (x : Exc) (c : Value) (d : Option Addr) : Prop :=
  ∃ C, mg x.c = some (.ref C) ∧ c = .ref C ∧ ((x.ns = [] ∧ d = none) ∨ ∃ dx vs, d = some dx ∧ x.ns.length = vs.length ∧ F dx = some (.xd (x.ns.zip vs)) ∧ Reps K mg F μ x.vs vs)

section
variable (K : PySem.W.Frag) (mg : Str → Option Value)
/-- what is wanted behind an expression -/
def EPost (Wx : WX) (hid μ : List Addr) (st : Sto) (σ : L2.St) (H : Hp) (Q : VK) : Out W → Prop
  | .ok w st' => ∀ μ' H' v, StOk K mg μ' st' hid H' → Grow hid μ st H μ' st' H' → Rep K mg (Fz μ' st' hid H') μ' w v → Q v H'
  | .err x st' => ∀ μ' H' c d, StOk K mg μ' st' hid H' → Grow hid μ st H μ' st' H' → XRep K mg (Fz μ' st' hid H') μ' x c d → Wx c d σ H'
  | .bad => False
def LPost (Wx : WX) (hid μ : List Addr) (st : Sto) (σ : L2.St) (H : Hp) (Q : List V → Hp → Prop) : Out (List W) → Prop
  | .ok ws st' => ∀ μ' H' vs, StOk K mg μ' st' hid H' → Grow hid μ st H μ' st' H' → Reps K mg (Fz μ' st' hid H') μ' ws vs → Q vs H'
  | .err x st' => ∀ μ' H' c d, StOk K mg μ' st' hid H' → Grow hid μ st H μ' st' H' → XRep K mg (Fz μ' st' hid H') μ' x c d → Wx c d σ H'
  | .bad => False
def BPost (Wx : WX) (hid μ : List Addr) (st : Sto) (σ : L2.St) (H : Hp) (Q : Bool → Hp → Prop) : Out Bool → Prop
  | .ok b st' => ∀ μ' H', StOk K mg μ' st' hid H' → Grow hid μ st H μ' st' H' → Q b H'
  | .err x st' => ∀ μ' H' c d, StOk K mg μ' st' hid H' → Grow hid μ st H μ' st' H' → XRep K mg (Fz μ' st' hid H') μ' x c d → Wx c d σ H'
  | .bad => False
def tE (Wx : Wish) (f : Sem) : TE := fun σ H Q => ∃ μ st hid fr, SI K mg Wx μ st hid fr σ H ∧ EPost K mg Wx.w hid μ st σ H Q (f fr st)
def tA (Wx : Wish) (f : SemL) : TA := fun σ H Q => ∃ μ st hid fr, SI K mg Wx μ st hid fr σ H ∧ LPost K mg Wx.w hid μ st σ H Q (f fr st)
def tB' (Wx : Wish) (f : SemB) : TT := fun σ H Q => ∃ μ st hid fr, SI K mg Wx μ st hid fr σ H ∧ BPost K mg Wx.w hid μ st σ H Q (f fr st)
end
section
variable {K : PySem.W.Frag} {mg : Str → Option Value} {Wx : WX} {hid μ μ' : List Addr} {st st' : Sto} {σ : L2.St} {H H' : Hp}
theorem EPost.from {Q : VK} {o : Out W} (x : Grow hid μ st H μ' st' H') (h : EPost K mg Wx hid μ st σ H Q o) : EPost K mg Wx hid μ' st' σ H' Q o := by
  cases o with
  | ok w s => exact fun μ2 H2 v a b c => h μ2 H2 v a (x.trans b) c
  | err e s => exact fun μ2 H2 c d a b r => h μ2 H2 c d a (x.trans b) r
  | bad => exact h
theorem LPost.from {Q : List V → Hp → Prop} {o : Out (List W)} (x : Grow hid μ st H μ' st' H') (h : LPost K mg Wx hid μ st σ H Q o) : LPost K mg Wx hid μ' st' σ H' Q o := by
  cases o with
  | ok w s => exact fun μ2 H2 v a b c => h μ2 H2 v a (x.trans b) c
  | err e s => exact fun μ2 H2 c d a b r => h μ2 H2 c d a (x.trans b) r
  | bad => exact h
theorem BPost.from {Q : Bool → Hp → Prop} {o : Out Bool} (x : Grow hid μ st H μ' st' H') (h : BPost K mg Wx hid μ st σ H Q o) : BPost K mg Wx hid μ' st' σ H' Q o := by
  cases o with
  | ok w s => exact fun μ2 H2 a b => h μ2 H2 a (x.trans b)
  | err e s => exact fun μ2 H2 c d a b r => h μ2 H2 c d a (x.trans b) r
  | bad => exact h
end
theorem PEm {X : Cx} {e : Expr} {t t' : TE} (h : PE X e t) (i : ∀ σ H Q, t' σ H Q → t σ H Q) : PE X e t' := ⟨fun pins s σ H Q I q => h.run pins s σ H Q I (i σ H Q q)⟩
theorem PTm {X : Cx} {e : Expr} {t t' : TT} (h : PT X e t) (i : ∀ σ H Q, t' σ H Q → t σ H Q) : PT X e t' := ⟨fun pins s σ H Q I q => h.run pins s σ H Q I (i σ H Q q)⟩
theorem PWm {X : Cx} {e : Expr} {t t' : TT} (h : PW X e t) (i : ∀ σ H Q, t' σ H Q → t σ H Q) : PW X e t' := ⟨fun wh pins s σ H Q I q => h.run wh pins s σ H Q I (i σ H Q q)⟩
theorem PAm {X : Cx} {e : List Expr} {t t' : TA} (h : PA X e t) (i : ∀ σ H Q, t' σ H Q → t σ H Q) : PA X e t' := ⟨fun pos pins s σ H Q I q => h.run pos pins s σ H Q I (i σ H Q q)⟩
theorem PSm {X : Cx} {e : Stmt} {t t' : TS} (h : PS X e t) (i : ∀ D σ H, t' D σ H → t D σ H) : PS X e t' := ⟨fun pins s σ H D I q => h.run pins s σ H D I (i D σ H q)⟩
theorem PSsm {X : Cx} {e : List Stmt} {t t' : TS} (h : PSs X e t) (i : ∀ D σ H, t' D σ H → t D σ H) : PSs X e t' := ⟨fun pins s σ H D I q => h.run pins s σ H D I (i D σ H q)⟩

/-- the judgements: Wx is what is wished of an exception -/
abbrev EV (X : Cx) (Wx : Wish) (e : Expr) (f : Sem) : Prop := PE X e (tE X.K X.mg Wx f)
abbrev TV (X : Cx) (Wx : Wish) (e : Expr) (f : SemB) : Prop := PT X e (tB' X.K X.mg Wx f)
abbrev AV (X : Cx) (Wx : Wish) (es : List Expr) (f : SemL) : Prop := PA X es (tA X.K X.mg Wx f)
end SL

namespace SL
open PySem PySem.Spec PyProof.Rows L2
section
variable {X : Cx} {Wx : Wish}

/-! ## names and constants -/
def eVar (i : Nat) : Sem := fun fr st => match fr[i]? with
  | some (some w) => .ok w st
  | _ => .bad
theorem ev_var {i : Nat} {x : Str} {pos : Pos} (hN : X.N[i]? = some x := by rfl) (hv : Vis X.env.scope x := by first | exact Or.inl rfl | exact Or.inr (Or.inl rfl) | exact Or.inr (Or.inr rfl)) (hd : (x == ("__debug__" : Str)) = false := by decide)
    (hcd : (x == ("__classdict__" : Str)) = false := by decide) : EV X Wx (.Name x pos) (eVar i) :=
  PEm (pe_var hN hv hd hcd) fun σ H Q ⟨μ, st, hid, fr, S, P⟩ => by
    unfold eVar at P
    split at P
    · rename_i w h
      obtain ⟨v, e, r⟩ := S.loc i w h
      exact ⟨v, e, P μ H v S.sto .refl r⟩
    · exact P.elim
def eC (w : W) : Sem := fun _ st => .ok w st
theorem ev_c {e : Expr} {w : W} {v : V} (h : PE X e (tC v)) (r : ∀ F μ, Rep X.K X.mg F μ w v) : EV X Wx e (eC w) :=
  PEm h fun σ H Q ⟨μ, st, hid, fr, S, P⟩ => P μ H v S.sto .refl (r _ _)
theorem ev_int {i : Int} {j pos} : EV X Wx (.Constant (.int i) j pos) (eC (.int i)) := ev_c pe_int fun F μ => by unfold Rep; rfl
theorem ev_bl {i : Bool} {j pos} : EV X Wx (.Constant (.bool i) j pos) (eC (.bl i)) := ev_c pe_bl fun F μ => by unfold Rep; rfl
theorem ev_str {i : Str} {j pos} : EV X Wx (.Constant (.str i) j pos) (eC (.str i)) := ev_c pe_str fun F μ => by unfold Rep; rfl
theorem ev_non {j pos} : EV X Wx (.Constant .none j pos) (eC .non) := ev_c pe_non fun F μ => by unfold Rep; rfl
theorem ev_globI {x : Str} {i : Int} {t : Tok} {pos : Pos} (hm : X.mg x = some (.int i t)) (hg : Gl X x := by rfl) (hd : (x == ("__debug__" : Str)) = false := by decide) : EV X Wx (.Name x pos) (eC (.int i)) := ev_c (v := .int i) (pe_glob hg hm ⟨t, rfl⟩ hd) fun F μ => by unfold Rep; rfl
theorem ev_globS {x : Str} {i : Str} {t : Tok} {pos : Pos} (hm : X.mg x = some (.str i t)) (hg : Gl X x := by rfl) (hd : (x == ("__debug__" : Str)) = false := by decide) : EV X Wx (.Name x pos) (eC (.str i)) := ev_c (v := .str i) (pe_glob hg hm ⟨t, rfl⟩ hd) fun F μ => by unfold Rep; rfl

/-! ## operations by values -/
abbrev Op2 := W → W → Sto → Out W
abbrev Op1 := W → Sto → Out W
abbrev OpN := List W → Sto → Out W
def Op2S (X : Cx) (op : Op2) (r : R2) : Prop := ∀ (Wx : WX) (hid μ : List Addr) (st : Sto) (σ : L2.St) (H : Hp) (Q : VK) (w u : W) (x y : V), StOk X.K X.mg μ st hid H → Rep X.K X.mg (Fz μ st hid H) μ w x → Rep X.K X.mg (Fz μ st hid H) μ u y →
  EPost X.K X.mg Wx hid μ st σ H Q (op w u st) → r x y H Q
def e2 (op : Op2) (f g : Sem) : Sem := fun fr st => (f fr st).bind fun w st1 => (g fr st1).bind fun u st2 => op w u st2
theorem e2_read {op : Op2} {r : R2} {f g : Sem} (hs : Op2S X op r) : ∀ σ H Q, tE X.K X.mg Wx (e2 op f g) σ H Q → tOp r (tE X.K X.mg Wx f) (tE X.K X.mg Wx g) σ H Q := fun σ H Q ⟨μ, st, hid, fr, S, P⟩ => by
  refine ⟨μ, st, hid, fr, S, ?_⟩
  unfold e2 at P
  cases h : f fr st with
  | bad => rw [h] at P; exact P
  | err x s => rw [h] at P; exact P
  | ok w st1 =>
    rw [h] at P
    intro μ1 H1 v k1 g1 r1
    refine ⟨μ1, st1, hid, fr, S.next k1 g1, ?_⟩
    have P1 := EPost.from g1 P
    rw [Out.bind_ok] at P1
    cases h2 : g fr st1 with
    | bad => rw [h2] at P1; exact P1
    | err x s => rw [h2] at P1; exact P1
    | ok u st2 =>
      rw [h2] at P1
      intro μ2 H2 y k2 g2 r2
      exact hs Wx.w hid μ2 st2 σ H2 Q w u v y k2 (Rep.mono g2.le g2.pre _ _ r1) r2 (EPost.from g2 P1)
theorem ev_op {op : Operator} {o : Op2} {r : R2} {a b : Expr} {f g : Sem} {pos : Pos} (ho : OpR X (binaryOp op) r) (hs : Op2S X o r) (ha : EV X Wx a f) (hb : EV X Wx b g) : EV X Wx (.BinOp a op b pos) (e2 o f g) :=
  PEm (pe_op ho ha hb) (e2_read hs)
theorem ev_cmp {op : CmpOp} {o : Op2} {r : R2} {a b : Expr} {f g : Sem} {pos : Pos} (ho : OpR X (compareOp op) r) (hs : Op2S X o r) (ha : EV X Wx a f) (hb : EV X Wx b g) (hm : behindInMarks op b = false) : EV X Wx (.Compare a [op] [b] pos) (e2 o f g) :=
  PEm (pe_cmpR ho ha hb hm) (e2_read hs)
theorem ev_ix {o : Op2} {r : R2} {a b : Expr} {f g : Sem} {pos : Pos} (ho : IxR X r) (hs : Op2S X o r) (ha : EV X Wx a f) (hb : EV X Wx b g) (hp : PlainIx b) : EV X Wx (.Subscript a b pos) (e2 o f g) :=
  PEm (pe_ix ho ha hb hp) (e2_read hs)
/-- a value as a test -/
def bOf (f : Sem) : SemB := fun fr st => (f fr st).bind fun w st1 => match w with
  | .bl b => .ok b st1
  | _ => .bad
theorem bOf_read {f : Sem} {t : TE} (ht : ∀ σ H Q, tE X.K X.mg Wx f σ H Q → t σ H Q) : ∀ σ H Q, tB' X.K X.mg Wx (bOf f) σ H Q → tTest t σ H Q := fun σ H Q ⟨μ, st, hid, fr, S, P⟩ => by
  refine ht σ H _ ⟨μ, st, hid, fr, S, ?_⟩
  unfold bOf at P
  cases h : f fr st with
  | bad => rw [h] at P; exact P
  | err x s => rw [h] at P; exact P
  | ok w st1 =>
    rw [h, Out.bind_ok] at P
    intro μ1 H1 v k1 g1 r1
    cases w with
    | bl b =>
      unfold Rep at r1
      exact ⟨b, r1, P μ1 H1 k1 g1⟩
    | _ => exact P.elim
theorem tv_cmp {op : CmpOp} {o : Op2} {r : R2} {a b : Expr} {f g : Sem} {pos : Pos} (ho : OpR X (compareOp op) r) (hs : Op2S X o r) (ha : EV X Wx a f) (hb : EV X Wx b g) (hm : behindInMarks op b = false) : TV X Wx (.Compare a [op] [b] pos) (bOf (e2 o f g)) :=
  PTm (pt_cmpR ho ha hb hm) (bOf_read (e2_read hs))
theorem tv_val {e : Expr} {f : Sem} (h : EV X Wx e f) (he : ∀ whole, isTrue e X.env whole = (do let v ← whole; standAt e.pos; holding [v] (truthy v)) := by intro _; rfl) : TV X Wx e (bOf f) :=
  PTm (pt_val h he) fun σ H Q P => bOf_read (fun _ _ _ z => z) σ H Q P
/-! ### not, and, or -/
def bNot (f : SemB) : SemB := fun fr st => (f fr st).bind fun b st1 => .ok (!b) st1
theorem tv_not {a : Expr} {f : SemB} {pos : Pos} (ha : TV X Wx a f) : TV X Wx (.UnaryOp .Not a pos) (bNot f) := PTm (pt_not ha) fun σ H Q ⟨μ, st, hid, fr, S, P⟩ => by
  refine ⟨μ, st, hid, fr, S, ?_⟩
  unfold bNot at P
  cases h : f fr st with
  | bad => rw [h] at P; exact P
  | err x s => rw [h] at P; exact P
  | ok w st1 => rw [h] at P; exact P
def bOr (f g : SemB) : SemB := fun fr st => (f fr st).bind fun b st1 => if b = true then .ok true st1 else g fr st1
theorem bOr_read {f g : SemB} : ∀ σ H Q, tB' X.K X.mg Wx (bOr f g) σ H Q → tOr (tB' X.K X.mg Wx f) (tB' X.K X.mg Wx g) σ H Q := fun σ H Q ⟨μ, st, hid, fr, S, P⟩ => by
  refine ⟨μ, st, hid, fr, S, ?_⟩
  unfold bOr at P
  cases h : f fr st with
  | bad => rw [h] at P; exact P
  | err x s => rw [h] at P; exact P
  | ok b st1 =>
    rw [h, Out.bind_ok] at P
    intro μ1 H1 k1 g1
    cases b with
    | false => exact iteF ⟨μ1, st1, hid, fr, S.next k1 g1, BPost.from g1 (by simpa using P)⟩
    | true => exact iteT ((by simpa using P : BPost X.K X.mg Wx.w hid μ st σ H Q (.ok true st1)) μ1 H1 k1 g1)
abbrev WV (X : Cx) (Wx : Wish) (e : Expr) (f : SemB) : Prop := PW X e (tB' X.K X.mg Wx f)
theorem wv_or1 {a : Expr} {f : SemB} {pos : Pos} (ha : TV X Wx a f) : WV X Wx (.BoolOp .Or [a] pos) f := pw_or1 ha
theorem wv_or {a b : Expr} {rest : List Expr} {f g : SemB} {pos : Pos} (ha : TV X Wx a f) (hb : WV X Wx (.BoolOp .Or (b :: rest) pos) g) : WV X Wx (.BoolOp .Or (a :: b :: rest) pos) (bOr f g) := PWm (pw_or ha hb) bOr_read
theorem tv_w {e : Expr} {f : SemB} (h : WV X Wx e f) : TV X Wx e f := h.pt
/-- .. as values -/
def eAnd (f g : Sem) : Sem := fun fr st => (f fr st).bind fun w st1 => match w with
  | .bl b => if b = true then g fr st1 else .ok (.bl false) st1
  | _ => .bad
def eOr (f g : Sem) : Sem := fun fr st => (f fr st).bind fun w st1 => match w with
  | .bl b => if b = true then .ok (.bl true) st1 else g fr st1
  | _ => .bad
def eNot (f : Sem) : Sem := fun fr st => (f fr st).bind fun w st1 => match w with
  | .bl b => .ok (.bl (!b)) st1
  | _ => .bad
theorem rep_bl {K : PySem.W.Frag} {mg : Str → Option Value} {F : Hp} {μ : List Addr} {b : Bool} : Rep K mg F μ (.bl b) (.bl b) := by unfold Rep; rfl
theorem rep_int {K : PySem.W.Frag} {mg : Str → Option Value} {F : Hp} {μ : List Addr} {b : Int} : Rep K mg F μ (.int b) (.int b) := by unfold Rep; rfl
theorem rep_str {K : PySem.W.Frag} {mg : Str → Option Value} {F : Hp} {μ : List Addr} {b : Str} : Rep K mg F μ (.str b) (.str b) := by unfold Rep; rfl
theorem rep_non {K : PySem.W.Frag} {mg : Str → Option Value} {F : Hp} {μ : List Addr} : Rep K mg F μ .non .non := by unfold Rep; rfl
theorem rep_bl_inv {K : PySem.W.Frag} {mg : Str → Option Value} {F : Hp} {μ : List Addr} {b : Bool} {v : V} (h : Rep K mg F μ (.bl b) v) : v = .bl b := by unfold Rep at h; exact h
theorem rep_int_inv {K : PySem.W.Frag} {mg : Str → Option Value} {F : Hp} {μ : List Addr} {b : Int} {v : V} (h : Rep K mg F μ (.int b) v) : v = .int b := by unfold Rep at h; exact h
theorem rep_str_inv {K : PySem.W.Frag} {mg : Str → Option Value} {F : Hp} {μ : List Addr} {b : Str} {v : V} (h : Rep K mg F μ (.str b) v) : v = .str b := by unfold Rep at h; exact h
theorem rep_non_inv {K : PySem.W.Frag} {mg : Str → Option Value} {F : Hp} {μ : List Addr} {v : V} (h : Rep K mg F μ .non v) : v = .non := by unfold Rep at h; exact h
theorem rep_tup_inv {K : PySem.W.Frag} {mg : Str → Option Value} {F : Hp} {μ : List Addr} {ws : List W} {v : V} (h : Rep K mg F μ (.tup ws) v) : ∃ a vs, v = .ref a ∧ TupAt K F a vs ∧ Reps K mg F μ ws vs := by unfold Rep at h; exact h
theorem rep_tpn_inv {K : PySem.W.Frag} {mg : Str → Option Value} {F : Hp} {μ : List Addr} {ws : List W} {v : V} (h : Rep K mg F μ (.tpn ws) v) : ∃ a vs, v = .ref a ∧ TpnAt F a vs ∧ Reps K mg F μ ws vs := by unfold Rep at h; exact h
theorem rep_lst_inv {K : PySem.W.Frag} {mg : Str → Option Value} {F : Hp} {μ : List Addr} {ws : List W} {v : V} (h : Rep K mg F μ (.lst ws) v) : ∃ a vs, v = .ref a ∧ F a = some (.lst vs) ∧ Reps K mg F μ ws vs := by unfold Rep at h; exact h
theorem rep_ro_inv {K : PySem.W.Frag} {mg : Str → Option Value} {F : Hp} {μ : List Addr} {ws : List W} {v : V} (h : Rep K mg F μ (.ro ws) v) : ∃ a vs, v = .ref a ∧ SqL K F a vs ∧ Reps K mg F μ ws vs := by unfold Rep at h; exact h
theorem rep_ty_inv {K : PySem.W.Frag} {mg : Str → Option Value} {F : Hp} {μ : List Addr} {n : String} {v : V} (h : Rep K mg F μ (.ty n) v) : v = .ty n := by unfold Rep at h; exact h
theorem rep_cell_inv {K : PySem.W.Frag} {mg : Str → Option Value} {F : Hp} {μ : List Addr} {k : Nat} {v : V} (h : Rep K mg F μ (.cell k) v) : ∃ a, μ[k]? = some a ∧ v = .ref a := by unfold Rep at h; exact h
theorem rep_tup {K : PySem.W.Frag} {mg : Str → Option Value} {F : Hp} {μ : List Addr} {ws : List W} {a : Addr} {vs : List V} (h : F a = some (.tup vs)) (r : Reps K mg F μ ws vs) : Rep K mg F μ (.tup ws) (.ref a) := by unfold Rep; exact ⟨a, vs, rfl, h, r⟩
theorem rep_lst {K : PySem.W.Frag} {mg : Str → Option Value} {F : Hp} {μ : List Addr} {ws : List W} {a : Addr} {vs : List V} (h : F a = some (.lst vs)) (r : Reps K mg F μ ws vs) : Rep K mg F μ (.lst ws) (.ref a) := by unfold Rep; exact ⟨a, vs, rfl, h, r⟩
theorem ev_and {a b : Expr} {rest : List Expr} {f g : Sem} {pos : Pos} (ha : EV X Wx a f) (hb : EV X Wx (.BoolOp .And (b :: rest) pos) g) : EV X Wx (.BoolOp .And (a :: b :: rest) pos) (eAnd f g) := PEm (pe_and ha hb) fun σ H Q ⟨μ, st, hid, fr, S, P⟩ => by
  refine ⟨μ, st, hid, fr, S, ?_⟩
  unfold eAnd at P
  cases h : f fr st with
  | bad => rw [h] at P; exact P
  | err x s => rw [h] at P; exact P
  | ok w st1 =>
    rw [h, Out.bind_ok] at P
    intro μ1 H1 v k1 g1 r1
    cases w with
    | bl c =>
      refine ⟨c, rep_bl_inv r1, ?_⟩
      cases c with
      | true => exact iteT ⟨μ1, st1, hid, fr, S.next k1 g1, EPost.from g1 (by simpa using P)⟩
      | false => exact iteF ((by simpa using P : EPost X.K X.mg Wx.w hid μ st σ H Q (.ok (.bl false) st1)) μ1 H1 _ k1 g1 rep_bl)
    | _ => exact P.elim
theorem ev_or {a b : Expr} {rest : List Expr} {f g : Sem} {pos : Pos} (ha : EV X Wx a f) (hb : EV X Wx (.BoolOp .Or (b :: rest) pos) g) : EV X Wx (.BoolOp .Or (a :: b :: rest) pos) (eOr f g) := PEm (pe_or ha hb) fun σ H Q ⟨μ, st, hid, fr, S, P⟩ => by
  refine ⟨μ, st, hid, fr, S, ?_⟩
  unfold eOr at P
  cases h : f fr st with
  | bad => rw [h] at P; exact P
  | err x s => rw [h] at P; exact P
  | ok w st1 =>
    rw [h, Out.bind_ok] at P
    intro μ1 H1 v k1 g1 r1
    cases w with
    | bl c =>
      refine ⟨c, rep_bl_inv r1, ?_⟩
      cases c with
      | false => exact iteF ⟨μ1, st1, hid, fr, S.next k1 g1, EPost.from g1 (by simpa using P)⟩
      | true => exact iteT ((by simpa using P : EPost X.K X.mg Wx.w hid μ st σ H Q (.ok (.bl true) st1)) μ1 H1 _ k1 g1 rep_bl)
    | _ => exact P.elim
theorem ev_one {op : BoolOp} {a : Expr} {f : Sem} {pos : Pos} (ha : EV X Wx a f) : EV X Wx (.BoolOp op [a] pos) f := pe_one ha
theorem ev_not {a : Expr} {f : Sem} {pos : Pos} (ha : EV X Wx a f) : EV X Wx (.UnaryOp .Not a pos) (eNot f) := PEm (pe_not ha) fun σ H Q ⟨μ, st, hid, fr, S, P⟩ => by
  refine ⟨μ, st, hid, fr, S, ?_⟩
  unfold eNot at P
  cases h : f fr st with
  | bad => rw [h] at P; exact P
  | err x s => rw [h] at P; exact P
  | ok w st1 =>
    rw [h, Out.bind_ok] at P
    intro μ1 H1 v k1 g1 r1
    cases w with
    | bl c => exact ⟨c, rep_bl_inv r1, P μ1 H1 _ k1 g1 rep_bl⟩
    | _ => exact P.elim
/-- a op b op' c -/
def eChain (op op' : Op2) (f g h : Sem) : Sem := fun fr st => (f fr st).bind fun x st1 => (g fr st1).bind fun y st2 => (op x y st2).bind fun z st3 => match z with
  | .bl b => if b = true then (h fr st3).bind fun w st4 => op' y w st4 else .ok (.bl false) st3
  | _ => .bad
theorem eChain_read {op op' : Op2} {r r' : R2} {f g h : Sem} (hs : Op2S X op r) (hs' : Op2S X op' r') : ∀ σ H Q, tE X.K X.mg Wx (eChain op op' f g h) σ H Q → tChain r r' (tE X.K X.mg Wx f) (tE X.K X.mg Wx g) (tE X.K X.mg Wx h) σ H Q := fun σ H Q ⟨μ, st, hid, fr, S, P⟩ => by
  refine ⟨μ, st, hid, fr, S, ?_⟩
  unfold eChain at P
  cases h1 : f fr st with
  | bad => rw [h1] at P; exact P
  | err x s => rw [h1] at P; exact P
  | ok x st1 =>
    rw [h1, Out.bind_ok] at P
    intro μ1 H1 vx k1 g1 r1
    refine ⟨μ1, st1, hid, fr, S.next k1 g1, ?_⟩
    have P1 := EPost.from g1 P
    cases h2 : g fr st1 with
    | bad => rw [h2] at P1; exact P1
    | err x s => rw [h2] at P1; exact P1
    | ok y st2 =>
      rw [h2, Out.bind_ok] at P1
      intro μ2 H2 vy k2 g2 r2
      have P2 := EPost.from g2 P1
      refine hs Wx.w hid μ2 st2 σ H2 _ x y vx vy k2 (Rep.mono g2.le g2.pre _ _ r1) r2 ?_
      cases h3 : op x y st2 with
      | bad => rw [h3] at P2; exact P2
      | err x s => rw [h3] at P2; exact P2
      | ok z st3 =>
        rw [h3, Out.bind_ok] at P2
        intro μ3 H3 vz k3 g3 r3
        have P3 := EPost.from g3 P2
        cases z with
        | bl b =>
          refine ⟨b, rep_bl_inv r3, ?_⟩
          cases b with
          | false => exact iteF ((by simpa using P3 : EPost X.K X.mg Wx.w hid μ3 st3 σ H3 Q (.ok (.bl false) st3)) μ3 H3 _ k3 .refl rep_bl)
          | true =>
            refine iteT ⟨μ3, st3, hid, fr, S.next k3 ((g1.trans g2).trans g3), ?_⟩
            simp only [if_true] at P3
            cases h4 : h fr st3 with
            | bad => rw [h4] at P3; exact P3
            | err x s => rw [h4] at P3; exact P3
            | ok w st4 =>
              rw [h4, Out.bind_ok] at P3
              intro μ4 H4 vw k4 g4 r4
              exact hs' Wx.w hid μ4 st4 σ H4 Q y w vy vw k4 (Rep.mono (g3.trans g4).le (g3.trans g4).pre _ _ r2) r4 (EPost.from g4 P3)
        | _ => exact P3.elim
theorem ev_chain {op op' : CmpOp} {o o' : Op2} {r r' : R2} {a b c : Expr} {f g h : Sem} {pos : Pos} (ho : OpR X (compareOp op) r) (ho' : OpR X (compareOp op') r') (hs : Op2S X o r) (hs' : Op2S X o' r') (ha : EV X Wx a f) (hb : EV X Wx b g) (hc : EV X Wx c h)
    (hm : lastMarks [op, op'] [b, c] = false := by with_unfolding_all rfl) : EV X Wx (.Compare a [op, op'] [b, c] pos) (eChain o o' f g h) := PEm (pe_chain ho ho' ha hb hc hm) (eChain_read hs hs')
theorem tv_chain {op op' : CmpOp} {o o' : Op2} {r r' : R2} {a b c : Expr} {f g h : Sem} {pos : Pos} (ho : OpR X (compareOp op) r) (ho' : OpR X (compareOp op') r') (hs : Op2S X o r) (hs' : Op2S X o' r') (ha : EV X Wx a f) (hb : EV X Wx b g) (hc : EV X Wx c h)
    (hm : lastMarks [op, op'] [b, c] = false := by with_unfolding_all rfl) : TV X Wx (.Compare a [op, op'] [b, c] pos) (bOf (eChain o o' f g h)) := PTm (pt_chain ho ho' ha hb hc hm) (bOf_read (eChain_read hs hs'))
/-- an operator with one side -/
def Op1S (X : Cx) (op : Op1) (r : V → Hp → VK → Prop) : Prop := ∀ (Wx : WX) (hid μ : List Addr) (st : Sto) (σ : L2.St) (H : Hp) (Q : VK) (w : W) (x : V), StOk X.K X.mg μ st hid H → Rep X.K X.mg (Fz μ st hid H) μ w x →
  EPost X.K X.mg Wx hid μ st σ H Q (op w st) → r x H Q
def e1 (op : Op1) (f : Sem) : Sem := fun fr st => (f fr st).bind fun w st1 => op w st1
theorem e1_read {op : Op1} {r : V → Hp → VK → Prop} {f : Sem} (hs : Op1S X op r) : ∀ σ H Q, tE X.K X.mg Wx (e1 op f) σ H Q → tE X.K X.mg Wx f σ H (fun x H1 => r x H1 Q) := fun σ H Q ⟨μ, st, hid, fr, S, P⟩ => by
  refine ⟨μ, st, hid, fr, S, ?_⟩
  unfold e1 at P
  cases h : f fr st with
  | bad => rw [h] at P; exact P
  | err x s => rw [h] at P; exact P
  | ok w st1 =>
    rw [h, Out.bind_ok] at P
    intro μ1 H1 v k1 g1 r1
    exact hs Wx.w hid μ1 st1 σ H1 Q w v k1 r1 (EPost.from g1 P)
theorem ev_un {op : UnaryOp} {o : Op1} {r : V → Hp → VK → Prop} {a : Expr} {f : Sem} {pos : Pos} (ho : UnR X (unaryOp op) r) (hs : Op1S X o r) (ha : EV X Wx a f) : EV X Wx (.UnaryOp op a pos) (e1 o f) := PEm (pe_un ho ha) (e1_read hs)

/-! ## arguments -/
def aNil : SemL := fun _ st => .ok [] st
def aCons (f : Sem) (g : SemL) : SemL := fun fr st => (f fr st).bind fun w st1 => (g fr st1).bind fun ws st2 => .ok (w :: ws) st2
theorem av_nil : AV X Wx [] aNil := PAm pa_nil fun σ H Q ⟨μ, st, hid, fr, S, P⟩ => P μ H [] S.sto .refl .nil
theorem av_cons {e : Expr} {es : List Expr} {f : Sem} {g : SemL} (he : EV X Wx e f) (hr : AV X Wx es g) (hs : starEach (e :: es) X.env = (false, eval e X.env) :: starEach es X.env := by rfl) : AV X Wx (e :: es) (aCons f g) := PAm (pa_cons he hr hs) fun σ H Q ⟨μ, st, hid, fr, S, P⟩ => by
  refine ⟨μ, st, hid, fr, S, ?_⟩
  unfold aCons at P
  cases h : f fr st with
  | bad => rw [h] at P; exact P
  | err x s => rw [h] at P; exact P
  | ok w st1 =>
    rw [h, Out.bind_ok] at P
    intro μ1 H1 v k1 g1 r1
    have P1 := LPost.from g1 P
    refine ⟨μ1, st1, hid, fr, S.next k1 g1, ?_⟩
    cases h2 : g fr st1 with
    | bad => rw [h2] at P1; exact P1
    | err x s => rw [h2] at P1; exact P1
    | ok ws st2 =>
      rw [h2, Out.bind_ok] at P1
      intro μ2 H2 vs k2 g2 r2
      exact P1 μ2 H2 _ k2 g2 (.cons (Rep.mono g2.le g2.pre _ _ r1) r2)
def OpNS (X : Cx) (op : OpN) (r : List V → Hp → VK → Prop) : Prop := ∀ (Wx : WX) (hid μ : List Addr) (st : Sto) (σ : L2.St) (H : Hp) (Q : VK) (ws : List W) (vs : List V), StOk X.K X.mg μ st hid H → Reps X.K X.mg (Fz μ st hid H) μ ws vs →
  EPost X.K X.mg Wx hid μ st σ H Q (op ws st) → r vs H Q
def eN (op : OpN) (f : SemL) : Sem := fun fr st => (f fr st).bind fun ws st1 => op ws st1
theorem eN_read {op : OpN} {r : List V → Hp → VK → Prop} {f : SemL} (hs : OpNS X op r) : ∀ σ H Q, tE X.K X.mg Wx (eN op f) σ H Q → tA X.K X.mg Wx f σ H (fun vs H1 => r vs H1 Q) := fun σ H Q ⟨μ, st, hid, fr, S, P⟩ => by
  refine ⟨μ, st, hid, fr, S, ?_⟩
  unfold eN at P
  cases h : f fr st with
  | bad => rw [h] at P; exact P
  | err x s => rw [h] at P; exact P
  | ok w st1 =>
    rw [h, Out.bind_ok] at P
    intro μ1 H1 v k1 g1 r1
    exact hs Wx.w hid μ1 st1 σ H1 Q w v k1 r1 (EPost.from g1 P)
theorem ev_callB {id : String} {o : OpN} {r : List V → Hp → VK → Prop} {x : Str} {p pos : Pos} {e : Expr} {es : List Expr} {f : SemL} (hc : CallR X (.builtin id) r) (hs : OpNS X o r) (hm : X.mg x = none) (ha : AV X Wx (e :: es) f) (hv : bootBuiltins x = some (.builtin id) := by decide +kernel) (hg : Gl X x := by rfl)
    (hn : x ≠ "__name__" := by decide) (hdb : (x == ("__debug__" : Str)) = false := by decide) (he : starEach (e :: es) X.env = (false, eval e X.env) :: starEach es X.env := by rfl) (hpl : (backTo pos (starEach es X.env)).any (·.1) = false := by rfl) :
    EV X Wx (.Call (.Name x p) (e :: es) [] pos) (eN o f) := PEm (pe_callB hc hg hm hv ha hn hdb he hpl) (eN_read hs)
theorem ev_callTy {T : String} {o : OpN} {r : List V → Hp → VK → Prop} {x : Str} {p pos : Pos} {e : Expr} {es : List Expr} {f : SemL} (hc : CallR X (.type T) r) (hs : OpNS X o r) (hm : X.mg x = none) (ha : AV X Wx (e :: es) f) (hv : bootBuiltins x = some (.type T) := by decide +kernel) (hg : Gl X x := by rfl)
    (hn : x ≠ "__name__" := by decide) (hdb : (x == ("__debug__" : Str)) = false := by decide) (he : starEach (e :: es) X.env = (false, eval e X.env) :: starEach es X.env := by rfl) (hpl : (backTo pos (starEach es X.env)).any (·.1) = false := by rfl) :
    EV X Wx (.Call (.Name x p) (e :: es) [] pos) (eN o f) := PEm (pe_callTy hc hg hm hv ha hn hdb he hpl) (eN_read hs)

/-! ## an own def -/
def spF (K : PySem.W.Frag) (mg : Str → Option Value) (n : Nat) (F : Fn) : Sp := fun vs H Q E => ∃ hid μ st ws, vs.length = n ∧ StOk K mg μ st hid H ∧ Reps K mg (Fz μ st hid H) μ ws vs ∧ EPost K mg (fun c d _ H => E c d H) hid μ st [] H Q (F ws st)
def eCall (F : Fn) (f : SemL) : Sem := eN F f
theorem LPost.len {Wx : WX} {K : PySem.W.Frag} {mg : Str → Option Value} {hid μ : List Addr} {st : Sto} {σ : L2.St} {H : Hp} {Q Q' : List V → Hp → Prop} {o : Out (List W)} (h : LPost K mg Wx hid μ st σ H Q o) (i : ∀ vs H', Q vs H' → Q' vs H') : LPost K mg Wx hid μ st σ H Q' o := by
  cases o with
  | ok w s => exact fun μ2 H2 v a b c => i _ _ (h μ2 H2 v a b c)
  | err e s => exact h
  | bad => exact h
/-- an argument list of n -/
def ArN (n : Nat) (f : SemL) : Prop := ∀ fr st ws st', f fr st = .ok ws st' → ws.length = n
theorem arN_nil : ArN 0 aNil := fun _ _ _ _ h => by
  unfold aNil at h
  injection h with h1 _
  subst h1; rfl
theorem arN_cons {n : Nat} {f : Sem} {g : SemL} (h : ArN n g) : ArN (n + 1) (aCons f g) := fun fr st ws st' e => by
  unfold aCons at e
  cases h1 : f fr st with
  | bad => rw [h1] at e; cases e
  | err x s => rw [h1] at e; cases e
  | ok w st1 =>
    rw [h1, Out.bind_ok] at e
    cases h2 : g fr st1 with
    | bad => rw [h2] at e; cases e
    | err x s => rw [h2] at e; cases e
    | ok us st2 =>
      rw [h2, Out.bind_ok] at e
      injection e with e1 _
      subst e1
      simp [h _ _ _ _ h2]
theorem eCall_read {n : Nat} {F : Fn} {f : SemL} (ar : ArN n f) : ∀ σ H Q, tE X.K X.mg Wx (eCall F f) σ H Q → tCallS (spF X.K X.mg n F) (WE Wx.w) (tA X.K X.mg Wx f) σ H Q := fun σ H Q ⟨μ, st, hid, fr, S, P⟩ => by
  refine ⟨μ, st, hid, fr, S, ?_⟩
  unfold eCall eN at P
  cases h : f fr st with
  | bad => rw [h] at P; exact P
  | err x s => rw [h] at P; exact P
  | ok ws st1 =>
    rw [h, Out.bind_ok] at P
    intro μ1 H1 vs k1 g1 r1
    refine ⟨hid, μ1, st1, ws, by rw [← r1.length]; exact ar _ _ _ _ h, k1, r1, ?_⟩
    have P1 := EPost.from g1 P
    cases h2 : F ws st1 with
    | bad => rw [h2] at P1; exact P1
    | err x s => rw [h2] at P1; exact P1
    | ok u st2 => rw [h2] at P1; exact P1
theorem ev_call {k n : Nat} {g : Addr} {fd : FuncData} {ps : List Str} {F : Fn} {x : Str} {p pos : Pos} {e : Expr} {es : List Expr} {f : SemL} (G : FnOk X.prog X.w X.K X.mg X.base (L2.CX X.prog X.w) k g fd ps (spF X.K X.mg n F)) (hr : Room k X.A) (hm : X.mg x = some (.ref g)) (hk : PySem.W.keepIn X.K (.ref g) = true) (hb : Binds X.K fd ps [])
    (tk : Takes X Wx.w) (ha : AV X Wx (e :: es) f) (ar : ArN n f) (hg : Gl X x := by rfl) (hdb : (x == ("__debug__" : Str)) = false := by decide) (he : starEach (e :: es) X.env = (false, eval e X.env) :: starEach es X.env := by rfl) (hpl : (backTo pos (starEach es X.env)).any (·.1) = false := by rfl) :
    EV X Wx (.Call (.Name x p) (e :: es) [] pos) (eCall F f) := PEm (pe_callS G hr hg hm hk hb (fun σ => passAt tk σ) ha hdb he hpl) (eCall_read ar)

/-! ## displays -/
def small (ws : List W) : Bool := decide (ws.length ≤ 1000)
theorem small_line {ws : List W} {K : PySem.W.Frag} {mg : Str → Option Value} {F : Hp} {μ : List Addr} {vs : List V} (h : small ws = true) (r : Reps K mg F μ ws vs) : vs.length ≤ sizeLine := by
  rw [← r.length]
  exact Nat.le_of_lt (small1000 (of_decide_eq_true h))
def oTup : OpN := fun ws st => if small ws = true then .ok (.tup ws) st else .bad
def oLst : OpN := fun ws st => if small ws = true then .ok (.lst ws) st else .bad
/-- a new frozen object -/
theorem ok_new {Wx : WX} {K : PySem.W.Frag} {mg : Str → Option Value} {hid μ : List Addr} {st : Sto} {σ : L2.St} {H : Hp} {Q : VK} {w : W} {o : HO} (P : EPost K mg Wx hid μ st σ H Q (.ok w st)) (k : StOk K mg μ st hid H) {p : Addr} (hp : H p = none) (r : ∀ F, Le (Fz μ st hid H) F → F p = some o → Rep K mg F μ w (.ref p)) : Q (.ref p) (upd H p o) := by
  obtain ⟨k1, g1, e1⟩ := k.laid (o := o) hp
  exact P μ _ _ k1 g1 (r _ g1.le e1)
theorem ev_tup {es : List Expr} {f : SemL} {x1} {pos : Pos} (h : AV X Wx es f) : EV X Wx (.Tuple es x1 pos) (eN oTup f) := PEm (pe_tup h) fun σ H Q P => by
  refine eN_read (r := fun vs H1 Q => vs.length ≤ sizeLine ∧ ∀ p, H1 p = none → Q (.ref p) (upd H1 p (.tup vs))) ?_ σ H Q P
  intro Wx hid μ st σ H Q ws vs k r P
  unfold oTup at P
  split at P
  · rename_i hs
    exact ⟨small_line hs r, fun p hp => ok_new P k hp fun F l e => rep_tup e (r.mono l (.refl _))⟩
  · exact P.elim
theorem ev_lst {es : List Expr} {f : SemL} {pos : Pos} (h : AV X Wx es f) : EV X Wx (.List es pos) (eN oLst f) := PEm (pe_lst h) fun σ H Q P => by
  refine eN_read (r := fun vs H1 Q => vs.length ≤ sizeLine ∧ ∀ p, H1 p = none → Q (.ref p) (upd H1 p (.lst vs))) ?_ σ H Q P
  intro Wx hid μ st σ H Q ws vs k r P
  unfold oLst at P
  split at P
  · rename_i hs
    exact ⟨small_line hs r, fun p hp => ok_new P k hp fun F l e => rep_lst e (r.mono l (.refl _))⟩
  · exact P.elim
end
end SL

namespace SL
open PySem PySem.Spec PyProof.Rows L2

/-! ## what a cell or a value holds -/
def lstW (st : Sto) : W → Option (List W)
  | .lst ws => some ws
  | .ro ws => some ws
  | .cell k => match st[k]? with
    | some (.lst ws) => some ws
    | some (.frz (.lst ws)) => some ws
    | _ => none
  | _ => none
def tupW (st : Sto) : W → Option (List W)
  | .tup ws => some ws
  | .tpn ws => some ws
  | .cell k => match st[k]? with
    | some (.frz (.tup ws)) => some ws
    | some (.frz (.tpn ws)) => some ws
    | _ => none
  | _ => none
section
variable {K : PySem.W.Frag} {mg : Str → Option Value} {μ : List Addr} {st : Sto} {hid : List Addr} {H : Hp}
theorem SqL.fz {a : Addr} {vs : List V} (h : Fz μ st hid H a = some (.lst vs)) : SqL K H a vs := .of (Fz.sub h).1
theorem SqL.fz' {a : Addr} {vs : List V} (h : SqL K (Fz μ st hid H) a vs) : SqL K H a vs := SqL.le Fz.le h
theorem TupAt.fz {a : Addr} {vs : List V} (h : TupAt K (Fz μ st hid H) a vs) : SqT K H a vs := SqT.le Fz.le h.sq
theorem TpnAt.fz {a : Addr} {vs : List V} (h : TpnAt (Fz μ st hid H) a vs) : SqT K H a vs := SqT.le Fz.le h.sq
theorem StOk.cell (s : StOk K mg μ st hid H) {k : Nat} {c : Cel} {v : V} (h : st[k]? = some c) (r : Rep K mg (Fz μ st hid H) μ (.cell k) v) : ∃ a, v = .ref a ∧ μ[k]? = some a ∧ CelOk K mg (Fz μ st hid H) μ H a c := by
  obtain ⟨a, h1, h2⟩ := rep_cell_inv r
  exact ⟨a, h2, h1, s.ok k a c h1 h⟩
theorem lstW_at (s : StOk K mg μ st hid H) {w : W} {ws : List W} {v : V} (h : lstW st w = some ws) (r : Rep K mg (Fz μ st hid H) μ w v) : ∃ a vs, v = .ref a ∧ SqL K H a vs ∧ Reps K mg (Fz μ st hid H) μ ws vs := by
  cases w with
  | lst us =>
    unfold lstW at h; cases h
    obtain ⟨a, vs, e, h1, h2⟩ := rep_lst_inv r
    exact ⟨a, vs, e, SqL.fz h1, h2⟩
  | ro us =>
    unfold lstW at h; cases h
    obtain ⟨a, vs, e, h1, h2⟩ := rep_ro_inv r
    exact ⟨a, vs, e, SqL.fz' h1, h2⟩
  | cell k =>
    unfold lstW at h
    simp only at h
    split at h
    · rename_i us e
      cases h
      obtain ⟨a, e1, e2, vs, h1, h2⟩ := s.cell e r
      exact ⟨a, vs, e1, .of h1, h2⟩
    · rename_i us e
      cases h
      obtain ⟨a, e1, e2, h1⟩ := s.cell e r
      obtain ⟨b, vs, e3, h1, h2⟩ := rep_lst_inv h1
      cases e3
      exact ⟨a, vs, e1, SqL.fz h1, h2⟩
    · cases h
  | _ => cases h
theorem tupW_at (s : StOk K mg μ st hid H) {w : W} {ws : List W} {v : V} (h : tupW st w = some ws) (r : Rep K mg (Fz μ st hid H) μ w v) : ∃ a vs, v = .ref a ∧ SqT K H a vs ∧ Reps K mg (Fz μ st hid H) μ ws vs := by
  cases w with
  | tup us =>
    unfold tupW at h; cases h
    obtain ⟨a, vs, e, h1, h2⟩ := rep_tup_inv r
    exact ⟨a, vs, e, h1.fz, h2⟩
  | tpn us =>
    unfold tupW at h; cases h
    obtain ⟨a, vs, e, h1, h2⟩ := rep_tpn_inv r
    exact ⟨a, vs, e, h1.fz, h2⟩
  | cell k =>
    unfold tupW at h
    simp only at h
    split at h
    · rename_i us e
      cases h
      obtain ⟨a, e1, e2, h1⟩ := s.cell e r
      obtain ⟨b, vs, e3, h1, h2⟩ := rep_tup_inv h1
      cases e3
      exact ⟨a, vs, e1, h1.fz, h2⟩
    · rename_i us e
      cases h
      obtain ⟨a, e1, e2, h1⟩ := s.cell e r
      obtain ⟨b, vs, e3, h1, h2⟩ := rep_tpn_inv h1
      cases e3
      exact ⟨a, vs, e1, h1.fz, h2⟩
    · cases h
  | _ => cases h
/-- a tuple that is tracked -/
def trkW (st : Sto) : W → Option (List W)
  | .tup ws => some ws
  | .cell k => match st[k]? with
    | some (.frz (.tup ws)) => some ws
    | _ => none
  | _ => none
theorem trkW_at (s : StOk K mg μ st hid H) {w : W} {ws : List W} {v : V} (h : trkW st w = some ws) (r : Rep K mg (Fz μ st hid H) μ w v) : ∃ a vs, v = .ref a ∧ TupAt K (Fz μ st hid H) a vs ∧ Reps K mg (Fz μ st hid H) μ ws vs := by
  cases w with
  | tup us =>
    unfold trkW at h; cases h
    exact rep_tup_inv r
  | cell k =>
    unfold trkW at h
    simp only at h
    split at h
    · rename_i us e
      cases h
      obtain ⟨a, e1, e2, h1⟩ := s.cell e r
      obtain ⟨b, vs, e3, h1, h2⟩ := rep_tup_inv h1
      cases e3
      exact ⟨a, vs, e1, h1, h2⟩
    · cases h
  | _ => cases h
/-- a list or a tuple -/
def seqW (st : Sto) (w : W) : Option (List W) := match lstW st w with
  | some ws => some ws
  | none => tupW st w
theorem seqW_at (s : StOk K mg μ st hid H) {w : W} {ws : List W} {v : V} (h : seqW st w = some ws) (r : Rep K mg (Fz μ st hid H) μ w v) : ∃ a vs, v = .ref a ∧ (SqL K H a vs ∨ SqT K H a vs) ∧ Reps K mg (Fz μ st hid H) μ ws vs := by
  unfold seqW at h
  split at h
  · rename_i us e
    cases h
    obtain ⟨a, vs, e1, e2, e3⟩ := lstW_at s e r
    exact ⟨a, vs, e1, .inl e2, e3⟩
  · obtain ⟨a, vs, e1, e2, e3⟩ := tupW_at s h r
    exact ⟨a, vs, e1, .inr e2, e3⟩
end
section
variable {X : Cx}

/-! ## ints -/
def LINE : Nat := 16777216
theorem le_line {n : Nat} (h : n ≤ LINE) : n ≤ sizeLine := by rw [sizeLine_eq]; exact h
def oAdd : Op2 := fun x y st => match x, y with
  | .int i, .int j => .ok (.int (i + j)) st
  | .str a, .str b => if a.length + b.length ≤ LINE then .ok (.str (a ++ b)) st else .bad
  | .tup a, .tup b => if a.length + b.length ≤ LINE then .ok (.tup (a ++ b)) st else .bad
  | .lst a, .lst b => if a.length + b.length ≤ LINE then .ok (.lst (a ++ b)) st else .bad
  | _, _ => .bad
def rAddAll (K : PySem.W.Frag) : R2 := fun x y H Q => rI0 (fun i j => .int (i + j)) x y H Q ∨ (∃ i j, x = .str i ∧ y = .str j ∧ i.length + j.length ≤ sizeLine ∧ Q (.str (i ++ j)) H) ∨ rCatA K x y H Q ∨ rCat x y H Q
theorem or_add : OpR X (binaryOp .Add) (rAddAll X.K) := op_add.or (op_add_str.or (op_catA.or op_cat))
theorem os_add : Op2S X oAdd (rAddAll X.K) := by
  intro Wx hid μ st σ H Q w u x y k rx ry P
  unfold oAdd at P
  split at P
  · cases rep_int_inv rx; cases rep_int_inv ry
    exact .inl ⟨_, _, rfl, rfl, P μ H _ k .refl rep_int⟩
  · cases rep_str_inv rx; cases rep_str_inv ry
    split at P
    · rename_i hz
      exact .inr (.inl ⟨_, _, rfl, rfl, le_line hz, P μ H _ k .refl rep_str⟩)
    · exact P.elim
  · split at P
    · rename_i a b hz
      obtain ⟨p, vs, rfl, h1, h2⟩ := rep_tup_inv rx
      obtain ⟨q, zs, rfl, h3, h4⟩ := rep_tup_inv ry
      refine .inr (.inr (.inl ⟨p, q, vs, zs, rfl, rfl, h1.fz, h3.fz, by rw [← h2.length, ← h4.length]; exact le_line hz, fun e => ?_, fun _ e => ?_, fun _ _ t ht => ?_⟩))
      · subst e
        have : a = [] := List.eq_nil_of_length_eq_zero (by rw [h2.length]; rfl)
        subst this
        exact P μ H _ k .refl (by simpa using ry)
      · subst e
        have : b = [] := List.eq_nil_of_length_eq_zero (by rw [h4.length]; rfl)
        subst this
        exact P μ H _ k .refl (by simpa using rx)
      · exact ok_new P k ht fun F l e => rep_tup e ((h2.append h4).mono l (.refl _))
    · exact P.elim
  · split at P
    · rename_i a b hz
      obtain ⟨p, vs, rfl, h1, h2⟩ := rep_lst_inv rx
      obtain ⟨q, zs, rfl, h3, h4⟩ := rep_lst_inv ry
      refine .inr (.inr (.inr ⟨p, q, vs, zs, rfl, rfl, (Fz.sub h1).1, (Fz.sub h3).1, by rw [← h2.length, ← h4.length]; exact le_line hz, fun t ht => ?_⟩))
      exact ok_new P k ht fun F l e => rep_lst e ((h2.append h4).mono l (.refl _))
    · exact P.elim
  · exact P.elim
/-- a condition that nothing reckons out -/
noncomputable def dec (p : Prop) : Bool := @decide p (Classical.propDecidable p)
theorem dec_of {p : Prop} (h : dec p = true) : p := @of_decide_eq_true p (Classical.propDecidable p) h
theorem dec_mk {p : Prop} (h : p) : dec p = true := @decide_eq_true p (Classical.propDecidable p) h
noncomputable def mulOk (i j : Int) : Bool := dec ((-(2 ^ 64) < i ∧ i < 2 ^ 64) ∨ (-(2 ^ 64) < j ∧ j < 2 ^ 64)) || dec (i.natAbs.log2 + j.natAbs.log2 < 1000000)
noncomputable def oMul : Op2 := fun x y st => match x, y with
  | .int i, .int j => if mulOk i j = true then .ok (.int (i * j)) st else .bad
  | _, _ => .bad
def rMulAll : R2 := fun x y H Q => rI CMul (fun i j => .int (i * j)) x y H Q ∨ rI CMulW (fun i j => .int (i * j)) x y H Q
theorem or_mul : OpR X (binaryOp .Mult) rMulAll := op_mul.or op_mulW
theorem os_mul : Op2S X oMul rMulAll := by
  intro Wx hid μ st σ H Q w u x y k rx ry P
  unfold oMul at P
  split at P
  · cases rep_int_inv rx; cases rep_int_inv ry
    split at P
    · rename_i hz
      unfold mulOk at hz
      rw [Bool.or_eq_true] at hz
      rcases hz with hz | hz
      · have hz' := dec_of hz
        exact .inl ⟨_, _, rfl, rfl, hz', P μ H _ k .refl rep_int⟩
      · have hz' := dec_of hz
        exact .inr ⟨_, _, rfl, rfl, hz', P μ H _ k .refl rep_int⟩
    · exact P.elim
  · exact P.elim
noncomputable def oDiv : Op2 := fun x y st => match x, y with
  | .int i, .int j => if dec (0 < j ∧ j.natAbs.log2 < 9000) = true then .ok (.int (i / j)) st else .bad
  | _, _ => .bad
theorem os_div : Op2S X oDiv (rI CDivW fun i j => .int (i / j)) := by
  intro Wx hid μ st σ H Q w u x y k rx ry P
  unfold oDiv at P
  split at P
  · cases rep_int_inv rx; cases rep_int_inv ry
    split at P
    · rename_i hz
      exact ⟨_, _, rfl, rfl, dec_of hz, P μ H _ k .refl rep_int⟩
    · exact P.elim
  · exact P.elim
def oMod : Op2 := fun x y st => match x, y with
  | .int i, .int j => if 0 < j then .ok (.int (i % j)) st else .bad
  | _, _ => .bad
theorem os_mod : Op2S X oMod (rI (fun _ j => 0 < j) fun i j => .int (i % j)) := by
  intro Wx hid μ st σ H Q w u x y k rx ry P
  unfold oMod at P
  split at P
  · cases rep_int_inv rx; cases rep_int_inv ry
    split at P
    · rename_i hz
      exact ⟨_, _, rfl, rfl, hz, P μ H _ k .refl rep_int⟩
    · exact P.elim
  · exact P.elim
noncomputable def oPow : Op2 := fun x y st => match x, y with
  | .int i, .int j => if dec (0 ≤ j ∧ j ≤ 1000000 ∧ i.natAbs < 2 ^ 64) = true then .ok (.int (i ^ j.toNat)) st else .bad
  | _, _ => .bad
theorem os_pow : Op2S X oPow (rI CPow fun i j => .int (i ^ j.toNat)) := by
  intro Wx hid μ st σ H Q w u x y k rx ry P
  unfold oPow at P
  split at P
  · cases rep_int_inv rx; cases rep_int_inv ry
    split at P
    · rename_i hz
      exact ⟨_, _, rfl, rfl, dec_of hz, P μ H _ k .refl rep_int⟩
    · exact P.elim
  · exact P.elim
def oNeg : Op1 := fun x st => match x with
  | .int i => .ok (.int (-i)) st
  | _ => .bad
theorem os_neg : Op1S X oNeg (rU fun i => .int (-i)) := by
  intro Wx hid μ st σ H Q w x k rx P
  unfold oNeg at P
  split at P
  · cases rep_int_inv rx
    exact ⟨_, rfl, P μ H _ k .refl rep_int⟩
  · exact P.elim
def oLe : Op2 := fun x y st => match x, y with
  | .int i, .int j => .ok (.bl (decide (i ≤ j))) st
  | _, _ => .bad
def oGt : Op2 := fun x y st => match x, y with
  | .int i, .int j => .ok (.bl (decide (j < i))) st
  | _, _ => .bad
def oGe : Op2 := fun x y st => match x, y with
  | .int i, .int j => .ok (.bl (decide (j ≤ i))) st
  | _, _ => .bad
theorem os_le : Op2S X oLe (rI0 fun i j => .bl (decide (i ≤ j))) := by
  intro Wx hid μ st σ H Q w u x y k rx ry P
  unfold oLe at P
  split at P
  · cases rep_int_inv rx; cases rep_int_inv ry
    exact ⟨_, _, rfl, rfl, P μ H _ k .refl rep_bl⟩
  · exact P.elim
theorem os_gt : Op2S X oGt (rI0 fun i j => .bl (decide (j < i))) := by
  intro Wx hid μ st σ H Q w u x y k rx ry P
  unfold oGt at P
  split at P
  · cases rep_int_inv rx; cases rep_int_inv ry
    exact ⟨_, _, rfl, rfl, P μ H _ k .refl rep_bl⟩
  · exact P.elim
theorem os_ge : Op2S X oGe (rI0 fun i j => .bl (decide (j ≤ i))) := by
  intro Wx hid μ st σ H Q w u x y k rx ry P
  unfold oGe at P
  split at P
  · cases rep_int_inv rx; cases rep_int_inv ry
    exact ⟨_, _, rfl, rfl, P μ H _ k .refl rep_bl⟩
  · exact P.elim

/-! ## == of data -/
mutual
def pdW : W → Option PyData
  | .non => some .none
  | .bl b => some (.bool b)
  | .int i => some (.int i)
  | .str x => some (.str x)
  | .tup ws => (pdWs ws).map .tuple
  | .lst ws => (pdWs ws).map .list
  | .ro ws => (pdWs ws).map .list
  | .tpn ws => (pdWs ws).map .tuple
  | _ => none
def pdWs : List W → Option (List PyData)
  | [] => some []
  | w :: r => match pdW w, pdWs r with
    | some d, some ds => some (d :: ds)
    | _, _ => none
end
mutual
theorem pdW_at {K : PySem.W.Frag} {mg : Str → Option Value} {F H : Hp} {μ : List Addr} (l : Le F H) : ∀ (w : W) (v : V) (d : PyData), pdW w = some d → Rep K mg F μ w v → Dp K H v d
  | .non, v, d, h, r => by unfold pdW at h; cases h; cases rep_non_inv r; exact .non
  | .bl b, v, d, h, r => by unfold pdW at h; cases h; cases rep_bl_inv r; exact .bl b
  | .int b, v, d, h, r => by unfold pdW at h; cases h; cases rep_int_inv r; exact .int b
  | .str b, v, d, h, r => by unfold pdW at h; cases h; cases rep_str_inv r; exact .str b
  | .tup ws, v, d, h, r => by
    unfold pdW at h
    obtain ⟨a, vs, rfl, h1, h2⟩ := rep_tup_inv r
    cases e : pdWs ws with
    | none => rw [e] at h; cases h
    | some ds =>
      rw [e] at h; cases h
      exact .tup (SqT.le l h1.sq) (pdWs_at l ws vs ds e h2)
  | .lst ws, v, d, h, r => by
    unfold pdW at h
    obtain ⟨a, vs, rfl, h1, h2⟩ := rep_lst_inv r
    cases e : pdWs ws with
    | none => rw [e] at h; cases h
    | some ds =>
      rw [e] at h; cases h
      exact .lst (.of (l.lst h1)) (pdWs_at l ws vs ds e h2)
  | .tpn ws, v, d, h, r => by
    unfold pdW at h
    obtain ⟨a, vs, rfl, h1, h2⟩ := rep_tpn_inv r
    cases e : pdWs ws with
    | none => rw [e] at h; cases h
    | some ds =>
      rw [e] at h; cases h
      exact .tup (SqT.le l h1.sq) (pdWs_at l ws vs ds e h2)
  | .ro ws, v, d, h, r => by
    unfold pdW at h
    obtain ⟨a, vs, rfl, h1, h2⟩ := rep_ro_inv r
    cases e : pdWs ws with
    | none => rw [e] at h; cases h
    | some ds =>
      rw [e] at h; cases h
      exact .lst (SqL.le l h1) (pdWs_at l ws vs ds e h2)
  | .dct ks ws, v, d, h, r => by unfold pdW at h; cases h
  | .ins c ks ws, v, d, h, r => by unfold pdW at h; cases h
  | .cell k, v, d, h, r => by unfold pdW at h; cases h
  | .ty k, v, d, h, r => by unfold pdW at h; cases h
  | .cls k, v, d, h, r => by unfold pdW at h; cases h
theorem pdWs_at {K : PySem.W.Frag} {mg : Str → Option Value} {F H : Hp} {μ : List Addr} (l : Le F H) : ∀ (ws : List W) (vs : List V) (ds : List PyData), pdWs ws = some ds → Reps K mg F μ ws vs → DpAll K H vs ds
  | [], vs, ds, h, r => by
    unfold pdWs at h; cases h
    rw [Reps.nil_iff] at r; subst r; exact .nil
  | w :: ws, vs, ds, h, r => by
    unfold pdWs at h
    obtain ⟨v, vr, rfl, r1, r2⟩ := r.cons_inv
    cases e1 : pdW w with
    | none => rw [e1] at h; cases h
    | some d =>
      cases e2 : pdWs ws with
      | none => rw [e1, e2] at h; cases h
      | some dr =>
        rw [e1, e2] at h; cases h
        exact .cons (pdW_at l w v d e1 r1) (pdWs_at l ws vr dr e2 r2)
end
/-- .. with a cell looked into -/
def pdT (st : Sto) : W → Option PyData
  | .cell k => match st[k]? with
    | some (.lst ws) => (pdWs ws).map .list
    | some (.frz w) => pdW w
    | _ => none
  | w => pdW w
theorem pdT_at {K : PySem.W.Frag} {mg : Str → Option Value} {H : Hp} {hid μ : List Addr} {st : Sto} (k : StOk K mg μ st hid H) {w : W} {v : V} {d : PyData} (h : pdT st w = some d) (r : Rep K mg (Fz μ st hid H) μ w v) : Dp K H v d := by
  cases w with
  | cell n =>
    unfold pdT at h
    simp only at h
    split at h
    · rename_i ws e
      obtain ⟨a, rfl, e2, vs, h1, h2⟩ := k.cell e r
      cases e3 : pdWs ws with
      | none => rw [e3] at h; cases h
      | some ds =>
        rw [e3] at h; cases h
        exact .lst (.of h1) (pdWs_at Fz.le ws vs ds e3 h2)
    · rename_i u e
      obtain ⟨a, rfl, e2, h1⟩ := k.cell e r
      exact pdW_at Fz.le u _ d h h1
    · cases h
  | _ => exact pdW_at Fz.le _ _ _ h r
def eqW (st : Sto) (x y : W) : Option Bool := match pdT st x, pdT st y with
  | some d, some e => if SeqAt.shaped d && SeqAt.shaped e then some (PyData.eqv d e) else none
  | _, _ => none
def oEq : Op2 := fun x y st => match eqW st x y with
  | some b => .ok (.bl b) st
  | none => .bad
def oNe : Op2 := fun x y st => match eqW st x y with
  | some b => .ok (.bl (!b)) st
  | none => .bad
theorem eqW_at {K : PySem.W.Frag} {mg : Str → Option Value} {H : Hp} {hid μ : List Addr} {st : Sto} (k : StOk K mg μ st hid H) {w u : W} {x y : V} {b : Bool} (h : eqW st w u = some b) (rx : Rep K mg (Fz μ st hid H) μ w x) (ry : Rep K mg (Fz μ st hid H) μ u y) :
    ∃ d e, Dp K H x d ∧ Dp K H y e ∧ SeqAt.shaped d = true ∧ SeqAt.shaped e = true ∧ b = PyData.eqv d e := by
  unfold eqW at h
  split at h
  · rename_i d e h1 h2
    split at h
    · rename_i h3
      rw [Bool.and_eq_true] at h3
      cases h
      exact ⟨d, e, pdT_at k h1 rx, pdT_at k h2 ry, h3.1, h3.2, rfl⟩
    · cases h
  · cases h
theorem os_eq : Op2S X oEq (rEqD X.K) := by
  intro Wx hid μ st σ H Q w u x y k rx ry P
  unfold oEq at P
  split at P
  · rename_i b h
    obtain ⟨d, e, h1, h2, h3, h4, rfl⟩ := eqW_at k h rx ry
    exact ⟨d, e, h1, h2, h3, h4, P μ H _ k .refl rep_bl⟩
  · exact P.elim
theorem os_ne : Op2S X oNe (rNeD X.K) := by
  intro Wx hid μ st σ H Q w u x y k rx ry P
  unfold oNe at P
  split at P
  · rename_i b h
    obtain ⟨d, e, h1, h2, h3, h4, rfl⟩ := eqW_at k h rx ry
    exact ⟨d, e, h1, h2, h3, h4, P μ H _ k .refl rep_bl⟩
  · exact P.elim
/-! ## isinstance -/
/-- a walked dict of tuple keys is asked nothing -/
def tlK : List W → Bool
  | .ty t :: _ => t == "TL"
  | _ => false
def tyW (st : Sto) : W → Option String
  | .non => some "NoneType"
  | .bl _ => some "bool"
  | .int _ => some "int"
  | .str _ => some "str"
  | .tup _ => some "tuple"
  | .tpn _ => some "tuple"
  | .lst _ => some "list"
  | .dct ks _ => if tlK ks = true then none else some "dict"
  | .cell k => match st[k]? with
    | some (.lst _) => some "list"
    | some (.dct ks _) => if tlK ks = true then none else some "dict"
    | some (.frz (.lst _)) => some "list"
    | some (.frz (.tup _)) => some "tuple"
    | _ => none
  | _ => none
theorem kind_T {ks : List W} {q : List Key ⊕ List (List Key)} {l : Bool} (h : kindW ks = some (l, q)) : (∃ kk, q = .inl kk) ∨ ((∃ kk, q = .inr kk) ∧ (l = false ∨ tlK ks = true)) := by
  cases ks with
  | nil => cases h; exact .inl ⟨_, rfl⟩
  | cons w ks =>
    cases w with
    | ty t =>
      have z : kindW (.ty t :: ks) = if t = "L" then (mapO keyW ks).map fun kk => (true, .inl kk) else if t = "T" then (mapO keyT ks).map fun kk => (false, .inr kk) else if t = "TL" then (mapO keyT ks).map fun kk => (true, .inr kk) else none := rfl
      rw [z] at h
      by_cases h1 : t = "L"
      · rw [if_pos h1] at h
        cases m : mapO keyW ks with
        | none => rw [m] at h; cases h
        | some kk => rw [m] at h; cases h; exact .inl ⟨_, rfl⟩
      · rw [if_neg h1] at h
        by_cases h2 : t = "T"
        · rw [if_pos h2] at h
          cases m : mapO keyT ks with
          | none => rw [m] at h; cases h
          | some kk => rw [m] at h; cases h; exact .inr ⟨⟨_, rfl⟩, .inl rfl⟩
        · rw [if_neg h2] at h
          by_cases h3 : t = "TL"
          · exact .inr ⟨by
              rw [if_pos h3] at h
              cases m : mapO keyT ks with
              | none => rw [m] at h; cases h
              | some kk => rw [m] at h; cases h; exact ⟨_, rfl⟩, .inr (beq_iff_eq.mpr h3)⟩
          · rw [if_neg h3] at h; cases h
    | int i =>
      have z : kindW (.int i :: ks) = (mapO keyW (.int i :: ks)).map fun kk => (false, .inl kk) := rfl
      rw [z] at h
      cases m : mapO keyW (.int i :: ks) with
      | none => rw [m] at h; cases h
      | some kk => rw [m] at h; cases h; exact .inl ⟨_, rfl⟩
    | str i =>
      have z : kindW (.str i :: ks) = (mapO keyW (.str i :: ks)).map fun kk => (false, .inl kk) := rfl
      rw [z] at h
      cases m : mapO keyW (.str i :: ks) with
      | none => rw [m] at h; cases h
      | some kk => rw [m] at h; cases h; exact .inl ⟨_, rfl⟩
    | _ => cases h
theorem dct_ty {K : PySem.W.Frag} {F H : Hp} {a : Addr} {ks : List W} {vs : List V} (l : ∀ o, F a = some o → H a = some o) (h : DctAt F a ks vs) (ht : ¬ tlK ks = true) : TyX K H (.ref a) (.type "dict") := by
  obtain ⟨b, q, h1, h2, h3, h4⟩ := h
  rcases kind_T h1 with ⟨kk, rfl⟩ | ⟨⟨kk, rfl⟩, hb | hb⟩
  · rcases h3 with h3 | ⟨o, h3⟩
    · exact .base (.dK (l _ h3))
    · exact .fDict (l _ h3)
  · exact .base (.dT (l _ (h4.1 hb kk rfl)))
  · exact absurd hb ht
theorem tup_ty {K : PySem.W.Frag} {F H : Hp} {a : Addr} {vs : List V} (l : Le F H) (h : TupAt K F a vs) : TyX K H (.ref a) (.type "tuple") := by
  exact .base (.tup (l.fix _ _ trivial h))
theorem tyW_at {K : PySem.W.Frag} {mg : Str → Option Value} {H : Hp} {hid μ : List Addr} {st : Sto} (k : StOk K mg μ st hid H) {w : W} {v : V} {t : String} (h : tyW st w = some t) (r : Rep K mg (Fz μ st hid H) μ w v) : TyX K H v (.type t) := by
  cases w with
  | non => unfold tyW at h; cases h; cases rep_non_inv r; exact .base .non
  | bl b => unfold tyW at h; cases h; cases rep_bl_inv r; exact .base (.bl b)
  | int b => unfold tyW at h; cases h; cases rep_int_inv r; exact .base (.int b)
  | str b => unfold tyW at h; cases h; cases rep_str_inv r; exact .base (.str b)
  | tup ws => unfold tyW at h; cases h; obtain ⟨a, vs, rfl, h1, _⟩ := rep_tup_inv r; exact tup_ty Fz.le h1
  | tpn ws => unfold tyW at h; cases h; obtain ⟨a, vs, rfl, ⟨o, _, h1⟩, _⟩ := rep_tpn_inv r; exact .fTuple (Fz.sub h1).1
  | lst ws => unfold tyW at h; cases h; obtain ⟨a, vs, rfl, h1, _⟩ := rep_lst_inv r; exact .base (.lst (Fz.sub h1).1)
  | dct ks ws =>
    have h' : (if tlK ks = true then none else some "dict") = some t := h
    split at h'
    · cases h'
    · rename_i ht
      cases h'
      unfold Rep at r
      obtain ⟨a, vs, rfl, h1, _⟩ := r
      exact dct_ty (fun _ z => (Fz.sub z).1) h1 ht
  | cell n =>
    unfold tyW at h
    simp only at h
    split at h
    · rename_i ws e
      cases h
      obtain ⟨a, rfl, e2, vs, h1, h2⟩ := k.cell e r
      exact .base (.lst h1)
    · rename_i ks ws e
      by_cases ht : tlK ks = true
      · rw [if_pos ht] at h; cases h
      · rw [if_neg ht] at h
        cases h
        obtain ⟨a, rfl, e2, vs, h1, h2⟩ := k.cell e r
        exact dct_ty (fun _ z => z) h1.rd ht
    · rename_i ws e
      cases h
      obtain ⟨a, rfl, e2, h1⟩ := k.cell e r
      obtain ⟨b, vs, e3, h2, _⟩ := rep_lst_inv h1
      cases e3
      exact .base (.lst (Fz.sub h2).1)
    · rename_i ws e
      cases h
      obtain ⟨a, rfl, e2, h1⟩ := k.cell e r
      obtain ⟨b, vs, e3, h2, _⟩ := rep_tup_inv h1
      cases e3
      exact tup_ty Fz.le h2
    · cases h
  | _ => cases h
/-- is a value of the type a one of b? -/
def subT (a b : String) : Bool := a == b || (a == "bool" && b == "int")
def tyNames : List W → Option (List String)
  | [] => some []
  | .ty n :: r => (tyNames r).map (n :: ·)
  | _ => none
def tyN (n : String) : Bool := n == "int" || n == "bool" || n == "str" || n == "tuple" || n == "list" || n == "dict" || n == "NoneType"
theorem kit_sub {K : PySem.W.Frag} {a b : String} (ha : tyN a = true) (hb : tyN b = true) : PySem.W.kitOne K (.type a) (.type b) = some (subT a b) := by
  simp only [tyN, Bool.or_eq_true, beq_iff_eq] at ha hb
  rcases ha with (((((rfl | rfl) | rfl) | rfl) | rfl) | rfl) | rfl <;> rcases hb with (((((rfl | rfl) | rfl) | rfl) | rfl) | rfl) | rfl <;> exact kit_ty (by decide +kernel)
end
end SL

namespace SL
open PySem PySem.Spec PyProof.Rows L2
section
variable {K : PySem.W.Frag} {mg : Str → Option Value} {μ : List Addr} {st : Sto} {hid : List Addr} {H F : Hp}
theorem reps1 {ws : List W} {w : W} {vs : List V} (r : Reps K mg F μ [w] vs) : ∃ v, vs = [v] ∧ Rep K mg F μ w v := by
  obtain ⟨v, t, rfl, h1, h2⟩ := r.cons_inv
  rw [Reps.nil_iff] at h2; subst h2
  exact ⟨v, rfl, h1⟩
theorem reps2 {w u : W} {vs : List V} (r : Reps K mg F μ [w, u] vs) : ∃ v x, vs = [v, x] ∧ Rep K mg F μ w v ∧ Rep K mg F μ u x := by
  obtain ⟨v, t, rfl, h1, h2⟩ := r.cons_inv
  obtain ⟨x, rfl, h3⟩ := reps1 (ws := []) h2
  exact ⟨v, x, rfl, h1, h3⟩
theorem tyNames_at : ∀ {ws : List W} {ns : List String} {vs : List V}, tyNames ws = some ns → Reps K mg F μ ws vs → vs = ns.map V.ty
  | [], ns, vs, h, r => by unfold tyNames at h; cases h; rw [Reps.nil_iff] at r; subst r; rfl
  | .ty n :: ws, ns, vs, h, r => by
    unfold tyNames at h
    obtain ⟨v, t, rfl, h1, h2⟩ := r.cons_inv
    cases e : tyNames ws with
    | none => rw [e] at h; cases h
    | some ms =>
      rw [e] at h; cases h
      rw [rep_ty_inv h1, tyNames_at e h2]; rfl
  | .non :: _, _, _, h, _ | .bl _ :: _, _, _, h, _ | .int _ :: _, _, _, h, _ | .str _ :: _, _, _, h, _ | .tup _ :: _, _, _, h, _ | .lst _ :: _, _, _, h, _ | .dct _ _ :: _, _, _, h, _ | .ins _ _ _ :: _, _, _, h, _ | .cell _ :: _, _, _, h, _ | .ro _ :: _, _, _, h, _ | .tpn _ :: _, _, _, h, _ | .cls _ :: _, _, _, h, _ => by unfold tyNames at h; cases h
theorem kitAny_names {a : String} (ha : tyN a = true) : ∀ ns : List String, ns.all tyN = true → PySem.W.kitAny K (.type a) (ns.map Value.type) = some (ns.any (subT a))
  | [], _ => rfl
  | n :: ns, h => by
    rw [List.all_cons, Bool.and_eq_true] at h
    refine kitAny_cons (kit_sub ha h.1) (fun e => ?_) fun e => ?_
    · rw [kitAny_names ha ns h.2, List.any_cons, e]; rfl
    · rw [List.any_cons, e]; rfl
end
section
variable {X : Cx}
/-- isinstance(x, T), isinstance(x, (T1, ..)) of built-in types -/
def oIsi : OpN := fun ws st => match ws with
  | [x, .ty n] => match tyW st x with
    | some t => if tyN t && tyN n then .ok (.bl (subT t n)) st else .bad
    | none => .bad
  | [x, .tup cs] => match tyW st x, tyNames cs with
    | some t, some ns => if tyN t && ns.all tyN then .ok (.bl (ns.any (subT t))) st else .bad
    | _, _ => .bad
  | _ => .bad
def rIsiAll (K : PySem.W.Frag) : List V → Hp → VK → Prop := fun vs H Q => rIsi K vs H Q ∨ rIsiT K vs H Q ∨ rIsiK K vs H Q
theorem cr_isi : CallR X (.builtin "isinstance") (rIsiAll X.K) := call_isi.or (call_isiT.or call_isiK)
theorem paired_ty : ∀ ns : List String, Paired ClsV (ns.map V.ty) (ns.map Value.type)
  | [] => .nil
  | n :: ns => .cons (.ty n) (paired_ty ns)
theorem os_isi : OpNS X oIsi (rIsiAll X.K) := by
  intro Wx hid μ st σ H Q ws vs k r P
  unfold oIsi at P
  split at P
  · rename_i x n
    obtain ⟨v, c, rfl, r1, r2⟩ := reps2 r
    split at P
    · rename_i t e
      split at P
      · rename_i ht
        rw [Bool.and_eq_true] at ht
        rw [rep_ty_inv r2]
        exact .inl ⟨v, .ty n, .type t, .type n, _, rfl, .ty n, tyW_at k e r1, kit_sub ht.1 ht.2, P μ H _ k .refl rep_bl⟩
      · exact P.elim
    · exact P.elim
  · rename_i x cs
    obtain ⟨v, c, rfl, r1, r2⟩ := reps2 r
    split at P
    · rename_i t ns e1 e2
      split at P
      · rename_i ht
        rw [Bool.and_eq_true] at ht
        obtain ⟨a, us, rfl, h1, h2⟩ := rep_tup_inv r2
        have e3 := tyNames_at e2 h2
        subst e3
        exact .inr (.inl ⟨v, a, _, .type t, _, _, rfl, (Fz.sub h1).1, paired_ty ns, tyW_at k e1 r1, kitAny_names ht.1 ns ht.2, P μ H _ k .refl rep_bl⟩)
      · exact P.elim
    · exact P.elim
  · exact P.elim
theorem ev_ty {n : String} {x : Str} {pos : Pos} {Wx : Wish} (hm : X.mg x = none) (hv : bootBuiltins x = some (.type n) := by decide +kernel) (hg : Gl X x := by rfl) (hn : x ≠ "__name__" := by decide) (hd : (x == ("__debug__" : Str)) = false := by decide) : EV X Wx (.Name x pos) (eC (.ty n)) :=
  ev_c (v := .ty n) (pe_bltn hg hm hv rfl hn hd) fun F μ => by unfold Rep; rfl

/-! ## len, list, tuple, int -/
def oLen : OpN := fun ws st => match ws with
  | [.str z] => if z.length ≤ LINE then .ok (.int z.length) st else .bad
  | [x] => match seqW st x with
    | some us => .ok (.int us.length) st
    | none => .bad
  | _ => .bad
def rLenAll (K : PySem.W.Frag) : List V → Hp → VK → Prop := fun vs H Q => ∃ x n, vs = [x] ∧ LenV K x H n ∧ Q (.int n) H
theorem cr_len : CallR X (.builtin "len") (rLenAll X.K) := call_len
theorem os_len : OpNS X oLen (rLenAll X.K) := by
  intro Wx hid μ st σ H Q ws vs k r P
  unfold oLen at P
  split at P
  · obtain ⟨v, rfl, r1⟩ := reps1 (ws := []) r
    cases rep_str_inv r1
    split at P
    · rename_i hz
      exact ⟨_, _, rfl, ⟨le_line hz, rfl⟩, P μ H _ k .refl rep_int⟩
    · exact P.elim
  · obtain ⟨v, rfl, r1⟩ := reps1 (ws := []) r
    split at P
    · rename_i us e
      obtain ⟨a, xs, rfl, h1, h2⟩ := seqW_at k e r1
      refine ⟨_, xs.length, rfl, ?_, ?_⟩
      · rcases h1 with h1 | h1
        · exact .inl ⟨xs, h1, rfl⟩
        · exact .inr ⟨xs, h1, rfl⟩
      · rw [← h2.length]
        exact P μ H _ k .refl rep_int
    · exact P.elim
  · exact P.elim
def oTuple : OpN := fun ws st => match ws with
  | [x] => match lstW st x with
    | some us => .ok (.tup us) st
    | none => match tupW st x with
      | some _ => .ok x st
      | none => .bad
  | _ => .bad
theorem os_tuple : OpNS X oTuple (fun xs H Q => ∃ a ys, xs = [.ref a] ∧ ((SqL X.K H a ys ∧ ∀ l, H l = none → Q (.ref l) (upd H l (.tup ys))) ∨ (SqT X.K H a ys ∧ Q (.ref a) H))) := by
  intro Wx hid μ st σ H Q ws vs k r P
  unfold oTuple at P
  split at P
  · obtain ⟨v, rfl, r1⟩ := reps1 (ws := []) r
    split at P
    · rename_i us e'
      obtain ⟨a, xs, rfl, h1, h2⟩ := lstW_at k e' r1
      exact ⟨a, xs, rfl, .inl ⟨h1, fun l hl => ok_new P k hl fun F le e => rep_tup e (h2.mono le (.refl _))⟩⟩
    · split at P
      · rename_i us e
        obtain ⟨a, xs, rfl, h1, h2⟩ := tupW_at k e r1
        exact ⟨a, xs, rfl, .inr ⟨h1, P μ H _ k .refl r1⟩⟩
      · exact P.elim
  · exact P.elim
def oInt : OpN := fun ws st => match ws with
  | [.int i] => .ok (.int i) st
  | [.bl b] => .ok (.int (if b then 1 else 0)) st
  | _ => .bad
theorem os_int : OpNS X oInt (fun xs H Q => (∃ i, xs = [.int i] ∧ Q (.int i) H) ∨ ∃ k, xs = [.bl k] ∧ Q (.int (if k then 1 else 0)) H) := by
  intro Wx hid μ st σ H Q ws vs k r P
  unfold oInt at P
  split at P
  · obtain ⟨v, rfl, r1⟩ := reps1 (ws := []) r
    cases rep_int_inv r1
    exact .inl ⟨_, rfl, P μ H _ k .refl rep_int⟩
  · obtain ⟨v, rfl, r1⟩ := reps1 (ws := []) r
    cases rep_bl_inv r1
    exact .inr ⟨_, rfl, P μ H _ k .refl rep_int⟩
  · exact P.elim

/-! ## lists of bools, of ints -/
def blsW : List W → Option (List Bool)
  | [] => some []
  | .bl b :: r => (blsW r).map (b :: ·)
  | _ => none
def intsW : List W → Option (List Int)
  | [] => some []
  | .int b :: r => (intsW r).map (b :: ·)
  | _ => none
theorem blsW_at {K : PySem.W.Frag} {mg : Str → Option Value} {F : Hp} {μ : List Addr} : ∀ {ws : List W} {bs : List Bool} {vs : List V}, blsW ws = some bs → Reps K mg F μ ws vs → vs = bs.map V.bl
  | [], bs, vs, h, r => by unfold blsW at h; cases h; rw [Reps.nil_iff] at r; subst r; rfl
  | .bl b :: ws, bs, vs, h, r => by
    unfold blsW at h
    obtain ⟨v, t, rfl, h1, h2⟩ := r.cons_inv
    cases e : blsW ws with
    | none => rw [e] at h; cases h
    | some ms => rw [e] at h; cases h; rw [rep_bl_inv h1, blsW_at e h2]; rfl
  | .non :: _, _, _, h, _ | .ty _ :: _, _, _, h, _ | .int _ :: _, _, _, h, _ | .str _ :: _, _, _, h, _ | .tup _ :: _, _, _, h, _ | .lst _ :: _, _, _, h, _ | .dct _ _ :: _, _, _, h, _ | .ins _ _ _ :: _, _, _, h, _ | .cell _ :: _, _, _, h, _ | .ro _ :: _, _, _, h, _ | .tpn _ :: _, _, _, h, _ | .cls _ :: _, _, _, h, _ => by unfold blsW at h; cases h
/-- f of a list of bools -/
def oBls (f : List Bool → Bool) : OpN := fun ws st => match ws with
  | [x] => match (lstW st x).bind blsW with
    | some bs => .ok (.bl (f bs)) st
    | none => .bad
  | _ => .bad
theorem bls_of {hid μ : List Addr} {st : Sto} {H : Hp} (k : StOk X.K X.mg μ st hid H) {x : W} {bs : List Bool} {v : V} (h : (lstW st x).bind blsW = some bs) (r : Rep X.K X.mg (Fz μ st hid H) μ x v) : ∃ a, v = .ref a ∧ SqL X.K H a (bs.map V.bl) := by
  cases e : lstW st x with
  | none => rw [e] at h; cases h
  | some us =>
    rw [e] at h
    obtain ⟨a, xs, rfl, h1, h2⟩ := lstW_at k e r
    rw [blsW_at h h2] at h1
    exact ⟨a, rfl, h1⟩
def oAll : OpN := oBls fun bs => bs.all id
theorem os_all : OpNS X oAll (rAll X.K) := by
  intro Wx hid μ st σ H Q ws vs k r P
  unfold oAll oBls at P
  split at P
  · obtain ⟨v, rfl, r1⟩ := reps1 (ws := []) r
    split at P
    · rename_i bs e
      obtain ⟨a, rfl, h1⟩ := bls_of k e r1
      exact ⟨a, bs, rfl, h1, P μ H _ k .refl rep_bl⟩
    · exact P.elim
  · exact P.elim
/-! ## an item -/
theorem atI_rep {K : PySem.W.Frag} {mg : Str → Option Value} {F : Hp} {μ : List Addr} {ws : List W} {vs : List V} {i : Int} {w : W} (r : Reps K mg F μ ws vs) (h : atI ws i = some w) : ∃ v, atI vs i = some v ∧ Rep K mg F μ w v := by
  unfold atI at h ⊢
  rw [← r.length]
  cases e : ixN ws.length i with
  | none => rw [e] at h; cases h
  | some j =>
    rw [e] at h
    exact r.get h
def oIx : Op2 := fun x y st => match y with
  | .int i => match x with
    | .str z => if z.length ≤ LINE then (match atI z.cps.toList i with
      | some c => .ok (.str ⟨#[c]⟩) st
      | none => .bad) else .bad
    | _ => match (seqW st x).bind fun ws => atI ws i with
      | some w => .ok w st
      | none => .bad
  | _ => .bad
theorem os_ix : Op2S X oIx (rIx X.K) := by
  intro Wx hid μ st σ H Q w u x y k rx ry P
  unfold oIx at P
  split at P
  · rename_i i
    cases rep_int_inv ry
    split at P
    · rename_i z
      cases rep_str_inv rx
      split at P
      · rename_i hz
        split at P
        · rename_i c e
          exact .inr (.inr ⟨z, i, c, rfl, rfl, le_line hz, e, P μ H _ k .refl rep_str⟩)
        · exact P.elim
      · exact P.elim
    · split at P
      · rename_i w' e
        cases e2 : seqW st w with
        | none => rw [e2] at e; cases e
        | some ws =>
          rw [e2] at e
          obtain ⟨a, vs, rfl, h1, h2⟩ := seqW_at k e2 rx
          obtain ⟨v, h3, h4⟩ := atI_rep h2 e
          rcases h1 with h1 | h1
          · exact .inl ⟨a, vs, i, v, rfl, rfl, h1, h3, P μ H _ k .refl h4⟩
          · exact .inr (.inl ⟨a, vs, i, v, rfl, rfl, h1, h3, P μ H _ k .refl h4⟩)
      · exact P.elim
  · exact P.elim

/-! ## slices -/
def cutW (ws : List W) (lo hi : Option Int) : List W := (ws.drop (HT.sIx ws.length 0 lo)).take (HT.sIx ws.length ws.length hi - HT.sIx ws.length 0 lo)
theorem cutW_rep {K : PySem.W.Frag} {mg : Str → Option Value} {F : Hp} {μ : List Addr} {ws : List W} {vs : List V} (lo hi : Option Int) (r : Reps K mg F μ ws vs) : Reps K mg F μ (cutW ws lo hi) (cutV vs lo hi) := by
  unfold cutW cutV
  rw [← r.length]
  exact (r.drop _).take _
abbrev SemO := Fr → Sto → Out (Option Int)
def pNo : SemO := fun _ st => .ok none st
def pYes (f : Sem) : SemO := fun fr st => (f fr st).bind fun w st1 => match w with
  | .int i => .ok (some i) st1
  | _ => .bad
def OPost (K : PySem.W.Frag) (mg : Str → Option Value) (Wx : WX) (hid μ : List Addr) (st : Sto) (σ : L2.St) (H : Hp) (Q : Option Int → Hp → Prop) : Out (Option Int) → Prop
  | .ok b st' => ∀ μ' H', StOk K mg μ' st' hid H' → Grow hid μ st H μ' st' H' → Q b H'
  | .err x st' => ∀ μ' H' c d, StOk K mg μ' st' hid H' → Grow hid μ st H μ' st' H' → XRep K mg (Fz μ' st' hid H') μ' x c d → Wx c d σ H'
  | .bad => False
def tO (K : PySem.W.Frag) (mg : Str → Option Value) (Wx : Wish) (f : SemO) : TO := fun σ H Q => ∃ μ st hid fr, SI K mg Wx μ st hid fr σ H ∧ OPost K mg Wx.w hid μ st σ H Q (f fr st)
abbrev OV (X : Cx) (Wx : Wish) (e : Option Expr) (f : SemO) : Prop := PO X e (tO X.K X.mg Wx f)
theorem POm {e : Option Expr} {t t' : TO} (h : PO X e t) (i : ∀ σ H Q, t' σ H Q → t σ H Q) : PO X e t' := ⟨fun pins s σ H Q I q => h.run pins s σ H Q I (i σ H Q q)⟩
variable {Wx : Wish}
theorem ov_no : OV X Wx none pNo := POm po_none fun σ H Q ⟨μ, st, hid, fr, S, P⟩ => P μ H S.sto .refl
theorem ov_yes {e : Expr} {f : Sem} (h : EV X Wx e f) : OV X Wx (some e) (pYes f) := POm (po_some h) fun σ H Q ⟨μ, st, hid, fr, S, P⟩ => by
  refine ⟨μ, st, hid, fr, S, ?_⟩
  unfold pYes at P
  cases h : f fr st with
  | bad => rw [h] at P; exact P
  | err x s => rw [h] at P; exact P
  | ok w st1 =>
    rw [h, Out.bind_ok] at P
    intro μ1 H1 v k1 g1 r1
    cases w with
    | int i => exact ⟨i, rep_int_inv r1, P μ1 H1 k1 g1⟩
    | _ => exact P.elim
def oSl (x : W) (lo hi : Option Int) (st : Sto) : Out W := match x with
  | .str z => if z.length ≤ LINE then .ok (.str (cutS z lo hi)) st else .bad
  | _ => match lstW st x with
    | some ws => .ok (.lst (cutW ws lo hi)) st
    | none => match trkW st x with
      | some ws => .ok (.tup (cutW ws lo hi)) st
      | none => .bad
def eSl (f : Sem) (l h : SemO) : Sem := fun fr st => (f fr st).bind fun x st1 => (l fr st1).bind fun lo st2 => (h fr st2).bind fun hi st3 => oSl x lo hi st3
def rSlAll (K : PySem.W.Frag) : V → Option Int → Option Int → Hp → VK → Prop := fun x lo hi H Q => rSlS x lo hi H Q ∨ rSlL K x lo hi H Q ∨ rSlA K x lo hi H Q
theorem sr_all : SlR X (rSlAll X.K) := sl_str.or (sl_list.or sl_tupA)
theorem cutW_whole {ws : List W} {lo hi : Option Int} (h : HT.sIx ws.length 0 lo = 0 ∧ HT.sIx ws.length ws.length hi = ws.length) : cutW ws lo hi = ws := by
  unfold cutW
  rw [h.1, h.2]
  simp
theorem os_sl {Wx : WX} {hid μ : List Addr} {st : Sto} {σ : L2.St} {H : Hp} {Q : VK} {w : W} {x : V} {lo hi : Option Int} (k : StOk X.K X.mg μ st hid H) (rx : Rep X.K X.mg (Fz μ st hid H) μ w x)
    (P : EPost X.K X.mg Wx hid μ st σ H Q (oSl w lo hi st)) : rSlAll X.K x lo hi H Q := by
  unfold oSl at P
  split at P
  · split at P
    · rename_i hz
      cases rep_str_inv rx
      exact .inl ⟨_, rfl, le_line hz, P μ H _ k .refl rep_str⟩
    · exact P.elim
  · split at P
    · rename_i ws e
      obtain ⟨a, xs, rfl, h1, h2⟩ := lstW_at k e rx
      exact .inr (.inl ⟨a, xs, rfl, h1, fun p hp => ok_new P k hp fun F l e => rep_lst e ((cutW_rep lo hi h2).mono l (.refl _))⟩)
    · split at P
      · rename_i ws e
        obtain ⟨a, xs, rfl, h1, h2⟩ := trkW_at k e rx
        refine .inr (.inr ⟨a, xs, rfl, h1.fz, fun hw => ?_, fun _ p hp => ok_new P k hp fun F l e => rep_tup e ((cutW_rep lo hi h2).mono l (.refl _))⟩)
        rw [← h2.length] at hw
        rw [cutW_whole hw] at P
        refine P μ H _ k .refl ?_
        unfold Rep
        exact ⟨a, xs, rfl, h1, h2⟩
      · exact P.elim
theorem ev_sl {e : Expr} {l h : Option Expr} {f : Sem} {fl fh : SemO} {p2 pos : Pos} (he : EV X Wx e f) (hl : OV X Wx l fl) (hh : OV X Wx h fh) : EV X Wx (.Subscript e (.Slice l h none p2) pos) (eSl f fl fh) := PEm (pe_slice sr_all he hl hh) fun σ H Q ⟨μ, st, hid, fr, S, P⟩ => by
  refine ⟨μ, st, hid, fr, S, ?_⟩
  unfold eSl at P
  cases h1 : f fr st with
  | bad => rw [h1] at P; exact P
  | err x s => rw [h1] at P; exact P
  | ok x st1 =>
    rw [h1, Out.bind_ok] at P
    intro μ1 H1 vx k1 g1 r1
    refine ⟨μ1, st1, hid, fr, S.next k1 g1, ?_⟩
    have P1 := EPost.from g1 P
    cases h2 : fl fr st1 with
    | bad => rw [h2] at P1; exact P1
    | err x s => rw [h2] at P1; exact P1
    | ok lo st2 =>
      rw [h2, Out.bind_ok] at P1
      intro μ2 H2 k2 g2
      refine ⟨μ2, st2, hid, fr, (S.next k1 g1).next k2 g2, ?_⟩
      have P2 := EPost.from g2 P1
      cases h3 : fh fr st2 with
      | bad => rw [h3] at P2; exact P2
      | err x s => rw [h3] at P2; exact P2
      | ok hi st3 =>
        rw [h3, Out.bind_ok] at P2
        intro μ3 H3 k3 g3
        exact os_sl k3 (Rep.mono (g2.trans g3).le (g2.trans g3).pre _ _ r1) (EPost.from g3 P2)
end
end SL

namespace SL
open PySem PySem.Spec PyProof.Rows L2

/-! ## targets -/
abbrev TgF := W → Fr → Sto → Option Fr
def gNm (i : Nat) : TgF := fun w fr _ => some (fr.set i (some w))
/-- all but the slots at sl is as it was -/
def Agree (sl : List Nat) (σ σ' : L2.St) : Prop := σ'.length = σ.length ∧ ∀ j, j ∉ sl → σ'[j]? = σ[j]?
theorem Agree.refl (sl : List Nat) (σ : L2.St) : Agree sl σ σ := ⟨rfl, fun _ _ => rfl⟩
theorem Agree.trans {sl sl' : List Nat} {σ σ' σ'' : L2.St} (a : Agree sl σ σ') (b : Agree sl' σ' σ'') : Agree (sl ++ sl') σ σ'' :=
  ⟨b.1.trans a.1, fun j h => (b.2 j fun z => h (List.mem_append_right _ z)).trans (a.2 j fun z => h (List.mem_append_left _ z))⟩
section
variable {X : Cx} {Wx : Wish}
def tG (K : PySem.W.Frag) (mg : Str → Option Value) (Wx : Wish) (g : TgF) (sl : List Nat) : TG := fun v σ H Q => ∃ μ st hid fr w fr', SI K mg Wx μ st hid fr σ H ∧ Rep K mg (Fz μ st hid H) μ w v ∧ g w fr st = some fr' ∧ ∀ σ', SI K mg Wx μ st hid fr' σ' H → Agree sl σ σ' → Q σ' H
abbrev GV (X : Cx) (Wx : Wish) (e : Expr) (g : TgF) (sl : List Nat) : Prop := PG X e (tG X.K X.mg Wx g sl)
theorem PGm {e : Expr} {t t' : TG} (h : PG X e t) (i : ∀ v σ H Q, t' v σ H Q → t v σ H Q) : PG X e t' := ⟨fun pins s σ H v u Q I r q => h.run pins s σ H v u Q I r (i v σ H Q q)⟩
theorem gv_nm {i : Nat} {x : Str} {pos : Pos} (hN : X.N.Nodup) (hi : X.N[i]? = some x := by rfl) (hx : Loc X.env.scope x := by first | exact Or.inl rfl | exact Or.inr rfl) (hf : X.fn x = true ∨ X.env.scope.names.lookup x = some .local := by first | exact .inl rfl | exact .inr rfl) (hk : i ∉ Wx.lock := by first | exact List.not_mem_nil | decide) : GV X Wx (.Name x pos) (gNm i) [i] :=
  PGm (pg_name hN hi hx hf) fun v σ H Q ⟨μ, st, hid, fr, w, fr', S, r, e, q⟩ => by
    unfold gNm at e
    cases e
    exact q _ (S.set i hk r) ⟨by simp, fun j h => by rw [List.getElem?_set_ne]; simp at h; exact fun z => h z.symm⟩
end

/-! ## what is walked -/
abbrev SemI := Fr → Sto → Out (W × List W)
def numbered (ws : List W) : List W := ws.mapIdx fun i w => .tup [.int (i : Nat), w]
/-- the walked thing holds what it held; .int k stands for the list in cell k, numbered -/
def srcOk (x : W) (ws : List W) (st : Sto) : Prop := match x with
  | .cell _ => lstW st x = some ws
  | .int k => ∃ us, lstW st (.cell k.toNat) = some us ∧ ws = numbered us
  | _ => True
/-- the iterator J gives the items ws; F, μ0: where it began -/
structure ItOk (K : PySem.W.Frag) (mg : Str → Option Value) (J : It) (x : W) (ws : List W) (F : Hp) (μ0 : List Addr) (L : Hp) : Prop where
  len : ws.length ≤ sizeLine
  go : ∀ hid μ st H i, StOk K mg μ st hid H → Le F (Fz μ st hid H) → Pre μ0 μ → Lk L H → srcOk x ws st → i < ws.length → J.go i H
  yld : ∀ hid μ st H i v H', StOk K mg μ st hid H → Le F (Fz μ st hid H) → Pre μ0 μ → Lk L H → srcOk x ws st → i < ws.length → J.yld i H v H' →
    StOk K mg μ st hid H' ∧ Grow hid μ st H μ st H' ∧ ∃ w, ws[i]? = some w ∧ Rep K mg (Fz μ st hid H') μ w v
  stop : ∀ hid μ st H i, StOk K mg μ st hid H → Le F (Fz μ st hid H) → Pre μ0 μ → Lk L H → srcOk x ws st → ws.length ≤ i → J.stop i H
def IPost (K : PySem.W.Frag) (mg : Str → Option Value) (Wx : WX) (hid μ : List Addr) (st : Sto) (σ : L2.St) (H : Hp) (R : It → Hp → Prop) : Out (W × List W) → Prop
  | .ok (x, ws) st' => ∀ μ' H' J, StOk K mg μ' st' hid H' → Grow hid μ st H μ' st' H' → ItOk K mg J x ws (Fz μ' st' hid H') μ' H' → R J H'
  | .err x st' => ∀ μ' H' c d, StOk K mg μ' st' hid H' → Grow hid μ st H μ' st' H' → XRep K mg (Fz μ' st' hid H') μ' x c d → Wx c d σ H'
  | .bad => False
def tI (K : PySem.W.Frag) (mg : Str → Option Value) (Wx : Wish) (f : SemI) : TI := fun σ H R => ∃ μ st hid fr, SI K mg Wx μ st hid fr σ H ∧ IPost K mg Wx.w hid μ st σ H R (f fr st)
abbrev IV (X : Cx) (Wx : Wish) (tg e : Expr) (f : SemI) : Prop := PI X tg e (tI X.K X.mg Wx f)
theorem PIm {X : Cx} {tg e : Expr} {t t' : TI} (h : PI X tg e t) (i : ∀ σ H R, t' σ H R → t σ H R) : PI X tg e t' := ⟨fun pins s σ H R I q => h.run pins s σ H R I (i σ H R q)⟩
theorem IPost.from {K : PySem.W.Frag} {mg : Str → Option Value} {Wx : WX} {hid μ μ' : List Addr} {st st' : Sto} {σ : L2.St} {H H' : Hp} {R : It → Hp → Prop} {o : Out (W × List W)} (x : Grow hid μ st H μ' st' H') (h : IPost K mg Wx hid μ st σ H R o) : IPost K mg Wx hid μ' st' σ H' R o := by
  cases o with
  | ok w s => exact fun μ2 H2 v a b c => h μ2 H2 v a (x.trans b) c
  | err e s => exact fun μ2 H2 c d a b r => h μ2 H2 c d a (x.trans b) r
  | bad => exact h
section
variable {X : Cx} {Wx : Wish} {tg : Expr}
/-- a list or a tuple, walked -/
def iSeqT (K : PySem.W.Frag) (tl : TE) : TI := fun σ H R => tl σ H fun x H1 => ∃ a xs, x = .ref a ∧ ((SqL K H1 a xs ∧ (xs.length ≤ sizeLine → R (Itl K a) H1)) ∨ (SqT K H1 a xs ∧ (xs.length ≤ sizeLine → R (Itt K a) H1)))
theorem pi_seqT {l : Expr} {tl : TE} (hl : PE X l tl) : PI X tg l (iSeqT X.K tl) := by
  refine ⟨fun pins s σ H R I hh => thn (hl.run pins s σ H _ I hh) fun u s' ⟨y, HH, J1, ry, a, zs, ey, qq⟩ => ?_⟩
  subst ey
  cases ry
  rcases qq with ⟨hq, qq⟩ | ⟨hq, qq⟩
  · obtain ⟨us, ru, pp, hle⟩ := J1.list hq
    refine wpAny_pyIter_list pp.isList ⟨_, [s'.heap.objs.size], _, _, HH, rfl, J1.kept (t' := s'.toks) fun c oo ee => Heap.get?_push_of_some _ ee, turn_list a _, ⟨_, Heap.get?_push_size _ rfl, rfl, rfl⟩, fun c hc => ?_, qq hle⟩
    cases (List.mem_singleton.mp hc)
    exact J1.fpOk (Nat.le_refl _) (J1.hok.fresh (Nat.le_refl _))
  · obtain ⟨us, ru, pp, hle⟩ := J1.tuple hq
    refine wpAny_pyIter_tuple (show s'.heap.IsTuple a us.toArray from pp) ⟨_, [s'.heap.objs.size], _, _, HH, rfl, J1.kept (t' := s'.toks) fun c oo ee => Heap.get?_push_of_some _ ee, turn_tuple a _, ⟨_, Heap.get?_push_size _ rfl, rfl, rfl⟩, fun c hc => ?_, qq hle⟩
    cases (List.mem_singleton.mp hc)
    exact J1.fpOk (Nat.le_refl _) (J1.hok.fresh (Nat.le_refl _))
def itW (st : Sto) (x : W) : Option (List W) := match x with
  | .cell _ => lstW st x
  | _ => seqW st x
def iSeq (f : Sem) : SemI := fun fr st => (f fr st).bind fun x st1 => match itW st1 x with
  | some ws => .ok (x, ws) st1
  | none => .bad
/-- a list in the air -/
theorem itOk_list {K : PySem.W.Frag} {mg : Str → Option Value} {x : W} {ws : List W} {F L : Hp} {μ0 : List Addr} {a : Addr} (hl : ws.length ≤ sizeLine)
    (now : ∀ hid μ st H, StOk K mg μ st hid H → Le F (Fz μ st hid H) → Pre μ0 μ → srcOk x ws st → ∃ vs, SqL K H a vs ∧ Reps K mg (Fz μ st hid H) μ ws vs) : ItOk K mg (Itl K a) x ws F μ0 L where
  len := hl
  go := fun hid μ st H i k l p _ s hi => by
    obtain ⟨vs, h1, h2⟩ := now hid μ st H k l p s
    exact ⟨vs, vs[i]'(by rw [← h2.length]; exact hi), h1, by simp⟩
  yld := fun hid μ st H i v H' k l p _ s hi y => by
    obtain ⟨vs, h1, h2⟩ := now hid μ st H k l p s
    obtain ⟨rfl, y⟩ := y
    exact ⟨k, .refl, h2.get' (y vs h1)⟩
  stop := fun hid μ st H i k l p _ s hi => by
    obtain ⟨vs, h1, h2⟩ := now hid μ st H k l p s
    exact ⟨vs, h1, by rw [← h2.length]; exact hi⟩
theorem itOk_tup {K : PySem.W.Frag} {mg : Str → Option Value} {x : W} {ws : List W} {F L : Hp} {μ0 : List Addr} {a : Addr} (hl : ws.length ≤ sizeLine)
    (now : ∀ hid μ st H, StOk K mg μ st hid H → Le F (Fz μ st hid H) → Pre μ0 μ → srcOk x ws st → ∃ vs, SqT K H a vs ∧ Reps K mg (Fz μ st hid H) μ ws vs) : ItOk K mg (Itt K a) x ws F μ0 L where
  len := hl
  go := fun hid μ st H i k l p _ s hi => by
    obtain ⟨vs, h1, h2⟩ := now hid μ st H k l p s
    exact ⟨vs, vs[i]'(by rw [← h2.length]; exact hi), h1, by simp⟩
  yld := fun hid μ st H i v H' k l p _ s hi y => by
    obtain ⟨vs, h1, h2⟩ := now hid μ st H k l p s
    obtain ⟨rfl, y⟩ := y
    exact ⟨k, .refl, h2.get' (y vs h1)⟩
  stop := fun hid μ st H i k l p _ s hi => by
    obtain ⟨vs, h1, h2⟩ := now hid μ st H k l p s
    exact ⟨vs, h1, by rw [← h2.length]; exact hi⟩
/-- a list or tuple value: how it stands later -/
theorem seq_now {K : PySem.W.Frag} {mg : Str → Option Value} {hid0 μ0 : List Addr} {st0 : Sto} {H0 : Hp} {x : W} {ws : List W} {v : V} (k0 : StOk K mg μ0 st0 hid0 H0) (h : itW st0 x = some ws) (r : Rep K mg (Fz μ0 st0 hid0 H0) μ0 x v) :
    ∃ a vs0, v = .ref a ∧ vs0.length = ws.length ∧ ((SqL K H0 a vs0 ∧ ∀ hid μ st H, StOk K mg μ st hid H → Le (Fz μ0 st0 hid0 H0) (Fz μ st hid H) → Pre μ0 μ → srcOk x ws st → ∃ vs, SqL K H a vs ∧ Reps K mg (Fz μ st hid H) μ ws vs) ∨
      (SqT K H0 a vs0 ∧ ∀ hid μ st H, StOk K mg μ st hid H → Le (Fz μ0 st0 hid0 H0) (Fz μ st hid H) → Pre μ0 μ → srcOk x ws st → ∃ vs, SqT K H a vs ∧ Reps K mg (Fz μ st hid H) μ ws vs)) := by
  cases x with
  | lst us =>
    have e : us = ws := by unfold itW seqW lstW at h; exact Option.some.inj h
    subst e
    obtain ⟨a, vs, rfl, h1, h2⟩ := rep_lst_inv r
    exact ⟨a, vs, rfl, h2.length.symm, .inl ⟨SqL.fz h1, fun hid μ st H k l p _ => ⟨vs, SqL.fz (l.lst h1), h2.mono l p⟩⟩⟩
  | ro us =>
    have e : us = ws := by unfold itW seqW lstW at h; exact Option.some.inj h
    subst e
    obtain ⟨a, vs, rfl, h1, h2⟩ := rep_ro_inv r
    exact ⟨a, vs, rfl, h2.length.symm, .inl ⟨SqL.fz' h1, fun hid μ st H k l p _ => ⟨vs, SqL.fz' (SqL.le l h1), h2.mono l p⟩⟩⟩
  | tup us =>
    have e : us = ws := by unfold itW seqW lstW at h; exact Option.some.inj h
    subst e
    obtain ⟨a, vs, rfl, h1, h2⟩ := rep_tup_inv r
    exact ⟨a, vs, rfl, h2.length.symm, .inr ⟨h1.fz, fun hid μ st H k l p _ => ⟨vs, (h1.le l).fz, h2.mono l p⟩⟩⟩
  | tpn us =>
    have e : us = ws := by unfold itW seqW lstW at h; exact Option.some.inj h
    subst e
    obtain ⟨a, vs, rfl, h1, h2⟩ := rep_tpn_inv r
    exact ⟨a, vs, rfl, h2.length.symm, .inr ⟨h1.fz, fun hid μ st H k l p _ => ⟨vs, (h1.le l).fz, h2.mono l p⟩⟩⟩
  | cell n =>
    have h' : lstW st0 (.cell n) = some ws := h
    obtain ⟨a, vs, rfl, h1, h2⟩ := lstW_at k0 h' r
    obtain ⟨b, e1, e2⟩ := rep_cell_inv r
    cases e2
    refine ⟨a, vs, rfl, h2.length.symm, .inl ⟨h1, fun hid μ st H k l p s => ?_⟩⟩
    have s' : lstW st (.cell n) = some ws := s
    have r' : Rep K mg (Fz μ st hid H) μ (.cell n) (.ref a) := by unfold Rep; exact ⟨a, p.get e1, rfl⟩
    obtain ⟨c, us, e3, h3, h4⟩ := lstW_at k s' r'
    cases e3
    exact ⟨us, h3, h4⟩
  | _ => cases h
theorem iv_seq {e : Expr} {f : Sem} (he : EV X Wx e f) : IV X Wx tg e (iSeq f) := PIm (pi_seqT he) fun σ H R ⟨μ, st, hid, fr, S, P⟩ => by
  refine ⟨μ, st, hid, fr, S, ?_⟩
  unfold iSeq at P
  cases h1 : f fr st with
  | bad => rw [h1] at P; exact P
  | err x s => rw [h1] at P; exact P
  | ok x st1 =>
    rw [h1, Out.bind_ok] at P
    intro μ1 H1 v k1 g1 r1
    have P1 := IPost.from g1 P
    split at P1
    · rename_i ws e
      obtain ⟨a, vs, rfl, hl, q | q⟩ := seq_now k1 e r1
      · exact ⟨a, vs, rfl, .inl ⟨q.1, fun hz => P1 μ1 H1 _ k1 .refl (itOk_list (by rw [← hl]; exact hz) q.2)⟩⟩
      · exact ⟨a, vs, rfl, .inr ⟨q.1, fun hz => P1 μ1 H1 _ k1 .refl (itOk_tup (by rw [← hl]; exact hz) q.2)⟩⟩
    · exact P1.elim
/-- range -/
def rngW (lo c : Int) (n : Nat) : List W := (List.range n).map fun (i : Nat) => W.int (lo + (i : Int) * c)
theorem rngW_length (lo c : Int) (n : Nat) : (rngW lo c n).length = n := by unfold rngW; simp
theorem rngW_get {lo c : Int} {n i : Nat} (h : i < n) : (rngW lo c n)[i]? = some (.int (lo + (i : Int) * c)) := by
  unfold rngW
  rw [List.getElem?_map, List.getElem?_range h]; rfl
theorem itOk_rng {K : PySem.W.Frag} {mg : Str → Option Value} {F L : Hp} {μ0 : List Addr} {J : It} {lo c : Int} {n : Nat} (hn : n ≤ LINE) (h1 : ∀ i H, i < n → J.go i H) (h2 : ∀ i H x H', J.yld i H x H' → H' = H ∧ x = .int (lo + (i : Nat) * c)) (h3 : ∀ i H, n ≤ i → J.stop i H) :
    ItOk K mg J .non (rngW lo c n) F μ0 L where
  len := by rw [rngW_length]; exact le_line hn
  go := fun hid μ st H i k l p _ s hi => h1 i H (by rw [rngW_length] at hi; exact hi)
  yld := fun hid μ st H i v H' k l p _ s hi y => by
    rw [rngW_length] at hi
    obtain ⟨rfl, rfl⟩ := h2 i H v H' y
    exact ⟨k, .refl, _, rngW_get hi, rep_int⟩
  stop := fun hid μ st H i k l p _ s hi => h3 i H (by rw [rngW_length] at hi; exact hi)
noncomputable def big (j : Int) : Bool := dec (-(2 ^ 62) ≤ j ∧ j < 2 ^ 62)
theorem big_of {j : Int} (h : big j = true) : -(2 ^ 62) ≤ j ∧ j < 2 ^ 62 := dec_of h
abbrev RgF := List W → Option (Int × Int × Nat)
def iRng (op : RgF) (f : SemL) : SemI := fun fr st => (f fr st).bind fun ws st1 => match op ws with
  | some (lo, c, n) => if n ≤ LINE then .ok (.non, rngW lo c n) st1 else .bad
  | none => .bad
/-- J counts from lo by c, n turns -/
def Cnt (lo c : Int) (n : Nat) (J : It) : Prop := (∀ i H, i < n → J.go i H) ∧ (∀ i H x H', J.yld i H x H' → H' = H ∧ x = .int (lo + (i : Nat) * c)) ∧ ∀ i H, n ≤ i → J.stop i H
theorem iRng_read {op : RgF} {f : SemL} {wi : List V → Hp → (It → Hp → Prop) → Prop} (hw : ∀ (F : Hp) (μ : List Addr) (ws : List W) (vs : List V) (lo c : Int) (n : Nat) (H : Hp) (R : It → Hp → Prop), op ws = some (lo, c, n) → Reps X.K X.mg F μ ws vs → (∀ J, Cnt lo c n J → R J H) → wi vs H R) :
    ∀ σ H R, tI X.K X.mg Wx (iRng op f) σ H R → tA X.K X.mg Wx f σ H (fun vs H1 => wi vs H1 R) := fun σ H R ⟨μ, st, hid, fr, S, P⟩ => by
  refine ⟨μ, st, hid, fr, S, ?_⟩
  unfold iRng at P
  cases h1 : f fr st with
  | bad => rw [h1] at P; exact P
  | err x s => rw [h1] at P; exact P
  | ok ws st1 =>
    rw [h1, Out.bind_ok] at P
    intro μ1 H1 vs k1 g1 r1
    have P1 := IPost.from g1 P
    split at P1
    · rename_i lo c n e
      split at P1
      · rename_i hn
        exact hw _ _ ws vs lo c n H1 R e r1 fun J hJ => P1 μ1 H1 J k1 .refl (itOk_rng hn hJ.1 hJ.2.1 hJ.2.2)
      · exact P1.elim
    · exact P1.elim
theorem cnt_r (lo : Int) (n : Nat) : Cnt lo 1 n (Itr lo n) := ⟨fun _ _ h => h, fun i H x H' h => ⟨h.1, by rw [Int.mul_one]; exact h.2⟩, fun _ _ h => h⟩
noncomputable def rg1 : RgF := fun ws => match ws with
  | [.int j] => if big j = true then some (0, 1, j.toNat) else none
  | _ => none
theorem iv_rng1 {a : Expr} {f : SemL} {p pos : Pos} (hm : X.mg "range" = none) (ha : AV X Wx [a] f) (hg : Gl X "range" := by rfl) (hs : starEach [a] X.env = [(false, eval a X.env)] := by rfl) : IV X Wx tg (.Call (.Name "range" p) [a] [] pos) (iRng rg1 f) :=
  PIm (pi_range1 hg hm ha hs) (iRng_read fun F μ ws vs lo c n H R e r q => by
    unfold rg1 at e
    split at e
    · split at e
      · rename_i j hj
        cases e
        obtain ⟨v, rfl, r1⟩ := reps1 (ws := []) r
        cases rep_int_inv r1
        exact ⟨j, rfl, (big_of hj).1, (big_of hj).2, q _ (cnt_r 0 _)⟩
      · cases e
    · cases e)
end
end SL

namespace SL
open PySem PySem.Spec PyProof.Rows L2

/-! ## hidden objects -/
section
variable {K : PySem.W.Frag} {mg : Str → Option Value} {μ : List Addr} {st : Sto} {hid : List Addr} {H : Hp}
theorem live_cons {p a : Addr} : LiveA μ st (p :: hid) a ↔ a = p ∨ LiveA μ st hid a := by
  unfold LiveA
  constructor
  · rintro (h | h)
    · rcases List.mem_cons.mp h with h | h
      · exact .inl h
      · exact .inr (.inl h)
    · exact .inr (.inr h)
  · rintro (h | h | h)
    · exact .inl (List.mem_cons.mpr (.inl h))
    · exact .inl (List.mem_cons_of_mem _ h)
    · exact .inr h
theorem Fz.hide {p : Addr} (hp : H p = none) : Fz μ st (p :: hid) H = Fz μ st hid H := by
  funext a
  by_cases h : LiveA μ st hid a
  · unfold Fz
    rw [if_pos h, if_pos (live_cons.mpr (.inr h))]
  · by_cases e : a = p
    · subst e
      unfold Fz
      rw [if_pos (live_cons.mpr (.inl rfl)), if_neg h, hp]
    · unfold Fz
      rw [if_neg h, if_neg (fun z => (live_cons.mp z).elim e h)]
theorem Fz.hidUpd {p : Addr} {o : HO} (hm : p ∈ hid) : Fz μ st hid (upd H p o) = Fz μ st hid H := by
  funext a
  by_cases h : LiveA μ st hid a
  · unfold Fz
    rw [if_pos h, if_pos h]
  · have e : a ≠ p := fun e => h (.inl (e ▸ hm))
    unfold Fz
    rw [if_neg h, if_neg h, upd_ne e]
theorem CelOk.of_eq {F : Hp} {H H' : Hp} {a : Addr} {c : Cel} (l : c.live = true → H' a = H a) (h : CelOk K mg F μ H a c) : CelOk K mg F μ H' a c := by
  cases c with
  | lst ws => obtain ⟨vs, e, r⟩ := h; exact ⟨vs, by rw [l rfl]; exact e, r⟩
  | dct ks ws => obtain ⟨vs, e, r⟩ := h; exact ⟨vs, e.of_eq (l rfl), r⟩
  | ins c ns ws => obtain ⟨C, dx, vs, g, l', e, r⟩ := h; exact ⟨C, dx, vs, g, l', by rw [l rfl]; exact e, r⟩
  | frz w => exact h
  | nct l' wo ks ws => obtain ⟨xs, e, kn, r⟩ := h; exact ⟨xs, e.of_eq (l rfl), kn, r⟩
theorem CelOk.le {F F' : Hp} {μ' : List Addr} {a : Addr} {c : Cel} (x : Le F F') (p : Pre μ μ') (h : CelOk K mg F μ H a c) : CelOk K mg F' μ' H a c := by
  cases c with
  | lst ws => obtain ⟨vs, e, r⟩ := h; exact ⟨vs, e, r.mono x p⟩
  | dct ks ws => obtain ⟨vs, e, r⟩ := h; exact ⟨vs, e, r.mono x p⟩
  | ins c ns ws => obtain ⟨C, dx, vs, g, l', e, r⟩ := h; exact ⟨C, dx, vs, g, l', e, r.mono x p⟩
  | frz w => exact Rep.mono x p _ _ h
  | nct l wo ks ws => obtain ⟨xs, e, kn, r⟩ := h; exact ⟨xs, e, kn.mono x p, r.mono x p⟩
/-- a new object that is hidden -/
theorem StOk.hideNew (k : StOk K mg μ st hid H) {p : Addr} {o : HO} (hp : H p = none) (nt : ∀ vs, o ≠ .tup vs := by intro _ h; cases h) : StOk K mg μ st (p :: hid) (upd H p o) ∧ Fz μ st (p :: hid) (upd H p o) = Fz μ st hid H := by
  have e : Fz μ st (p :: hid) (upd H p o) = Fz μ st hid H := by rw [Fz.hidUpd List.mem_cons_self, Fz.hide hp]
  have ne : ∀ (n : Nat) (a : Addr) (c : Cel), μ[n]? = some a → st[n]? = some c → c.live = true → a ≠ p := fun n a c h1 h2 h3 z => by
    obtain ⟨u, q⟩ := (k.ok n a c h1 h2).there h3
    rw [z, hp] at q; cases q
  refine ⟨⟨k.len, k.inj, fun n a c h1 h2 h3 z => ?_, fun a ha => ?_, fun n a c h1 h2 => ?_⟩, e⟩
  · rcases List.mem_cons.mp z with z | z
    · exact ne n a c h1 h2 h3 z
    · exact k.hidn n a c h1 h2 h3 z
  · rcases List.mem_cons.mp ha with z | z
    · rw [z, upd_same]; exact ⟨(fun q => nomatch q), fun vs q => nt vs (Option.some.inj q)⟩
    · by_cases q : a = p
      · rw [q, upd_same]; exact ⟨(fun q => nomatch q), fun vs q => nt vs (Option.some.inj q)⟩
      · rw [upd_ne q]; exact k.hidt a z
  · rw [e]
    exact (k.ok n a c h1 h2).of_eq fun l => upd_ne (ne n a c h1 h2 l)
/-- a hidden object changes -/
theorem StOk.hidUpd (k : StOk K mg μ st hid H) {p : Addr} {o : HO} (hm : p ∈ hid) (nt : ∀ vs, o ≠ .tup vs := by intro _ h; cases h) : StOk K mg μ st hid (upd H p o) := by
  refine ⟨k.len, k.inj, k.hidn, fun a ha => ?_, fun n a c h1 h2 => ?_⟩
  · by_cases q : a = p
    · rw [q, upd_same]; exact ⟨(fun q => nomatch q), fun vs q => nt vs (Option.some.inj q)⟩
    · rw [upd_ne q]; exact k.hidt a ha
  · rw [Fz.hidUpd hm]
    exact (k.ok n a c h1 h2).of_eq fun l => upd_ne fun z => k.hidn n a c h1 h2 l (z ▸ hm)
/-- what was hidden is seen -/
theorem StOk.seen {p : Addr} {o : HO} (k : StOk K mg μ st (p :: hid) H) (hn : p ∉ hid) (e : H p = some o) : StOk K mg μ st hid H ∧ Le (Fz μ st (p :: hid) H) (Fz μ st hid H) ∧ Fz μ st hid H p = some o := by
  have l : Le (Fz μ st (p :: hid) H) (Fz μ st hid H) := Le.of fun a u h => by
    obtain ⟨h1, h2⟩ := Fz.sub h
    exact Fz.mk h1 fun z => h2 (live_cons.mpr (.inr z))
  refine ⟨⟨k.len, k.inj, fun n a c h1 h2 h3 z => k.hidn n a c h1 h2 h3 (List.mem_cons_of_mem _ z), fun a ha => k.hidt a (List.mem_cons_of_mem _ ha), fun n a c h1 h2 => (k.ok n a c h1 h2).le l (.refl _)⟩, l, Fz.mk e fun z => ?_⟩
  rcases z with z | ⟨n, c, h1, h2, h3⟩
  · exact hn z
  · exact k.hidn n p c h1 h2 h3 List.mem_cons_self
end

/-! ## comprehensions -/
def wipeF (fr : Fr) : List Nat → Fr
  | [] => fr
  | v :: vs => (wipeF fr vs).set v none
theorem wipeF_length (fr : Fr) : ∀ vs : List Nat, (wipeF fr vs).length = fr.length
  | [] => rfl
  | v :: vs => by unfold wipeF; rw [List.length_set, wipeF_length fr vs]
theorem wipe_at {α : Type} (σ : List (Option α)) (w : List (Option α) → List Nat → List (Option α)) (h0 : ∀ f, w f [] = f) (h1 : ∀ f v vs, w f (v :: vs) = (w f vs).set v none) : ∀ (vs : List Nat) (j : Nat), (j ∉ vs → (w σ vs)[j]? = σ[j]?) ∧ (j ∈ vs → ∀ x, (w σ vs)[j]? ≠ some (some x))
  | [], j => ⟨fun _ => by rw [h0], fun h => by simp at h⟩
  | v :: vs, j => by
    obtain ⟨a, b⟩ := wipe_at σ w h0 h1 vs j
    rw [h1]
    by_cases e : v = j
    · subst e
      refine ⟨fun h => by simp at h, fun _ x z => ?_⟩
      by_cases q : v < (w σ vs).length
      · rw [List.getElem?_set_self q] at z; cases z
      · rw [List.getElem?_eq_none (by simpa using q)] at z; cases z
    · rw [List.getElem?_set_ne e]
      exact ⟨fun h => a fun z => h (List.mem_cons_of_mem _ z), fun h => b (by rcases List.mem_cons.mp h with z | z; exact absurd z.symm e; exact z)⟩
theorem wipeF_at (fr : Fr) (vs : List Nat) (j : Nat) : (j ∉ vs → (wipeF fr vs)[j]? = fr[j]?) ∧ (j ∈ vs → ∀ x, (wipeF fr vs)[j]? ≠ some (some x)) := wipe_at fr wipeF (fun _ => rfl) (fun _ _ _ => rfl) vs j
theorem wipe_at' (σ : L2.St) (vs : List Nat) (j : Nat) : (j ∉ vs → (wipe σ vs)[j]? = σ[j]?) ∧ (j ∈ vs → ∀ x, (wipe σ vs)[j]? ≠ some (some x)) := wipe_at σ wipe (fun _ => rfl) (fun _ _ _ => rfl) vs j
theorem wipe_ext {σ σ2 : L2.St} {vs : List Nat} (hl : σ2.length = σ.length) (h : ∀ j, j ∉ vs → σ2[j]? = (wipe σ vs)[j]?) : wipe σ2 vs = wipe σ vs := by
  apply List.ext_getElem?
  intro j
  by_cases hj : j ∈ vs
  · have a := (wipe_at' σ vs j).2 hj
    have b := (wipe_at' σ2 vs j).2 hj
    have l1 := wipe_length σ vs
    have l2 := wipe_length σ2 vs
    by_cases q : j < σ.length
    · have q1 : j < (wipe σ vs).length := by omega
      have q2 : j < (wipe σ2 vs).length := by omega
      rw [List.getElem?_eq_getElem q1] at a ⊢
      rw [List.getElem?_eq_getElem q2] at b ⊢
      cases e1 : (wipe σ vs)[j] with
      | some x => rw [e1] at a; exact absurd rfl (a x)
      | none =>
        cases e2 : (wipe σ2 vs)[j] with
        | some x => rw [e2] at b; exact absurd rfl (b x)
        | none => rfl
    · rw [List.getElem?_eq_none (by omega), List.getElem?_eq_none (by omega)]
  · rw [(wipe_at' σ2 vs j).1 hj]
    exact h j hj
theorem SI.wipe {K : PySem.W.Frag} {mg : Str → Option Value} {Wx : Wish} {μ : List Addr} {st : Sto} {hid : List Addr} {fr : Fr} {σ : L2.St} {H : Hp} (s : SI K mg Wx μ st hid fr σ H) (vs : List Nat) (hv : ∀ i ∈ Wx.lock, i ∉ vs) : SI K mg Wx μ st hid (wipeF fr vs) (L2.wipe σ vs) H :=
  ⟨s.sto, by rw [wipeF_length, wipe_length]; exact s.len, fun i w h => by
    by_cases hi : i ∈ vs
    · exact absurd h ((wipeF_at fr vs i).2 hi w)
    · rw [(wipeF_at fr vs i).1 hi] at h
      rw [(wipe_at' σ vs i).1 hi]
      exact s.loc i w h, Wx.slot _ _ _ _ (fun j hj => (wipe_at' σ vs j).1 (hv j hj)) s.ex⟩
/-- nothing may be raised within -/
def Wish.blk (Wx : Wish) : Wish := ⟨fun _ _ _ _ => False, Wx.lock, Wx.y, Wx.mono, Wx.slot⟩
theorem SI.blk {K : PySem.W.Frag} {mg : Str → Option Value} {Wx : Wish} {μ : List Addr} {st : Sto} {hid : List Addr} {fr : Fr} {σ : L2.St} {H : Hp} (s : SI K mg Wx μ st hid fr σ H) : SI K mg Wx.blk μ st hid fr σ H := ⟨s.sto, s.len, s.loc, s.ex⟩
open Classical in
noncomputable def lcRun (x : W) (all : List W) (g : TgF) (t : SemB) (e : Sem) (fr : Fr) : List W → Sto → Out (List W)
  | [], st => if srcOk x all st then .ok [] st else .bad
  | w :: r, st => if srcOk x all st then (match g w fr st with
    | some fr1 => match t fr1 st with
      | .ok true st1 => match e fr1 st1 with
        | .ok y st2 => match lcRun x all g t e fr r st2 with
          | .ok ys st3 => .ok (y :: ys) st3
          | _ => .bad
        | _ => .bad
      | .ok false st1 => lcRun x all g t e fr r st1
      | _ => .bad
    | none => .bad) else .bad
/-- what is done with the finished list -/
abbrev LFin := List W → Sto → Out W
noncomputable def eLcG (fin : LFin) (f : SemI) (g : TgF) (own : List Nat) (t : SemB) (e : Sem) : Sem := fun fr st => (f fr st).bind fun p st1 => match lcRun p.1 p.2 g t e (wipeF fr own) p.2 st1 with
  | .ok ys st2 => fin ys st2
  | _ => .bad
def finL : LFin := fun ys st => .ok (.lst ys) st
noncomputable abbrev eLc (f : SemI) (g : TgF) (own : List Nat) (t : SemB) (e : Sem) : Sem := eLcG finL f g own t e
def FinOk (K : PySem.W.Frag) (mg : Str → Option Value) (fin : LFin) : Prop := ∀ (Wx : WX) (σ : L2.St) (Q : VK) (hid μ0 : List Addr) (st0 : Sto) (H0 : Hp) (μ : List Addr) (st : Sto) (H : Hp) (D : Addr) (acc : List V) (ys : List W), StOk K mg μ st (D :: hid) H → D ∉ hid → H D = some (.lst acc) → Reps K mg (Fz μ st (D :: hid) H) μ ys acc → Pre μ0 μ → Le (Fz μ0 st0 hid H0) (Fz μ st (D :: hid) H) → (∀ a ∈ hid, H a = H0 a) → Lk H0 H →
  EPost K mg Wx hid μ0 st0 σ H0 Q (fin ys st) → Q (.ref D) H
theorem fin_lst {K : PySem.W.Frag} {mg : Str → Option Value} : FinOk K mg finL := fun Wx σ Q hid μ0 st0 H0 μ st H D acc ys k hD e r p l hh hlk P => by
  obtain ⟨k6, l6, e6⟩ := k.seen hD e
  exact P μ H _ k6 ⟨p, l.trans l6, hh, hlk⟩ (rep_lst e6 (r.mono l6 (.refl _)))
/-- a comprehension's own state: what the list at D holds -/
structure LcSt (K : PySem.W.Frag) (mg : Str → Option Value) (D : Addr) (hid μ0 : List Addr) (F0 : Hp) (H0 : Hp) (i : Nat) (μ : List Addr) (st : Sto) (H : Hp) (ys : List W) (acc : List V) : Prop where
  sto : StOk K mg μ st (D :: hid) H
  le : Le F0 (Fz μ st (D :: hid) H)
  pre : Pre μ0 μ
  hidk : ∀ a ∈ hid, H a = H0 a
  lck : Lk H0 H
  at_ : H D = some (.lst acc)
  rep : Reps K mg (Fz μ st (D :: hid) H) μ ys acc
  len : acc.length ≤ i
theorem lc_read {X : Cx} {Wx : Wish} {fin : LFin} {f : SemI} {g : TgF} {sl own : List Nat} {t : SemB} {e : Sem} (hf : FinOk X.K X.mg fin) (hsl : ∀ i ∈ sl, i ∈ own) (hlk : ∀ i ∈ Wx.lock, i ∉ own) : ∀ σ H Q, tE X.K X.mg Wx (eLcG fin f g own t e) σ H Q →
    tLc (tI X.K X.mg Wx f) (tG X.K X.mg Wx.blk g sl) (tB' X.K X.mg Wx.blk t) (tE X.K X.mg Wx.blk e) own σ H Q := fun σ H Q ⟨μ, st, hid, fr, S, P⟩ => by
  refine ⟨μ, st, hid, fr, S, ?_⟩
  unfold eLcG at P
  cases h1 : f fr st with
  | bad => rw [h1] at P; exact P
  | err x s => rw [h1] at P; exact P
  | ok p st1 =>
    obtain ⟨x, all⟩ := p
    rw [h1, Out.bind_ok] at P
    intro μ1 H1 J k1 g1 ji D hD
    have P1 := EPost.from g1 P
    have S1 := S.next k1 g1
    simp only at P1
    cases hr : lcRun x all g t e (wipeF fr own) all st1 with
    | bad => rw [hr] at P1; exact P1.elim
    | err z s => rw [hr] at P1; exact P1.elim
    | ok tot stE =>
      rw [hr] at P1
      have hDn : D ∉ hid := fun z => (k1.hidt D z).1 hD
      obtain ⟨k2, e2⟩ := k1.hideNew (o := .lst []) hD
      refine ⟨fun i m H => m = all.length - i ∧ i ≤ all.length ∧ ∃ μ st ys acc rest, LcSt X.K X.mg D hid μ1 (Fz μ1 st1 hid H1) H1 i μ st H ys acc ∧ lcRun x all g t e (wipeF fr own) (all.drop i) st = .ok rest stE ∧ ys ++ rest = tot,
        ⟨_, rfl, Nat.zero_le _, μ1, st1, [], [], tot, ⟨k2, by rw [e2]; exact .refl _, .refl _, fun a ha => upd_ne fun z => hDn (z ▸ ha), fun a o u h => by rw [upd_ne (ne_of_none h hD)]; exact h, upd_same, .nil, Nat.le_refl _⟩, hr, rfl⟩, ?_⟩
      rintro i m H2 ⟨rfl, hi, μ2, st2, ys, acc, rest, L, run, tt⟩
      by_cases hlt : i < all.length
      · rw [List.drop_eq_getElem_cons hlt, lcRun] at run
        split at run
        · rename_i hs
          refine .inr ⟨ji.go _ _ _ _ i L.sto L.le L.pre L.lck hs hlt, fun H => ∃ μ st ys acc rest, LcSt X.K X.mg D hid μ1 (Fz μ1 st1 hid H1) H1 (i + 1) μ st H ys acc ∧ lcRun x all g t e (wipeF fr own) (all.drop (i + 1)) st = .ok rest stE ∧ ys ++ rest = tot,
            fun H' q => ⟨_, by omega, rfl, hlt, q⟩, fun v H3 hy => ?_⟩
          obtain ⟨k3, g3, w, hw, rw_⟩ := ji.yld _ _ _ _ i v H3 L.sto L.le L.pre L.lck hs hlt hy
          have ew : all[i] = w := by
            rw [List.getElem?_eq_getElem hlt] at hw; exact Option.some.inj hw
          rw [ew] at run
          cases e3 : g w (wipeF fr own) st2 with
          | none => rw [e3] at run; cases run
          | some fr1 =>
            rw [e3] at run
            simp only at run
            have S3 : SI X.K X.mg Wx.blk μ2 st2 (D :: hid) (wipeF fr own) (wipe σ own) H3 := by
              have W := (S1.wipe own hlk).blk
              have l3 : Le (Fz μ1 st1 hid H1) (Fz μ2 st2 (D :: hid) H3) := L.le.trans g3.le
              exact ⟨k3, W.len, fun j u hj => by
                obtain ⟨v, ev, rv⟩ := W.loc j u hj
                exact ⟨v, ev, Rep.mono l3 L.pre _ _ rv⟩, Wx.blk.mono _ _ _ _ _ l3 L.pre W.ex⟩
            refine ⟨μ2, st2, D :: hid, wipeF fr own, w, fr1, S3, rw_, e3, fun σ2 S4 ag => ⟨wipe_ext (by rw [ag.1, wipe_length]) fun j hj => ag.2 j fun z => hj (hsl j z), μ2, st2, D :: hid, fr1, S4, ?_⟩⟩
            cases e4 : t fr1 st2 with
            | bad => rw [e4] at run; cases run
            | err z s => rw [e4] at run; cases run
            | ok b st3 =>
              rw [e4] at run
              intro μ3 H4 k4 g4
              have keep : ∀ {μ' : List Addr} {st' : Sto} {H' : Hp}, Grow (D :: hid) μ2 st2 H3 μ' st' H' → StOk X.K X.mg μ' st' (D :: hid) H' → LcSt X.K X.mg D hid μ1 (Fz μ1 st1 hid H1) H1 i μ' st' H' ys acc := fun gg kk =>
                ⟨kk, (L.le.trans g3.le).trans gg.le, L.pre.trans gg.pre, fun a ha => ((gg.hid a (List.mem_cons_of_mem _ ha)).trans (g3.hid a (List.mem_cons_of_mem _ ha))).trans (L.hidk a ha), L.lck.trans (g3.lck.trans gg.lck),
                  ((gg.hid D List.mem_cons_self).trans (g3.hid D List.mem_cons_self)).trans L.at_, L.rep.mono (g3.le.trans gg.le) gg.pre, L.len⟩
              cases b with
              | false =>
                refine iteF ?_
                have Q4 := keep g4 k4
                exact ⟨μ3, st3, ys, acc, rest, ⟨Q4.sto, Q4.le, Q4.pre, Q4.hidk, Q4.lck, Q4.at_, Q4.rep, Nat.le_succ_of_le Q4.len⟩, run, tt⟩
              | true =>
                refine iteT ⟨μ3, st3, D :: hid, fr1, S4.next k4 g4, ?_⟩
                simp only at run
                cases e5 : e fr1 st3 with
                | bad => rw [e5] at run; cases run
                | err z s => rw [e5] at run; cases run
                | ok y st4 =>
                  rw [e5] at run
                  simp only at run
                  intro μ4 H5 vy k5 g5 r5
                  have Q5 := keep (g4.trans g5) k5
                  cases e6 : lcRun x all g t e (wipeF fr own) (all.drop (i + 1)) st4 with
                  | bad => rw [e6] at run; cases run
                  | err z s => rw [e6] at run; cases run
                  | ok more stF =>
                    rw [e6] at run
                    simp only at run
                    injection run with ra rb
                    subst ra rb
                    refine ⟨acc, Q5.at_, Nat.lt_of_le_of_lt Q5.len (Nat.lt_of_lt_of_le hlt ji.len), μ4, st4, ys ++ [y], acc ++ [vy], more, ⟨Q5.sto.hidUpd List.mem_cons_self, ?_, Q5.pre, fun a ha => ?_, fun a o u h => ?_, upd_same, ?_, ?_⟩, e6, by rw [← tt]; simp⟩
                    · rw [Fz.hidUpd List.mem_cons_self]; exact Q5.le
                    · rw [upd_ne (fun z : a = D => hDn (z ▸ ha))]; exact Q5.hidk a ha
                    · have q := Q5.lck a o u h
                      rw [upd_ne fun z => by rw [z, Q5.at_] at q; cases q]; exact q
                    · rw [Fz.hidUpd List.mem_cons_self]; exact Q5.rep.append (.cons r5 .nil)
                    · rw [List.length_append, List.length_singleton]; exact Nat.succ_le_succ Q5.len
        · cases run
      · have hi2 : i = all.length := by omega
        subst hi2
        rw [List.drop_length, lcRun] at run
        split at run
        · rename_i hs
          injection run with ra rb
          subst ra rb
          refine .inl ⟨ji.stop _ _ _ _ _ L.sto L.le L.pre L.lck hs (Nat.le_refl _), ?_⟩
          rw [List.append_nil] at tt
          subst tt
          exact hf _ _ _ _ _ _ _ _ _ _ _ _ _ L.sto hDn L.at_ L.rep L.pre L.le L.hidk L.lck P1
        · cases run
section
variable {X : Cx} {Wx : Wish}
def tTrue : SemB := fun _ st => .ok true st
theorem tv_ifs0 : PTs X [] (tB' X.K X.mg Wx tTrue) := ⟨fun pins s σ H Q I h => pts_nil.run pins s σ H Q I (by
  obtain ⟨μ, st, hid, fr, S, P⟩ := h
  exact P μ H S.sto .refl)⟩
theorem tv_ifs1 {c : Expr} {t : SemB} (h : TV X Wx c t) : PTs X [c] (tB' X.K X.mg Wx t) := pts_one h
theorem ev_lcG {fin : LFin} (hf : FinOk X.K X.mg fin) {elt tg iter : Expr} {ifs : List Expr} {scope : Scope} {own : List (Str × Nat)} {pos : Pos} {f : SemI} {g : TgF} {sl : List Nat} {t : SemB} {e : Sem} (hc : X.calm = true) (hN : X.N.Nodup) (hi : IV X Wx tg iter f) (ok : blkC X.N X.env.scope scope own = true)
    (hsl : ∀ i ∈ sl, i ∈ own.map (·.2)) (hlk : ∀ i ∈ Wx.lock, i ∉ own.map (·.2))
    (hg : ∀ (s : Shared) (H : Hp) (C : Addr) (cl : List (Str × Addr)) (fp : List Addr), GV (X.blk s H scope (compEnvC scope cl C X.env) fp) Wx.blk tg g sl)
    (ht : ∀ (s : Shared) (H : Hp) (C : Addr) (cl : List (Str × Addr)) (fp : List Addr), PTs (X.blk s H scope (compEnvC scope cl C X.env) fp) ifs (tB' X.K X.mg Wx.blk t))
    (he : ∀ (s : Shared) (H : Hp) (C : Addr) (cl : List (Str × Addr)) (fp : List Addr), EV (X.blk s H scope (compEnvC scope cl C X.env) fp) Wx.blk elt e) (hs : ∀ x, foldedSetIterable iter X.env x = pure x := by intro _; rfl) :
    EV X Wx (.ListComp elt [⟨tg, iter, ifs, 0⟩] scope pos) (eLcG fin f g (own.map (·.2)) t e) :=
  PEm (pe_lc hc hN hi (blkOk_by ok) hg ht he hs) (lc_read hf hsl hlk)
end
end SL

namespace SL
open PySem PySem.Spec PyProof.Rows L2

/-! ## the contexts -/
structure Ctx (X : Cx) (Wx : Wish) (k : Nat) : Prop where
  calm : X.calm = true
  nd : X.N.Nodup
  room : Room k X.A
  tk : Takes X Wx.w
  hp : PassesOwn (model X.prog X.w) X.A X.env X.xe
theorem Ctx.blk {X : Cx} {Wx : Wish} {k : Nat} (C : Ctx X Wx k) (s : Shared) (H : Hp) (scope : Scope) (cenv : Env) (fp : List Addr) : Ctx (X.blk s H scope cenv fp) Wx.blk k := ⟨C.calm, C.nd, C.room, takes0, PassesOwn.never⟩
theorem Ctx.mono {X : Cx} {Wx : Wish} {j k : Nat} (C : Ctx X Wx k) (h : j ≤ k) : Ctx X Wx j := ⟨C.calm, C.nd, C.room.mono h, C.tk, C.hp⟩

/-! ## a cell changes -/
section
variable {K : PySem.W.Frag} {mg : Str → Option Value} {μ : List Addr} {st : Sto} {hid : List Addr} {H : Hp}
theorem live_set {n : Nat} {c c' : Cel} {p : Addr} (h1 : st[n]? = some c) (l : c.live = true) (l' : c'.live = true) (a : Addr) : LiveA μ (st.set n c') hid a ↔ LiveA μ st hid a := by
  have hn : n < st.length := by
    rcases Nat.lt_or_ge n st.length with q | q
    · exact q
    · rw [List.getElem?_eq_none q] at h1; cases h1
  unfold LiveA
  constructor
  · rintro (h | ⟨m, d, e1, e2, e3⟩)
    · exact .inl h
    · by_cases e : n = m
      · subst e; exact .inr ⟨n, c, e1, h1, l⟩
      · rw [List.getElem?_set_ne e] at e2; exact .inr ⟨m, d, e1, e2, e3⟩
  · rintro (h | ⟨m, d, e1, e2, e3⟩)
    · exact .inl h
    · by_cases e : n = m
      · subst e; exact .inr ⟨n, c', e1, by rw [List.getElem?_set_self hn], l'⟩
      · exact .inr ⟨m, d, e1, by rw [List.getElem?_set_ne e]; exact e2, e3⟩
theorem StOk.setCell0 (k : StOk K mg μ st hid H) {n : Nat} {c c' : Cel} {p : Addr} {o : HO} (h0 : μ[n]? = some p) (h1 : st[n]? = some c) (l : c.live = true) (l' : c'.live = true) (q : CelOk K mg (Fz μ st hid H) μ (upd H p o) p c') :
    StOk K mg μ (st.set n c') hid (upd H p o) ∧ Fz μ (st.set n c') hid (upd H p o) = Fz μ st hid H ∧ p ∉ hid := by
  have lp : LiveA μ st hid p := .inr ⟨n, c, h0, h1, l⟩
  have e : Fz μ (st.set n c') hid (upd H p o) = Fz μ st hid H := by
    funext a
    by_cases h : LiveA μ st hid a
    · unfold Fz; rw [if_pos h, if_pos ((live_set (p := p) h1 l l' a).mpr h)]
    · have hne : a ≠ p := fun z => h (z ▸ lp)
      unfold Fz; rw [if_neg h, if_neg (fun z => h ((live_set (p := p) h1 l l' a).mp z)), upd_ne hne]
  have hn : n < st.length := by
    rcases Nat.lt_or_ge n st.length with q | q
    · exact q
    · rw [List.getElem?_eq_none q] at h1; cases h1
  have hh : p ∉ hid := k.hidn n p c h0 h1 l
  refine ⟨⟨by rw [List.length_set]; exact k.len, fun i j a d d' h2 h3 h4 h4' h5 h5' => ?_, fun j a d h2 h3 h4 => ?_, fun a ha => ?_, fun j a d h2 h3 => ?_⟩, e, hh⟩
  · have old : ∀ {m : Nat} {b : Addr} {e : Cel}, (st.set n c')[m]? = some e → e.live = true → ∃ e', st[m]? = some e' ∧ e'.live = true := fun {m b e} y1 y2 => by
      by_cases z : n = m
      · subst z; exact ⟨c, h1, l⟩
      · rw [List.getElem?_set_ne z] at y1; exact ⟨e, y1, y2⟩
    obtain ⟨e1, y1, y2⟩ := old (b := a) h4 h5
    obtain ⟨e2, y3, y4⟩ := old (b := a) h4' h5'
    exact k.inj i j a e1 e2 h2 h3 y1 y3 y2 y4
  · by_cases z : n = j
    · subst z
      rw [h0] at h2; cases h2; exact hh
    · rw [List.getElem?_set_ne z] at h3; exact k.hidn j a d h2 h3 h4
  · by_cases z : a = p
    · exact absurd (z ▸ ha) hh
    · rw [upd_ne z]; exact k.hidt a ha
  · rw [e]
    by_cases z : n = j
    · subst z
      rw [h0] at h2; cases h2
      rw [List.getElem?_set_self hn] at h3
      cases h3; exact q
    · rw [List.getElem?_set_ne z] at h3
      refine (k.ok j a d h2 h3).of_eq fun ld => upd_ne fun y => z ?_
      subst y
      exact k.inj n j a c d h0 h2 h1 h3 l ld
/-- what is not locked -/
def Cel.unl : Cel → Bool
  | .lst _ | .ins _ _ _ => true
  | .dct (.ty t :: _) _ => t == "T"
  | .dct _ _ => true
  | .frz _ => false
  | .nct l _ _ _ => !l
theorem unl_nf {F : Hp} {a : Addr} {c : Cel} (h : CelOk K mg F μ H a c) (hu : c.unl = true) : ∀ o u, H a ≠ some (.frz o u) := by
  intro o u e
  cases c with
  | lst ws => obtain ⟨vs, h, _⟩ := h; rw [e] at h; cases h
  | ins c ns ws => obtain ⟨C, dx, vs, _, _, h, _⟩ := h; rw [e] at h; cases h
  | frz w => cases hu
  | nct l wo ks ws =>
    obtain ⟨xs, h, _⟩ := h
    cases l with
    | true => cases hu
    | false =>
      have h : H a = some (DkN wo a xs) := h
      rw [e] at h; cases h
  | dct ks ws =>
    obtain ⟨vs, ⟨l, q, h1, h2, h3⟩, _⟩ := h
    have hl : l = false := by
      cases ks with
      | nil => cases h1; rfl
      | cons w ks =>
        cases w with
        | ty t =>
          have ht : t = "T" := beq_iff_eq.mp hu
          subst ht
          have z : kindW (.ty "T" :: ks) = (mapO keyT ks).map fun kk => (false, .inr kk) := rfl
          rw [z] at h1
          cases m : mapO keyT ks with
          | none => rw [m] at h1; cases h1
          | some kk => rw [m] at h1; cases h1; rfl
        | int i =>
          have z : kindW (.int i :: ks) = (mapO keyW (.int i :: ks)).map fun kk => (false, .inl kk) := rfl
          rw [z] at h1
          cases m : mapO keyW (.int i :: ks) with
          | none => rw [m] at h1; cases h1
          | some kk => rw [m] at h1; cases h1; rfl
        | str x =>
          have z : kindW (.str x :: ks) = (mapO keyW (.str x :: ks)).map fun kk => (false, .inl kk) := rfl
          rw [z] at h1
          cases m : mapO keyW (.str x :: ks) with
          | none => rw [m] at h1; cases h1
          | some kk => rw [m] at h1; cases h1; rfl
        | _ => cases h1
    subst hl
    have h3' : H a = some (dObj q vs) := h3
    rw [e] at h3'
    cases q <;> cases h3'
theorem StOk.setCell (k : StOk K mg μ st hid H) {n : Nat} {c c' : Cel} {p : Addr} {o : HO} (h0 : μ[n]? = some p) (h1 : st[n]? = some c) (l : c.live = true) (l' : c'.live = true) (q : CelOk K mg (Fz μ st hid H) μ (upd H p o) p c') (hu : c.unl = true := by rfl) :
    StOk K mg μ (st.set n c') hid (upd H p o) ∧ Grow hid μ st H μ (st.set n c') (upd H p o) := by
  obtain ⟨k1, e, hh⟩ := k.setCell0 h0 h1 l l' q
  have nf := unl_nf (k.ok n p c h0 h1) hu
  exact ⟨k1, ⟨.refl _, by rw [e]; exact .refl _, fun a ha => upd_ne fun z => hh (z ▸ ha), fun a o' u h => by
    have ne : a ≠ p := fun z => nf o' u (by rw [← z]; exact h)
    rw [upd_ne ne]; exact h⟩⟩
/-- a new cell -/
theorem StOk.newCell (k : StOk K mg μ st hid H) {c : Cel} {p : Addr} {o : HO} (hp : H p = none) (lc : c.live = true) (q : CelOk K mg (Fz μ st hid H) (μ ++ [p]) (upd H p o) p c) :
    StOk K mg (μ ++ [p]) (st ++ [c]) hid (upd H p o) ∧ Grow hid μ st H (μ ++ [p]) (st ++ [c]) (upd H p o) := by
  have nl := k.notLive hp
  have lv : ∀ a, LiveA (μ ++ [p]) (st ++ [c]) hid a ↔ a = p ∨ LiveA μ st hid a := fun a => by
    unfold LiveA
    constructor
    · rintro (h | ⟨m, d, e1, e2, e3⟩)
      · exact .inr (.inl h)
      · by_cases z : m < st.length
        · rw [List.getElem?_append_left (by rw [k.len]; exact z)] at e1
          rw [List.getElem?_append_left z] at e2
          exact .inr (.inr ⟨m, d, e1, e2, e3⟩)
        · by_cases y : m = st.length
          · subst y
            rw [List.getElem?_append_right (by rw [k.len]; exact Nat.le_refl _), k.len] at e1
            simp at e1
            exact .inl e1.symm
          · rw [List.getElem?_append_right (by omega)] at e2
            rw [List.getElem?_eq_none (by simp; omega)] at e2; cases e2
    · rintro (h | h | ⟨m, d, e1, e2, e3⟩)
      · subst h
        exact .inr ⟨st.length, c, by rw [List.getElem?_append_right (by rw [k.len]; exact Nat.le_refl _), k.len]; simp, by simp, lc⟩
      · exact .inl h
      · have z : m < st.length := by
          rcases Nat.lt_or_ge m st.length with q | q
          · exact q
          · rw [List.getElem?_eq_none q] at e2; cases e2
        exact .inr ⟨m, d, by rw [List.getElem?_append_left (by rw [k.len]; exact z)]; exact e1, by rw [List.getElem?_append_left z]; exact e2, e3⟩
  have e : Fz (μ ++ [p]) (st ++ [c]) hid (upd H p o) = Fz μ st hid H := by
    funext a
    by_cases h : LiveA μ st hid a
    · unfold Fz; rw [if_pos h, if_pos ((lv a).mpr (.inr h))]
    · by_cases z : a = p
      · subst z
        unfold Fz; rw [if_neg h, if_pos ((lv a).mpr (.inl rfl)), hp]
      · unfold Fz; rw [if_neg h, if_neg (fun y => ((lv a).mp y).elim z h), upd_ne z]
  have pre : Pre μ (μ ++ [p]) := ⟨[p], rfl⟩
  have spl : ∀ {m : Nat} {a : Addr} {d : Cel}, (μ ++ [p])[m]? = some a → (st ++ [c])[m]? = some d → (m < st.length ∧ μ[m]? = some a ∧ st[m]? = some d) ∨ (m = st.length ∧ a = p ∧ d = c) := fun {m a d} e1 e2 => by
    by_cases z : m < st.length
    · rw [List.getElem?_append_left (by rw [k.len]; exact z)] at e1
      rw [List.getElem?_append_left z] at e2
      exact .inl ⟨z, e1, e2⟩
    · by_cases y : m = st.length
      · subst y
        rw [List.getElem?_append_right (by rw [k.len]; exact Nat.le_refl _), k.len] at e1
        rw [List.getElem?_append_right (Nat.le_refl _)] at e2
        simp at e1 e2
        exact .inr ⟨rfl, e1.symm, e2.symm⟩
      · rw [List.getElem?_append_right (by omega)] at e2
        rw [List.getElem?_eq_none (by simp; omega)] at e2; cases e2
  have np : ∀ {m : Nat} {a : Addr} {d : Cel}, μ[m]? = some a → st[m]? = some d → d.live = true → a ≠ p := fun {m a d} e1 e2 e3 z => by
    obtain ⟨u, y⟩ := (k.ok m a d e1 e2).there e3
    rw [z, hp] at y; cases y
  refine ⟨⟨by simp [k.len], fun i j a d d' h2 h3 h4 h4' h5 h5' => ?_, fun j a d h2 h3 h4 => ?_, fun a ha => ?_, fun j a d h2 h3 => ?_⟩, ⟨pre, by rw [e]; exact .refl _, fun a ha => upd_ne fun z => (k.hidt a ha).1 (z ▸ hp), fun a o' u h => by rw [upd_ne (ne_of_none h hp)]; exact h⟩⟩
  · rcases spl h2 h4 with ⟨y1, y2, y3⟩ | ⟨y1, y2, y3⟩ <;> rcases spl h3 h4' with ⟨z1, z2, z3⟩ | ⟨z1, z2, z3⟩
    · exact k.inj i j a d d' y2 z2 y3 z3 h5 h5'
    · exact absurd z2 (np y2 y3 h5)
    · exact absurd y2 (np z2 z3 h5')
    · omega
  · rcases spl h2 h3 with ⟨y1, y2, y3⟩ | ⟨y1, y2, y3⟩
    · exact k.hidn j a d y2 y3 h4
    · subst y2; exact fun z => (k.hidt a z).1 hp
  · have hne : a ≠ p := fun z => (k.hidt a ha).1 (z ▸ hp)
    rw [upd_ne hne]; exact k.hidt a ha
  · rw [e]
    rcases spl h2 h3 with ⟨y1, y2, y3⟩ | ⟨y1, y2, y3⟩
    · exact ((k.ok j a d y2 y3).le (.refl _) pre).of_eq fun l => upd_ne (np y2 y3 l)
    · subst y2 y3; exact q
end
end SL

namespace SL
open PySem PySem.Spec PyProof.Rows L2

inductive SOut where
  | nx (fr : Fr) (st : Sto) | rt (w : W) (st : Sto) | bk (fr : Fr) (st : Sto) | ct (fr : Fr) (st : Sto) | er (x : Exc) (fr : Fr) (st : Sto) | bad
abbrev SSem := Fr → Sto → SOut
def Out.stm {α : Type} (o : Out α) (fr : Fr) (f : α → Sto → SOut) : SOut := match o with
  | .ok a st => f a st
  | .err x st => .er x fr st
  | .bad => .bad
@[simp] theorem Out.stm_ok {α : Type} (a : α) (st : Sto) (fr : Fr) (f : α → Sto → SOut) : (Out.ok a st).stm fr f = f a st := rfl
@[simp] theorem Out.stm_err {α : Type} (x : Exc) (st : Sto) (fr : Fr) (f : α → Sto → SOut) : (Out.err x st).stm fr f = .er x fr st := rfl
@[simp] theorem Out.stm_bad {α : Type} (fr : Fr) (f : α → Sto → SOut) : (Out.bad).stm fr f = .bad := rfl
def SPost (K : PySem.W.Frag) (mg : Str → Option Value) (Wx : Wish) (hid μ : List Addr) (st : Sto) (H : Hp) (D : Ends) : SOut → Prop
  | .nx fr' st' => ∀ μ' σ' H', SI K mg Wx μ' st' hid fr' σ' H' → Grow hid μ st H μ' st' H' → D.nx σ' H'
  | .rt w st' => ∀ μ' H' v, StOk K mg μ' st' hid H' → Grow hid μ st H μ' st' H' → Rep K mg (Fz μ' st' hid H') μ' w v → D.rt v H'
  | .bk fr' st' => ∀ μ' σ' H', SI K mg Wx μ' st' hid fr' σ' H' → Grow hid μ st H μ' st' H' → D.bk σ' H'
  | .ct fr' st' => ∀ μ' σ' H', SI K mg Wx μ' st' hid fr' σ' H' → Grow hid μ st H μ' st' H' → D.ct σ' H'
  | .er x fr' st' => ∀ μ' σ' H' c d, SI K mg Wx μ' st' hid fr' σ' H' → Grow hid μ st H μ' st' H' → XRep K mg (Fz μ' st' hid H') μ' x c d → Wx.w c d σ' H'
  | .bad => False
theorem SPost.from {K : PySem.W.Frag} {mg : Str → Option Value} {Wx : Wish} {hid μ μ' : List Addr} {st st' : Sto} {H H' : Hp} {D : Ends} {o : SOut} (x : Grow hid μ st H μ' st' H') (h : SPost K mg Wx hid μ st H D o) : SPost K mg Wx hid μ' st' H' D o := by
  cases o with
  | nx fr s => exact fun μ2 σ2 H2 a b => h μ2 σ2 H2 a (x.trans b)
  | rt w s => exact fun μ2 H2 v a b c => h μ2 H2 v a (x.trans b) c
  | bk fr s => exact fun μ2 σ2 H2 a b => h μ2 σ2 H2 a (x.trans b)
  | ct fr s => exact fun μ2 σ2 H2 a b => h μ2 σ2 H2 a (x.trans b)
  | er e fr s => exact fun μ2 σ2 H2 c d a b r => h μ2 σ2 H2 c d a (x.trans b) r
  | bad => exact h
def tS (K : PySem.W.Frag) (mg : Str → Option Value) (Wx : Wish) (f : SSem) : TS := fun D σ H => ∃ μ st hid fr, SI K mg Wx μ st hid fr σ H ∧ SPost K mg Wx hid μ st H D (f fr st)
abbrev SV (X : Cx) (Wx : Wish) (s : Stmt) (f : SSem) : Prop := PS X s (tS X.K X.mg Wx f)
abbrev BV (X : Cx) (Wx : Wish) (s : List Stmt) (f : SSem) : Prop := PSs X s (tS X.K X.mg Wx f)
section
variable {X : Cx} {Wx : Wish}
/-! ## blocks -/
def sNil : SSem := fun fr st => .nx fr st
def sSeq (f g : SSem) : SSem := fun fr st => match f fr st with
  | .nx fr1 st1 => g fr1 st1
  | o => o
theorem bv_nil : BV X Wx [] sNil := PSsm pss_nil fun D σ H ⟨μ, st, hid, fr, S, P⟩ => P μ σ H S .refl
theorem bv_cons {s : Stmt} {r : List Stmt} {f g : SSem} (h1 : SV X Wx s f) (h2 : BV X Wx r g) : BV X Wx (s :: r) (sSeq f g) := PSsm (pss_cons h1 h2) fun D σ H ⟨μ, st, hid, fr, S, P⟩ => by
  refine ⟨μ, st, hid, fr, S, ?_⟩
  unfold sSeq at P
  cases h : f fr st with
  | nx fr1 st1 =>
    rw [h] at P
    exact fun μ1 σ1 H1 S1 g1 => ⟨μ1, st1, hid, fr1, S1, SPost.from g1 P⟩
  | rt w s => rw [h] at P; exact P
  | bk fr s => rw [h] at P; exact P
  | ct fr s => rw [h] at P; exact P
  | er e fr s => rw [h] at P; exact P
  | bad => rw [h] at P; exact P
theorem bv_one {s : Stmt} {f : SSem} (h : SV X Wx s f) : BV X Wx [s] f := pss_one h
/-- an expression, then what follows -/
theorem stm_read {f : Sem} {k : W → Sto → SOut} {t : VK → VK} {hid μ : List Addr} {st : Sto} {fr : Fr} {σ : L2.St} {H : Hp} {D : Ends} {Q : VK} (S : SI X.K X.mg Wx μ st hid fr σ H) (P : SPost X.K X.mg Wx hid μ st H D ((f fr st).stm fr k))
    (h : ∀ w st1 μ1 H1 v, SI X.K X.mg Wx μ1 st1 hid fr σ H1 → Grow hid μ st H μ1 st1 H1 → Rep X.K X.mg (Fz μ1 st1 hid H1) μ1 w v → SPost X.K X.mg Wx hid μ1 st1 H1 D (k w st1) → Q v H1) : tE X.K X.mg Wx f σ H Q := by
  refine ⟨μ, st, hid, fr, S, ?_⟩
  cases e : f fr st with
  | bad => rw [e] at P; exact P
  | err x s => rw [e] at P; exact fun μ1 H1 c d k1 g1 xr => P μ1 σ H1 c d (S.next k1 g1) g1 xr
  | ok w st1 =>
    rw [e, Out.stm_ok] at P
    exact fun μ1 H1 v k1 g1 r1 => h w st1 μ1 H1 v (S.next k1 g1) g1 r1 (SPost.from g1 P)
def sRet (f : Sem) : SSem := fun fr st => (f fr st).stm fr fun w st1 => .rt w st1
theorem sv_ret {e : Expr} {f : Sem} {pos : Pos} (he : EV X Wx e f) : SV X Wx (.Return (some e) pos) (sRet f) := PSm (ps_ret he) fun D σ H ⟨μ, st, hid, fr, S, P⟩ => by
  exact stm_read (t := id) S P fun w st1 μ1 H1 v S1 g1 r1 P1 => P1 μ1 H1 v S1.sto .refl r1
def sAsg (f : Sem) (g : TgF) : SSem := fun fr st => (f fr st).stm fr fun w st1 => match g w fr st1 with
  | some fr1 => .nx fr1 st1
  | none => .bad
/-- name = value -/
theorem sv_set {i : Nat} {x : Str} {e : Expr} {f : Sem} {pos pos' : Pos} (hN : X.N.Nodup) (he : EV X Wx e f) (hi : X.N[i]? = some x := by rfl) (hx : Loc X.env.scope x := by first | exact Or.inl rfl | exact Or.inr rfl) (hs : swapsWith e (some (.Name x pos')) pos.line X.env = pure false := by rfl)
    (hf : X.fn x = true ∨ X.env.scope.names.lookup x = some .local := by first | exact .inl rfl | exact .inr rfl) (hk : i ∉ Wx.lock := by first | exact List.not_mem_nil | decide) : SV X Wx (.Assign [.Name x pos'] e pos) (sAsg f (gNm i)) := PSm (ps_set hN hi hx he hs hf) fun D σ H ⟨μ, st, hid, fr, S, P⟩ => by
  refine stm_read (t := id) S P fun w st1 μ1 H1 v S1 g1 r1 P1 => ?_
  exact P1 μ1 _ H1 (S1.set i hk r1) .refl
/-! ## if, for, while -/
def sIf (c : SemB) (f g : SSem) : SSem := fun fr st => (c fr st).stm fr fun b st1 => if b = true then f fr st1 else g fr st1
theorem sv_if {c : Expr} {a b : List Stmt} {fc : SemB} {f g : SSem} {pos : Pos} (hc : TV X Wx c fc) (ha : BV X Wx a f) (hb : BV X Wx b g) : SV X Wx (.If c a b pos) (sIf fc f g) := PSm (ps_if hc ha hb) fun D σ H ⟨μ, st, hid, fr, S, P⟩ => by
  refine ⟨μ, st, hid, fr, S, ?_⟩
  unfold sIf at P
  cases h : fc fr st with
  | bad => rw [h] at P; exact P
  | err x s => rw [h] at P; exact fun μ1 H1 c d k1 g1 xr => P μ1 σ H1 c d (S.next k1 g1) g1 xr
  | ok b st1 =>
    rw [h, Out.stm_ok] at P
    intro μ1 H1 k1 g1
    cases b with
    | true => exact iteT ⟨μ1, st1, hid, fr, S.next k1 g1, SPost.from g1 (by simpa using P)⟩
    | false => exact iteF ⟨μ1, st1, hid, fr, S.next k1 g1, SPost.from g1 (by simpa using P)⟩
open Classical in
noncomputable def forRun (x : W) (all : List W) (g : TgF) (b : SSem) : List W → Fr → Sto → SOut
  | [], fr, st => if srcOk x all st then .nx fr st else .bad
  | w :: r, fr, st => if srcOk x all st then (match g w fr st with
    | some fr1 => match b fr1 st with
      | .nx fr2 st2 => forRun x all g b r fr2 st2
      | .ct fr2 st2 => forRun x all g b r fr2 st2
      | .bk fr2 st2 => .nx fr2 st2
      | .rt u st2 => .rt u st2
      | .er e fr2 st2 => .er e fr2 st2
      | .bad => .bad
    | none => .bad) else .bad
noncomputable def sFor (f : SemI) (g : TgF) (b : SSem) : SSem := fun fr st => (f fr st).stm fr fun p st1 => forRun p.1 p.2 g b p.2 fr st1
theorem for_read {f : SemI} {g : TgF} {sl : List Nat} {b : SSem} : ∀ D σ H, tS X.K X.mg Wx (sFor f g b) D σ H → tFor (tI X.K X.mg Wx f) (tG X.K X.mg Wx g sl) (tS X.K X.mg Wx b) D σ H := fun D σ H ⟨μ, st, hid, fr, S, P⟩ => by
  refine ⟨μ, st, hid, fr, S, ?_⟩
  unfold sFor at P
  cases h1 : f fr st with
  | bad => rw [h1] at P; exact P
  | err x s => rw [h1] at P; exact fun μ1 H1 c d k1 g1 xr => P μ1 σ H1 c d (S.next k1 g1) g1 xr
  | ok p st1 =>
    obtain ⟨x, all⟩ := p
    rw [h1, Out.stm_ok] at P
    intro μ1 H1 J k1 g1 ji
    have P1 := SPost.from g1 P
    simp only at P1
    refine ⟨fun i m σ H => m = all.length - i ∧ i ≤ all.length ∧ ∃ μ st fr, SI X.K X.mg Wx μ st hid fr σ H ∧ Grow hid μ1 st1 H1 μ st H ∧ SPost X.K X.mg Wx hid μ st H D (forRun x all g b (all.drop i) fr st),
      ⟨_, rfl, Nat.zero_le _, μ1, st1, fr, S.next k1 g1, .refl, P1⟩, ?_⟩
    rintro i m σ2 H2 ⟨rfl, hi, μ2, st2, fr2, S2, g2, P2⟩
    by_cases hlt : i < all.length
    · rw [List.drop_eq_getElem_cons hlt, forRun] at P2
      split at P2
      · rename_i hs
        refine .inr ⟨ji.go _ _ _ _ i S2.sto g2.le g2.pre g2.lck hs hlt, fun σ H => ∃ μ st fr, SI X.K X.mg Wx μ st hid fr σ H ∧ Grow hid μ1 st1 H1 μ st H ∧ SPost X.K X.mg Wx hid μ st H D (forRun x all g b (all.drop (i + 1)) fr st),
          fun σ' H' q => ⟨_, by omega, rfl, hlt, q⟩, fun v H3 hy => ?_⟩
        obtain ⟨k3, g3, w, hw, rw_⟩ := ji.yld _ _ _ _ i v H3 S2.sto g2.le g2.pre g2.lck hs hlt hy
        have ew : all[i] = w := by
          rw [List.getElem?_eq_getElem hlt] at hw; exact Option.some.inj hw
        rw [ew] at P2
        cases e3 : g w fr2 st2 with
        | none => rw [e3] at P2; exact P2.elim
        | some fr3 =>
          rw [e3] at P2
          simp only at P2
          have P3 := SPost.from g3 P2
          refine ⟨μ2, st2, hid, fr2, w, fr3, S2.next k3 g3, rw_, e3, fun σ3 S3 _ => ⟨μ2, st2, hid, fr3, S3, ?_⟩⟩
          cases e4 : b fr3 st2 with
          | bad => rw [e4] at P3; exact P3
          | er e fr s => rw [e4] at P3; exact P3
          | rt w s => rw [e4] at P3; exact P3
          | bk fr s => rw [e4] at P3; exact P3
          | nx fr4 st4 => rw [e4] at P3; exact fun μ4 σ4 H4 S4 g4 => ⟨μ4, st4, fr4, S4, (g2.trans g3).trans g4, SPost.from g4 P3⟩
          | ct fr4 st4 => rw [e4] at P3; exact fun μ4 σ4 H4 S4 g4 => ⟨μ4, st4, fr4, S4, (g2.trans g3).trans g4, SPost.from g4 P3⟩
      · exact P2.elim
    · have hi2 : i = all.length := by omega
      subst hi2
      rw [List.drop_length, forRun] at P2
      split at P2
      · rename_i hs
        exact .inl ⟨ji.stop _ _ _ _ _ S2.sto g2.le g2.pre g2.lck hs (Nat.le_refl _), P2 μ2 σ2 H2 S2 .refl⟩
      · exact P2.elim
theorem sv_for {k : Nat} {tg iter : Expr} {body : List Stmt} {f : SemI} {g : TgF} {sl : List Nat} {b : SSem} {pos : Pos} (C : Ctx X Wx k) (hi : IV X Wx tg iter f) (hg : GV X Wx tg g sl) (hb : BV X Wx body b) (hs : ∀ x, foldedSetIterable iter X.env x = pure x := by intro _; rfl) :
    SV X Wx (.For tg iter body [] pos) (sFor f g b) := PSm (ps_for C.hp C.calm hi hg hb hs) for_read
/-! ## a[i] = e -/
abbrev Op3 := W → W → W → Sto → Option Sto
def Op3S (X : Cx) (op : Op3) (t : TSet) : Prop := ∀ (hid μ : List Addr) (st st' : Sto) (H : Hp) (Q : Hp → Prop) (o i w : W) (ov iv v : V), StOk X.K X.mg μ st hid H → Rep X.K X.mg (Fz μ st hid H) μ o ov → Rep X.K X.mg (Fz μ st hid H) μ i iv → Rep X.K X.mg (Fz μ st hid H) μ w v →
  op o i w st = some st' → (∀ μ' H', StOk X.K X.mg μ' st' hid H' → Grow hid μ st H μ' st' H' → Q H') → t ov iv v H Q
def sSub (op : Op3) (f fo fi : Sem) : SSem := fun fr st => (f fr st).stm fr fun w st1 => (fo fr st1).stm fr fun o st2 => (fi fr st2).stm fr fun i st3 => match op o i w st3 with
  | some st4 => .nx fr st4
  | none => .bad
theorem sv_sub {o i e : Expr} {op : Op3} {t : TSet} {f fo fi : Sem} {pos tpos : Pos} (hp : PSet X t) (hs : Op3S X op t) (he : EV X Wx e f) (ho : EV X Wx o fo) (hi : EV X Wx i fi)
    (ha : ∀ v, assign (.Subscript o i tpos) X.env v = (do
      let ov ← holding [v] (eval o X.env)
      let iv ← holding [v, ov] (eval i X.env)
      standAt tpos
      holding [v, ov, iv] (setItem ov iv v)
      release [v, ov, iv] []) := by intro _; rfl)
    (hs1 : swapsWithSole [.Subscript o i tpos] e pos.line X.env = pure false := by rfl) (hw : swappedStores [.Subscript o i tpos] e X.env = pure none := by rfl) (h1 : (assignEach [.Subscript o i tpos] X.env).map (·.2) = [assign (.Subscript o i tpos) X.env] := by rfl) :
    SV X Wx (.Assign [.Subscript o i tpos] e pos) (sSub op f fo fi) := PSm (ps_asg he (pg_sub ho hi hp ha) hs1 hw h1) fun D σ H ⟨μ, st, hid, fr, S, P⟩ => by
  refine stm_read (t := id) S P fun w st1 μ1 H1 v S1 g1 r1 P1 => ?_
  refine stm_read (t := id) S1 P1 fun o st2 μ2 H2 ov S2 g2 r2 P2 => ?_
  refine stm_read (t := id) S2 P2 fun i st3 μ3 H3 iv S3 g3 r3 P3 => ?_
  split at P3
  · rename_i st4 e4
    exact hs hid μ3 st3 st4 H3 _ o i w ov iv v S3.sto (Rep.mono g3.le g3.pre _ _ r2) r3 (Rep.mono (g2.trans g3).le (g2.trans g3).pre _ _ r1) e4 fun μ4 H4 k4 g4 => P3 μ4 σ H4 (S3.next k4 g4) g4
  · exact P3.elim
/-- a list's cell -/
def uLst : Op3 := fun o i w st => match o, i with
  | .cell k, .int j => match st[k]? with
    | some (.lst ws) => (ixN ws.length j).map fun n => st.set k (.lst (ws.set n w))
    | _ => none
  | _, _ => none
theorem os_setL : Op3S X uLst rSetL := by
  intro hid μ st st' H Q o i w ov iv v k ro ri rw_ e q
  unfold uLst at e
  split at e
  · rename_i n j
    cases rep_int_inv ri
    split at e
    · rename_i ws e1
      obtain ⟨a, rfl, h1, vs, h2, h3⟩ := k.cell e1 ro
      cases e2 : ixN ws.length j with
      | none => rw [e2] at e; cases e
      | some m =>
        rw [e2] at e
        cases e
        refine ⟨a, vs, j, m, rfl, rfl, h2, by rw [← h3.length]; exact e2, ?_⟩
        obtain ⟨k2, g2⟩ := k.setCell (c' := .lst (ws.set m w)) (o := .lst (vs.set m v)) h1 e1 rfl rfl ⟨_, upd_same, h3.set m rw_⟩
        exact q _ _ k2 g2
    · cases e
  · cases e

/-! ## methods of lists -/
/-- a display that is to change: a new cell -/
def oCell : OpN := fun ws st => if small ws = true then .ok (.cell st.length) (st ++ [.lst ws]) else .bad
theorem ev_lstC {es : List Expr} {f : SemL} {pos : Pos} (h : AV X Wx es f) : EV X Wx (.List es pos) (eN oCell f) := PEm (pe_lst h) fun σ H Q P => by
  refine eN_read (r := fun vs H1 Q => vs.length ≤ sizeLine ∧ ∀ p, H1 p = none → Q (.ref p) (upd H1 p (.lst vs))) ?_ σ H Q P
  intro Wx hid μ st σ H Q ws vs k r P
  unfold oCell at P
  split at P
  · rename_i hs
    refine ⟨small_line hs r, fun p hp => ?_⟩
    obtain ⟨k2, g2⟩ := k.newCell (c := .lst ws) (o := .lst vs) hp rfl ⟨vs, upd_same, r.mono (.refl _) ⟨[p], rfl⟩⟩
    refine P _ _ _ k2 g2 ?_
    unfold Rep
    exact ⟨p, by rw [← k.len]; simp, rfl⟩
  · exact P.elim
end
end SL

namespace SL
open PySem PySem.Spec PyProof.Rows L2

/-! ## several except clauses, with and without a name -/
abbrev Hnd := Value × Option Nat × (Addr → Value → Option Addr → TS)
def clr (sl : Option Nat) (D : Ends) : Ends := match sl with
  | none => D
  | some i => { nx := fun σ H => D.nx (σ.set i none) H, rt := D.rt, bk := fun σ H => D.bk (σ.set i none) H, ct := fun σ H => D.ct (σ.set i none) H }
def stoE (sl : Option Nat) (σ : L2.St) (a : Addr) : L2.St := match sl with
  | none => σ
  | some i => σ.set i (some (.ref a))
def wGen (K : PySem.W.Frag) (Wo : WX) (D : Ends) : List Hnd → WX
  | [] => Wo
  | (c, sl, ts) :: r => fun cls d σ H => ∃ b, PySem.W.exmOne K cls c = some b ∧ (b = true → ∀ a, H a = none → ts a cls d (clr sl D) (stoE sl σ a) H) ∧ (b = false → wGen K Wo D r cls d σ H)
def SuiteOk (X : Cx) (ss : List Stmt) (ts : Addr → Value → Option Addr → TS) : Prop := ∀ (a : Addr) (ob : Obj) (cls : Value) (d : Option Addr) (pl : List (Addr × Obj)), Zc cls d ob → (∃ vs, ob.data = .fields vs) → PSs (X.suite a ((a, ob) :: pl)) ss (ts a cls d)
inductive HdsG (X : Cx) : List ExceptHandler → List Hnd → Prop
  | nil : HdsG X [] []
  | one {x : Str} {c : Value} {ts : Addr → Value → Option Addr → TS} {s0 : Stmt} {ss : List Stmt} {p1 p2 : Pos} {hs : List ExceptHandler} {l : List Hnd} (hc : Names X x c) (hu : SuiteOk X (s0 :: ss) ts) (r : HdsG X hs l) :
      HdsG X (.ExceptHandler (some (.Name x p1)) none (s0 :: ss) p2 :: hs) ((c, none, ts) :: l)
  | as {x n : Str} {i : Nat} {c : Value} {ts : Addr → Value → Option Addr → TS} {s0 : Stmt} {ss : List Stmt} {p1 p2 : Pos} {hs : List ExceptHandler} {l : List Hnd} (hc : Names X x c) (hi : X.N[i]? = some n) (hl : X.env.kindOf n = some .local) (hu : SuiteOk X (s0 :: ss) ts) (r : HdsG X hs l) :
      HdsG X (.ExceptHandler (some (.Name x p1)) (some n) (s0 :: ss) p2 :: hs) ((c, some i, ts) :: l)
section
variable {X : Cx}
theorem ps_tryG {body : List Stmt} {g0 : ExceptHandler} {gs : List ExceptHandler} {l : List Hnd} {pos : Pos} {tb : WX → TS} {Wo : WX} (hN : X.N.Nodup) (hst : X.stack = X.env :: X.outer) (hfm : X.env.frame = some X.env.locals) (tk : Takes X Wo)
    (hb : ∀ (W : WX) (pl : List (Addr × Obj)) (xe : Value → Shared → Prop), Takes (X.tr pl xe) W → PassesOwn (model X.prog X.w) X.A X.env xe → PSs (X.tr pl xe) body (tb W))
    (hh : HdsG X (g0 :: gs) l) : PS X (.Try body (g0 :: gs) [] [] pos) (fun D σ H => tb (wGen X.K Wo D l) D σ H) := by
  refine ⟨fun pins s σ H D I0 hw => ?_⟩
  have ok := I0.ok
  have hfr : X.A.frames = some (X.env :: X.outer) := by rw [← hst]; exact ok.frames
  refine wpAny_Try_except (wpAny_mono ((hb (wGen X.K Wo D l) (X.pn ++ pins) _ (fun u s' hx => ?_) PassesOwn.looking).run [] s σ H D (I0.toTry _) hw) (fun f s1 hf => ?_) fun _ _ z => z)
  · obtain ⟨a, B, sI, pq, σ1, H1, cls, d, rfl, J0, nb, up, sky, na, os, ag, wi⟩ := hx
    have J1 : Inv X pins σ1 H1 sI := J0.ofTry ok
    have sky1 : Sky B (X.env :: X.outer) a (Zc cls d) X.env.locals s'.heap := by rw [← hst]; exact sky
    refine Sky.land Zc.steady hfr hfm sky1 fun h3 fl up3 => ?_
    have J3 : Inv X pins σ1 H1 { s' with heap := h3 } := J1.landed nb fl.1 (up.trans up3) os ag
    obtain ⟨ob, vs, hob, hz, hdt⟩ := fl.there
    have nfr : a ∉ frs (X.env :: X.outer) := fun hm => by
      obtain ⟨_, ob', e', hnf⟩ := fl.2.2.1.mem hm
      rw [hob] at e'; cases e'
      exact hnf _ hdt
    have nL : a ≠ X.env.locals := fun z => nfr (List.mem_filterMap.mpr ⟨X.env, List.mem_cons_self, by rw [hfm, z]⟩)
    have nF : a ∉ X.fs := fun hm => by
      obtain ⟨e, he, q⟩ := List.mem_filterMap.mp hm
      exact nfr (List.mem_filterMap.mpr ⟨e, List.mem_cons_of_mem _ he, q⟩)
    have S3 := J3.suite hob hdt na nL nF
    -- the class's test
    have tst : ∀ {x : Str} {c : Value} {p : Pos} {Q : Value → Shared → Prop} {E : Value → Shared → Prop}, Names X x c → Q c { s' with heap := h3 } → wpAny (model X.prog X.w) (X.A.mark (some (.ref a))) (eval (.Name x p) X.env) Q E { s' with heap := h3 } := fun {x c p Q E} hc q => by
      obtain ⟨hg, hdb, hm | ⟨hm, hv, hnn⟩⟩ := hc
      · exact ld_glob (X := X.suite a ((a, ob) :: (X.pn ++ pins))) S3 hg hm q hdb
      · exact ld_blt (X := X.suite a ((a, ob) :: (X.pn ++ pins))) S3 hg hm hv q hnn hdb
    have lty : PySem.W.Looks (model X.prog X.w) h3 (typeOf (.ref a)) cls := fun A Q E s k q => wpAny_typeOf_ref (k _ _ hob) (by rw [hz.1]; exact q)
    -- the suite lands
    have lnd : ∀ {Q : Unit → Shared → Prop} {E : Value → Shared → Prop}, (∀ h4 ob4, Inv X pins σ1 H1 { s' with heap := h4 } → Zc cls d ob4 → (∃ vs, ob4.data = .fields vs) → Inv (X.suite a ((a, ob4) :: (X.pn ++ pins))) [] σ1 H1 { s' with heap := h4 } → Q () { s' with heap := h4 }) → wpAny (model X.prog X.w) (X.A.mark (some (.ref a))) (setFlight (.ref a) none) Q E { s' with heap := h3 } := fun {Q E} q => by
      refine HandSPX.lands_againZ fl fun h4 fl4 up4 => ?_
      have J4 : Inv X pins σ1 H1 { s' with heap := h4 } := J1.landed nb fl4.1 ((up.trans up3).trans up4) os ag
      obtain ⟨ob4, vs4, hob4, hz4, hdt4⟩ := fl4.there
      exact q h4 ob4 J4 hz4 ⟨_, hdt4⟩ (J4.suite hob4 hdt4 na nL nF)
    suffices go : ∀ {hs : List ExceptHandler} {l2 : List Hnd}, HdsG X hs l2 → wGen X.K Wo D l2 cls d σ1 H1 → wpAny (model X.prog X.w) X.A (handleBy (.ref a) X.env hs) (SP X pins D) X.xe { s' with heap := h3 } from go hh wi
    intro hs l2 hk
    induction hk with
    | nil =>
      intro wo
      refine wpAny_handleBy_nil ?_
      obtain ⟨_, _, _, ob2, us, T, _, _, e2, _, dt2, q1, _⟩ := id fl
      unfold PySem.passOn
      refine wpAny_bind (wpAny_field e2 dt2 q1 ?_)
      rw [if_neg (show ¬ ((Value.ref T == Value.none) = true) from by simp)]
      have fin : wpAny (model X.prog X.w) X.A (setFlight (.ref a) X.env.frame) (fun _ s4 => wpAny (model X.prog X.w) X.A (throw (Value.ref a) : PySem.Sem Flow) (SP X pins D) X.xe s4) X.xe { s' with heap := h3 } := by
        rw [hfm]
        exact HandSPX.setFlight_upZ fl fun h4 hd4 up4 => wpAny_throw (tk _ _ ⟨a, B, sI, pins, σ1, H1, cls, d, rfl, J1, nb, (up.trans up3).trans up4, .inr (.inr (by rw [hst]; exact hd4)), na, os, ag, wo⟩)
      first
        | exact wpAny_bind (wpAny_pure (wpAny_bind fin))
        | exact wpAny_bind fin
    | one hc hu r ih =>
      rintro ⟨b, hb1, yes, no⟩
      refine wpAny_handleBy_cons (codeAny_handlers_test ?_) (by intro q; cases q)
      refine tst hc ((PySem.W.exm_one (M := model X.prog X.w) J3.kIn lty hb1).here ?_)
      cases b with
      | false => exact ih (no rfl)
      | true =>
        refine codeAny_handlers_suite (lnd fun h4 ob4 J4 z4 d4 S4 => ?_)
        refine wpAny_mono ((hu a ob4 cls d (X.pn ++ pins) z4 d4).run [] _ _ H1 _ S4 (yes rfl a na)) (fun f s6 hf => ?_) (fun _ _ z => False.elim z)
        cases f with
        | next => obtain ⟨_, _, S6, q⟩ := hf; exact ⟨_, _, S6.unsuite ok, q⟩
        | brk => obtain ⟨_, _, S6, q⟩ := hf; exact ⟨_, _, S6.unsuite ok, q⟩
        | cont => obtain ⟨_, _, S6, q⟩ := hf; exact ⟨_, _, S6.unsuite ok, q⟩
        | ret u => obtain ⟨_, _, _, S6, rr, q⟩ := hf; exact ⟨_, _, _, S6.unsuite ok, rr, q⟩
    | @as x n i c ts s0 ss p1 p2 hs l2 hc hi hl hu r ih =>
      rintro ⟨b, hb1, yes, no⟩
      refine wpAny_handleBy_cons (codeAny_handlers_test ?_) (by intro q; cases q)
      refine tst hc ((PySem.W.exm_one (M := model X.prog X.w) J3.kIn lty hb1).here ?_)
      cases b with
      | false => exact ih (no rfl)
      | true =>
        refine codeAny_handlers_suite_as (lnd fun h4 ob4 J4 z4 d4 S4 => ?_)
        refine store_ok (X := X.suite a ((a, ob4) :: (X.pn ++ pins))) (v := .ref a) S4 hN hi (.inl hl) rfl (fun s5 S5 => ?_) (.inr hl)
        refine wpAny_mono ((hu a ob4 cls d (X.pn ++ pins) z4 d4).run [] s5 _ H1 _ S5 (yes rfl a na)) (fun f s6 hf => ?_) (fun _ _ z => False.elim z)
        have gone : ∀ {σ6 : L2.St} {H6 : Hp} {Q : Shared → Prop}, Inv (X.suite a ((a, ob4) :: (X.pn ++ pins))) [] σ6 H6 s6 → (∀ s7, Inv X pins (σ6.set i none) H6 s7 → Q s7) →
            wpAny (model X.prog X.w) X.A (do bindName X.env n .none; unbindBehindTheSuite X.env n p2) (fun _ s7 => Q s7) X.xe s6 := fun S6 hq => gone_ok (S6.unsuite ok) hN hi hl hq
        cases f with
        | next => obtain ⟨_, _, S6, q⟩ := hf; exact gone S6 fun _ J7 => ⟨_, _, J7, q⟩
        | brk => obtain ⟨_, _, S6, q⟩ := hf; exact gone S6 fun _ J7 => ⟨_, _, J7, q⟩
        | cont => obtain ⟨_, _, S6, q⟩ := hf; exact gone S6 fun _ J7 => ⟨_, _, J7, q⟩
        | ret u => obtain ⟨_, _, _, S6, rr, q⟩ := hf; exact gone S6 fun _ J7 => ⟨_, _, _, J7, rr, q⟩
  · cases f with
    | next => obtain ⟨_, _, J2, q⟩ := hf; exact wpAny_execs_nil ⟨_, _, J2.ofTry ok, q⟩
    | brk => obtain ⟨_, _, J2, q⟩ := hf; exact ⟨_, _, J2.ofTry ok, q⟩
    | cont => obtain ⟨_, _, J2, q⟩ := hf; exact ⟨_, _, J2.ofTry ok, q⟩
    | ret u => obtain ⟨_, _, _, J2, rr, q⟩ := hf; exact ⟨_, _, _, J2.ofTry ok, rr, q⟩
end
end SL

namespace SL
open PySem PySem.Spec PyProof.Rows L2

/-! ## own exceptions with one field -/
/-- what __init__ promises: the one field is laid -/
def spI1 (C : Addr) (fld : Str) : Sp := fun vs H Q _ => ∃ a y, vs = [.ref a, y] ∧ H a = some (exo a C none) ∧ ∀ dx, H dx = none → dx ≠ a → Q .non (upd (upd H dx (exd dx [(fld, y)])) a (exo a C (some dx)))
structure Exc1 (P : Program) (w : World) (K : PySem.W.Frag) (mg : Str → Option Value) (base : Heap) (c fld : Str) : Prop where
  ex : ∃ (C fI : Addr) (fd : FuncData) (x : Str), OexC K C ∧ PySem.W.findIn K (.ref C) "__init__" = some (some (.ref fI)) ∧ PySem.W.typeIn K (.ref fI) = some (.type "function") ∧ FnOk P w K mg base (L2.CX P w) 1 fI fd ["self", x] (spI1 C fld) ∧ Binds K fd ["self", x] [] ∧ mg c = some (.ref C)
theorem init1 {P : Program} {w : World} {K : PySem.W.Frag} {mg : Str → Option Value} {base : Heap} {qual : Str} {st : Stmt} {f C : Addr} {fd : FuncData} {x fld : Str} {p1 p2 p3 p4 : Pos} (F : Fun K "__init__" qual st f fd) (S : FnScope ["self", x] ["self", x] (defScope st))
    (hb : defBody st = [.Assign [.Attribute (.Name "self" p1) fld p2] (.Name x p3) p4]) (T : OexC K C) (hno : PySem.W.findIn K (.ref C) fld = some none) (hd : (x == ("__debug__" : Str)) = false) (hcd : (x == ("__classdict__" : Str)) = false) : FnOk P w K mg base (L2.CX P w) 1 f fd ["self", x] (spI1 C fld) := by
  refine F.okX (k := 0) S (fun vs H Q E h => ?_) (fun cdv A outer s H vs Q E hr h => ?_)
  · obtain ⟨a, y, rfl, _⟩ := h; rfl
  · rw [hb]
    have vis : ∀ z ∈ (["self", x] : List Str), Vis (defScope st) z := fun z hz => by
      rcases S.par z hz with q | q
      · exact .inl q
      · exact .inr (.inl q)
    refine ⟨_, pss_one (ps_ost (pe_var (i := 0) rfl (vis "self" (by simp))) (pe_var (i := 1) rfl (vis x (by simp)) hd hcd)), ?_⟩
    obtain ⟨a, y, rfl, h1, h2⟩ := h
    exact ⟨y, rfl, .ref a, rfl, a, C, rfl, T, hno, .inl ⟨h1, fun dx n ne => h2 dx n ne⟩⟩
theorem del_eq {H : Hp} {a d : Addr} {o o1 o2 o3 : HO} (ha : H a = none) (hd : d ≠ a) : upd (del (upd (upd (upd H a o) d o1) a o2) a) d o3 = upd H d o3 := by
  funext b
  by_cases e : b = d
  · subst e; rw [upd_same, upd_same]
  · rw [upd_ne e, upd_ne e]
    by_cases z : b = a
    · subst z; rw [del_same, ha]
    · rw [del_ne z, upd_ne z, upd_ne e, upd_ne z]
/-- raise C(e, ..): the error's fields are the arguments -/
def sRaise (c : Str) (ns : List Str) (f : SemL) : SSem := fun fr st => (f fr st).stm fr fun ws st1 => if ws.length = ns.length then .er ⟨c, ns, ws⟩ fr st1 else .bad
section
variable {X : Cx} {Wx : Wish}
theorem sv_raise1 {k : Nat} {c fld : Str} {f : SemL} {e : Expr} {es : List Expr} {p p2 pos : Pos} (C : Ctx X Wx k) (hk : 2 ≤ k) (E : Exc1 X.prog X.w X.K X.mg X.base c fld) (ha : AV X Wx (e :: es) f) (hg : Gl X c := by rfl) (hdb : (c == ("__debug__" : Str)) = false := by decide)
    (he : starEach (e :: es) X.env = (false, eval e X.env) :: starEach es X.env := by rfl) (hpl : (backTo p2 (starEach es X.env)).any (·.1) = false := by rfl) :
    SV X Wx (.Raise (some (.Call (.Name c p) (e :: es) [] p2)) none pos) (sRaise c [fld] f) := by
  obtain ⟨A, fI, fd, x, T, h1, h2, F, B, hm⟩ := E.ex
  refine PSm (ps_raise C.calm C.tk (pmk_oex (CX := L2.CX X.prog X.w) (k := 1) T h1 h2 F (C.room.mono hk) B .nil (fun pins σ H s u s' I z => ?_) hg hm ha hdb he hpl)) fun D σ H ⟨μ, st, hid, fr, S, P⟩ => ?_
  · obtain ⟨_, _, _, _, _, _, _, _, _, _, _, _, z⟩ := z
    exact z.elim
  · refine ⟨μ, st, hid, fr, S, ?_⟩
    unfold sRaise at P
    cases e1 : f fr st with
    | bad => rw [e1] at P; exact P
    | err x s => rw [e1] at P; exact fun μ1 H1 c d k1 g1 xr => P μ1 σ H1 c d (S.next k1 g1) g1 xr
    | ok ws st1 =>
      rw [e1, Out.stm_ok] at P
      intro μ1 H1 vs k1 g1 r1
      have P1 := SPost.from g1 P
      split at P1
      · rename_i hl
        have hv : vs.length = 1 := by rw [← r1.length]; exact hl
        obtain ⟨y, rfl⟩ : ∃ y, vs = [y] := by
          match vs, hv with
          | [y], _ => exact ⟨y, rfl⟩
        refine ⟨by simp, fun a na => ⟨a, y, rfl, upd_same, fun dx nd ne => ⟨rfl, dx, [(fld, y)], upd_same, by rw [upd_ne ne, upd_same], ?_, ?_⟩⟩⟩
        · rw [upd_ne ne] at nd; exact nd
        · rw [upd_ne ne] at nd
          rw [del_eq na ne]
          obtain ⟨k2, g2, e2⟩ := k1.laid (o := .xd [(fld, y)]) nd
          exact P1 μ1 σ _ _ _ ((S.next k1 g1).next k2 g2) g2 ⟨A, hm, rfl, .inr ⟨dx, [y], rfl, rfl, e2, r1.mono g2.le (.refl _)⟩⟩
      · exact P1.elim

/-! ## try -/
def clrF (sl : Option Nat) (fr : Fr) : Fr := match sl with
  | none => fr
  | some i => fr.set i none
structure HndS where
  cn : Str
  sl : Option Nat
  h : Exc → SSem
def SOut.clr (sl : Option Nat) : SOut → SOut
  | .nx fr st => .nx (clrF sl fr) st
  | .bk fr st => .bk (clrF sl fr) st
  | .ct fr st => .ct (clrF sl fr) st
  | .rt w st => .rt w st
  | .er _ _ _ => .bad
  | .bad => .bad
/-- which class stands under which -/
abbrev ExT := Str → Str → Option Bool
def slOk (sl : Option Nat) (fr : Fr) : Bool := match sl with
  | none => true
  | some i => decide (i < fr.length)
def hRun (T : ExT) (x : Exc) : List HndS → Fr → Sto → SOut
  | [], fr, st => .er x fr st
  | hd :: r, fr, st => match T x.c hd.cn with
    | some true => if slOk hd.sl fr = true then (hd.h x (clrF hd.sl fr) st).clr hd.sl else .bad
    | some false => hRun T x r fr st
    | none => .bad
def sTry (T : ExT) (b : SSem) (hs : List HndS) : SSem := fun fr st => match b fr st with
  | .er x fr1 st1 => hRun T x hs fr1 st1
  | o => o
theorem XRep.mono {K : PySem.W.Frag} {mg : Str → Option Value} {F F' : Hp} {μ μ' : List Addr} {x : Exc} {c : Value} {d : Option Addr} (l : Le F F') (p : Pre μ μ') (h : XRep K mg F μ x c d) : XRep K mg F' μ' x c d := by
  obtain ⟨C, h1, h2, h3⟩ := h
  refine ⟨C, h1, h2, ?_⟩
  rcases h3 with h3 | ⟨dx, vs, h3, h4, h5, h6⟩
  · exact .inl h3
  · exact .inr ⟨dx, vs, h3, h4, l.xd h5, h6.mono l p⟩
def Wish.suite (Wx : Wish) (K : PySem.W.Frag) (mg : Str → Option Value) (sl : Option Nat) (x : Exc) (a : Addr) (cls : Value) (d : Option Addr) : Wish where
  w := fun _ _ _ _ => False
  lock := sl.toList ++ Wx.lock
  y := fun σ F μ => Wx.y σ F μ ∧ XRep K mg F μ x cls d ∧ ∀ i, sl = some i → σ[i]? = some (some (.ref a))
  mono := fun σ F F' μ μ' l p h => ⟨Wx.mono _ _ _ _ _ l p h.1, h.2.1.mono l p, h.2.2⟩
  slot := fun σ σ' F μ e h => ⟨Wx.slot _ _ _ _ (fun i hi => e i (List.mem_append_right _ hi)) h.1, h.2.1, fun i hi => by
    rw [e i (List.mem_append_left _ (by rw [hi]; simp))]; exact h.2.2 i hi⟩
/-- what a wish within a try's body is -/
def Wish.tr (Wx : Wish) (W : WX) : Wish := ⟨W, Wx.lock, Wx.y, Wx.mono, Wx.slot⟩
theorem SI.tr {K : PySem.W.Frag} {mg : Str → Option Value} {μ : List Addr} {st : Sto} {hid : List Addr} {fr : Fr} {σ : L2.St} {H : Hp} (W : WX) (s : SI K mg Wx μ st hid fr σ H) : SI K mg (Wx.tr W) μ st hid fr σ H := ⟨s.sto, s.len, s.loc, s.ex⟩
theorem SI.ofTr {K : PySem.W.Frag} {mg : Str → Option Value} {μ : List Addr} {st : Sto} {hid : List Addr} {fr : Fr} {σ : L2.St} {H : Hp} {W : WX} (s : SI K mg (Wx.tr W) μ st hid fr σ H) : SI K mg Wx μ st hid fr σ H := ⟨s.sto, s.len, s.loc, s.ex⟩
def tsOf (K : PySem.W.Frag) (mg : Str → Option Value) (Wx : Wish) (sl : Option Nat) (h : Exc → SSem) : Addr → Value → Option Addr → TS := fun a cls d D σ H => ∃ x, tS K mg (Wx.suite K mg sl x a cls d) (h x) D σ H
/-- a suite by its meaning -/
def SuV (X : Cx) (Wx : Wish) (sl : Option Nat) (ss : List Stmt) (h : Exc → SSem) : Prop := ∀ (a : Addr) (ob : Obj) (cls : Value) (d : Option Addr) (pl : List (Addr × Obj)) (x : Exc), Zc cls d ob → (∃ vs, ob.data = .fields vs) → BV (X.suite a ((a, ob) :: pl)) (Wx.suite X.K X.mg sl x a cls d) ss (h x)
theorem SuV.ok {sl : Option Nat} {ss : List Stmt} {h : Exc → SSem} (u : SuV X Wx sl ss h) : SuiteOk X ss (tsOf X.K X.mg Wx sl h) := fun a ob cls d pl hz hf =>
  ⟨fun pins s σ H D I ⟨x, q⟩ => (u a ob cls d pl x hz hf).run pins s σ H D I q⟩
/-- the clauses by their meaning -/
inductive HV (X : Cx) (Wx : Wish) : List ExceptHandler → List HndS → List Hnd → Prop
  | nil : HV X Wx [] [] []
  | one {x : Str} {C : Addr} {h : Exc → SSem} {s0 : Stmt} {ss : List Stmt} {p1 p2 : Pos} {hs : List ExceptHandler} {l : List HndS} {m : List Hnd} (hg : Gl X x) (hd : (x == ("__debug__" : Str)) = false) (hm : X.mg x = some (.ref C)) (hu : SuV X Wx none (s0 :: ss) h) (r : HV X Wx hs l m) :
      HV X Wx (.ExceptHandler (some (.Name x p1)) none (s0 :: ss) p2 :: hs) (⟨x, none, h⟩ :: l) ((.ref C, none, tsOf X.K X.mg Wx none h) :: m)
  | as {x n : Str} {i : Nat} {C : Addr} {h : Exc → SSem} {s0 : Stmt} {ss : List Stmt} {p1 p2 : Pos} {hs : List ExceptHandler} {l : List HndS} {m : List Hnd} (hg : Gl X x) (hd : (x == ("__debug__" : Str)) = false) (hm : X.mg x = some (.ref C)) (hi : X.N[i]? = some n) (hl : X.env.kindOf n = some .local) (hk : i ∉ Wx.lock) (hu : SuV X Wx (some i) (s0 :: ss) h) (r : HV X Wx hs l m) :
      HV X Wx (.ExceptHandler (some (.Name x p1)) (some n) (s0 :: ss) p2 :: hs) (⟨x, some i, h⟩ :: l) ((.ref C, some i, tsOf X.K X.mg Wx (some i) h) :: m)
theorem HV.ok {hs : List ExceptHandler} {l : List HndS} {m : List Hnd} (v : HV X Wx hs l m) : HdsG X hs m := by
  induction v with
  | nil => exact .nil
  | one hg hd hm hu r ih => exact .one ⟨hg, hd, .inl hm⟩ hu.ok ih
  | as hg hd hm hi hl hk hu r ih => exact .as ⟨hg, hd, .inl hm⟩ hi hl hu.ok ih
/-- the table of classes says what is so -/
def ExTOk (K : PySem.W.Frag) (mg : Str → Option Value) (T : ExT) : Prop := ∀ c c' b, T c c' = some b → ∀ C C', mg c = some (.ref C) → mg c' = some (.ref C') → PySem.W.exmOne K (.ref C) (.ref C') = some b
theorem SI.clr {K : PySem.W.Frag} {mg : Str → Option Value} {μ : List Addr} {st : Sto} {hid : List Addr} {fr : Fr} {σ : L2.St} {H : Hp} {sl : Option Nat} {x : Exc} {a : Addr} {cls : Value} {d : Option Addr} (s : SI K mg (Wx.suite K mg sl x a cls d) μ st hid fr σ H) (hk : ∀ i, sl = some i → i ∉ Wx.lock) :
    SI K mg Wx μ st hid (clrF sl fr) (match sl with | none => σ | some i => σ.set i none) H := by
  cases sl with
  | none => exact ⟨s.sto, s.len, s.loc, s.ex.1⟩
  | some i =>
    refine ⟨s.sto, by simpa [clrF] using s.len, fun j w h => ?_, Wx.slot _ _ _ _ (fun j hj => List.getElem?_set_ne fun (z : i = j) => hk i rfl (z ▸ hj)) s.ex.1⟩
    have h' : (fr.set i none)[j]? = some (some w) := h
    by_cases e : i = j
    · subst e
      by_cases q : i < fr.length
      · rw [List.getElem?_set_self q] at h'; cases h'
      · rw [List.getElem?_eq_none (by simpa using q)] at h'; cases h'
    · rw [List.getElem?_set_ne e] at h'
      obtain ⟨v, e1, e2⟩ := s.loc j w h'
      exact ⟨v, by show (σ.set i none)[j]? = _; rw [List.getElem?_set_ne e]; exact e1, e2⟩
theorem hRun_at {T : ExT} (hT : ExTOk X.K X.mg T) {D : Ends} : ∀ {hs : List ExceptHandler} {l : List HndS} {m : List Hnd}, HV X Wx hs l m → ∀ {hid μ : List Addr} {st : Sto} {fr : Fr} {σ : L2.St} {H : Hp} {x : Exc} {cls : Value} {d : Option Addr}, SI X.K X.mg Wx μ st hid fr σ H → XRep X.K X.mg (Fz μ st hid H) μ x cls d →
    SPost X.K X.mg Wx hid μ st H D (hRun T x l fr st) → wGen X.K Wx.w D m cls d σ H := by
  intro hs l m v
  -- one clause: its suite at the cleared frame
  have key : ∀ {sl : Option Nat} {h : Exc → SSem} {hid μ : List Addr} {st : Sto} {fr : Fr} {σ : L2.St} {H : Hp} {x : Exc} {cls : Value} {d : Option Addr}, (∀ i, sl = some i → i ∉ Wx.lock ∧ i < fr.length) → SI X.K X.mg Wx μ st hid fr σ H → XRep X.K X.mg (Fz μ st hid H) μ x cls d →
      SPost X.K X.mg Wx hid μ st H D ((h x (clrF sl fr) st).clr sl) → ∀ a, tsOf X.K X.mg Wx sl h a cls d (clr sl D) (stoE sl σ a) H := by
    intro sl h hid μ st fr σ H x cls d hk S xr P a
    refine ⟨x, μ, st, hid, clrF sl fr, ?_, ?_⟩
    · cases sl with
      | none => exact ⟨S.sto, S.len, S.loc, S.ex, xr, fun i z => nomatch z⟩
      | some i =>
        obtain ⟨hk1, hk2⟩ := hk i rfl
        refine ⟨S.sto, by simpa [clrF, stoE] using S.len, fun j w h' => ?_, Wx.slot _ _ _ _ (fun j hj => List.getElem?_set_ne fun (z : i = j) => hk1 (z ▸ hj)) S.ex, xr, fun j z => ?_⟩
        · have h'' : (fr.set i none)[j]? = some (some w) := h'
          by_cases e : i = j
          · subst e
            rw [List.getElem?_set_self hk2] at h''; cases h''
          · rw [List.getElem?_set_ne e] at h''
            obtain ⟨v, e1, e2⟩ := S.loc j w h''
            exact ⟨v, by show (σ.set i _)[j]? = _; rw [List.getElem?_set_ne e]; exact e1, e2⟩
        · cases z
          exact List.getElem?_set_self (by rw [← S.len]; exact hk2)
    · have hkl : ∀ i, sl = some i → i ∉ Wx.lock := fun i z => (hk i z).1
      have nxt : ∀ {μ' : List Addr} {st' : Sto} {fr' : Fr} {σ' : L2.St} {H' : Hp} {R : L2.St → Hp → Prop}, SI X.K X.mg (Wx.suite X.K X.mg sl x a cls d) μ' st' hid fr' σ' H' → (∀ σ2, SI X.K X.mg Wx μ' st' hid (clrF sl fr') σ2 H' → R σ2 H') →
          (match sl with | none => R σ' H' | some i => R (σ'.set i none) H') := fun {μ' st' fr' σ' H' R} s q => by
        have s2 := s.clr hkl
        cases sl with
        | none => exact q _ s2
        | some i => exact q _ s2
      cases e : h x (clrF sl fr) st with
      | bad => rw [e] at P; exact P
      | er z f s => rw [e] at P; exact P.elim
      | rt w s =>
        rw [e] at P
        have P' : ∀ μ' H' v, StOk X.K X.mg μ' s hid H' → Grow hid μ st H μ' s H' → Rep X.K X.mg (Fz μ' s hid H') μ' w v → D.rt v H' := P
        intro μ' H' v k g r
        cases sl with
        | none => exact P' μ' H' v k g r
        | some i => exact P' μ' H' v k g r
      | nx f s =>
        rw [e] at P
        have P' : ∀ μ' σ' H', SI X.K X.mg Wx μ' s hid (clrF sl f) σ' H' → Grow hid μ st H μ' s H' → D.nx σ' H' := P
        intro μ' σ' H' S' g
        have q := nxt (R := D.nx) S' fun σ2 s2 => P' μ' σ2 H' s2 g
        cases sl with
        | none => exact q
        | some i => exact q
      | bk f s =>
        rw [e] at P
        have P' : ∀ μ' σ' H', SI X.K X.mg Wx μ' s hid (clrF sl f) σ' H' → Grow hid μ st H μ' s H' → D.bk σ' H' := P
        intro μ' σ' H' S' g
        have q := nxt (R := D.bk) S' fun σ2 s2 => P' μ' σ2 H' s2 g
        cases sl with
        | none => exact q
        | some i => exact q
      | ct f s =>
        rw [e] at P
        have P' : ∀ μ' σ' H', SI X.K X.mg Wx μ' s hid (clrF sl f) σ' H' → Grow hid μ st H μ' s H' → D.ct σ' H' := P
        intro μ' σ' H' S' g
        have q := nxt (R := D.ct) S' fun σ2 s2 => P' μ' σ2 H' s2 g
        cases sl with
        | none => exact q
        | some i => exact q
  induction v with
  | nil =>
    intro hid μ st fr σ H x cls d S xr P
    exact P μ σ H cls d S .refl xr
  | @one n C h s0 ss p1 p2 hs l m hg hd hm hu r ih =>
    intro hid μ st fr σ H x cls d S xr P
    obtain ⟨C', h1, rfl, h3⟩ := id xr
    rw [hRun] at P
    simp only at P
    split at P
    · rename_i e
      split at P
      · exact ⟨true, hT _ _ _ e _ _ h1 hm, fun _ a na => key (sl := none) (fun i z => nomatch z) S xr P a, fun z => (nomatch z)⟩
      · exact P.elim
    · rename_i e
      exact ⟨false, hT _ _ _ e _ _ h1 hm, fun z => (nomatch z), fun _ => ih S xr P⟩
    · exact P.elim
  | @as n nn i C h s0 ss p1 p2 hs l m hg hd hm hi hl hk hu r ih =>
    intro hid μ st fr σ H x cls d S xr P
    obtain ⟨C', h1, rfl, h3⟩ := id xr
    rw [hRun] at P
    simp only at P
    split at P
    · rename_i e
      split at P
      · rename_i hs
        refine ⟨true, hT _ _ _ e _ _ h1 hm, fun _ a na => key (sl := some i) (fun j z => ?_) S xr P a, fun z => (nomatch z)⟩
        cases z
        exact ⟨hk, of_decide_eq_true hs⟩
      · exact P.elim
    · rename_i e
      exact ⟨false, hT _ _ _ e _ _ h1 hm, fun z => (nomatch z), fun _ => ih S xr P⟩
    · exact P.elim
theorem sv_try {k : Nat} {T : ExT} {body : List Stmt} {g0 : ExceptHandler} {gs : List ExceptHandler} {b : SSem} {l : List HndS} {m : List Hnd} {pos : Pos} (C : Ctx X Wx k) (hT : ExTOk X.K X.mg T) (hst : X.stack = X.env :: X.outer) (hfm : X.env.frame = some X.env.locals)
    (hb : ∀ (W : WX) (pl : List (Addr × Obj)) (xe : Value → Shared → Prop), Ctx (X.tr pl xe) (Wx.tr W) k → BV (X.tr pl xe) (Wx.tr W) body b) (hh : HV X Wx (g0 :: gs) l m) : SV X Wx (.Try body (g0 :: gs) [] [] pos) (sTry T b l) :=
  PSm (ps_tryG (tb := fun W => tS X.K X.mg (Wx.tr W) b) C.nd hst hfm C.tk (fun W pl xe tk hp => hb W pl xe ⟨C.calm, C.nd, C.room, tk, hp⟩) hh.ok) fun D σ H ⟨μ, st, hid, fr, S, P⟩ => by
    refine ⟨μ, st, hid, fr, S.tr _, ?_⟩
    unfold sTry at P
    cases e : b fr st with
    | bad => rw [e] at P; exact P
    | rt w s => rw [e] at P; exact P
    | nx f s => rw [e] at P; exact fun μ' σ' H' S' g => P μ' σ' H' S'.ofTr g
    | bk f s => rw [e] at P; exact fun μ' σ' H' S' g => P μ' σ' H' S'.ofTr g
    | ct f s => rw [e] at P; exact fun μ' σ' H' S' g => P μ' σ' H' S'.ofTr g
    | er x f s =>
      rw [e] at P
      intro μ' σ' H' c d S' g xr
      exact hRun_at hT hh S'.ofTr xr (SPost.from g P)
/-! ## a field of a caught error -/
def lkp : List Str → List W → Str → Option W
  | n :: ns, w :: ws, f => if f == n then some w else lkp ns ws f
  | _, _, _ => none
theorem lkp_at {K : PySem.W.Frag} {mg : Str → Option Value} {F : Hp} {μ : List Addr} {f : Str} {w : W} : ∀ {ns : List Str} {ws : List W} {vs : List V}, lkp ns ws f = some w → Reps K mg F μ ws vs → ∃ v, (ns.zip vs).lookup f = some v ∧ Rep K mg F μ w v
  | [], _, _, h, _ => by unfold lkp at h; cases h
  | _ :: _, [], _, h, _ => by unfold lkp at h; cases h
  | n :: ns, u :: ws, vs, h, r => by
    unfold lkp at h
    obtain ⟨v, t, rfl, h1, h2⟩ := r.cons_inv
    rw [List.zip_cons_cons, List.lookup_cons]
    cases e : f == n with
    | true => rw [e] at h; cases h; exact ⟨v, rfl, h1⟩
    | false => rw [e] at h; exact lkp_at h h2
def eXf (x : Exc) (c n : Str) : Sem := fun _ st => if x.c = c then (match lkp x.ns x.vs n with
  | some w => .ok w st
  | none => .bad) else .bad
theorem ev_xf {a : Addr} {oe : Obj} {cls : Value} {d : Option Addr} {pn : List (Addr × Obj)} {C : Addr} {x : Exc} {c nm n : Str} {i : Nat} {p pos : Pos} (T : XfC X.K C) (hm : X.mg c = some (.ref C)) (hno : PySem.W.findIn X.K (.ref C) n = some none) (hz : Zc cls d oe) (hf : ∃ vs, oe.data = .fields vs)
    (hN : X.N[i]? = some nm) (hv : Vis X.env.scope nm) (hd : (nm == ("__debug__" : Str)) = false := by decide) (hcd : (nm == ("__classdict__" : Str)) = false := by decide) (hb : attributeBase (.Name nm p) n X.env (eval (.Name nm p) X.env) = eval (.Name nm p) X.env := by rfl) :
    EV (X.suite a ((a, oe) :: pn)) (Wx.suite X.K X.mg (some i) x a cls d) (.Attribute (.Name nm p) n pos) (eXf x c n) :=
  PEm (pe_xf T hno hz hf (pe_var (X := X.suite a ((a, oe) :: pn)) (i := i) hN hv hd hcd) hb) fun σ H Q ⟨μ, st, hid, fr, S, P⟩ => by
    obtain ⟨_, ⟨C', h1, h2, h3⟩, h4⟩ := S.ex
    refine ⟨.ref a, h4 i rfl, rfl, ?_⟩
    unfold eXf at P
    split at P
    · rename_i e
      have h1' : X.mg c = some (.ref C') := by rw [← e]; exact h1
      rw [hm] at h1'
      cases h1'
      refine ⟨h2, ?_⟩
      split at P
      · rename_i w ew
        rcases h3 with h3 | ⟨dx, vs, h3, h4, h5, h6⟩
        · rw [h3.1] at ew
          cases ew
        · obtain ⟨v, h7, h8⟩ := lkp_at ew h6
          exact ⟨dx, _, v, h3, (Fz.sub h5).1, h7, P μ H v S.sto .refl h8⟩
      · exact P.elim
    · exact P.elim
end
end SL

namespace SL
open PySem PySem.Spec PyProof.Rows L2

/-! ## a def's end: its own cells are let go -/
mutual
def fz0 (n : Nat) (f : Nat → Option W) : W → Option W
  | .tup ws => (fz0s n f ws).map .tup
  | .lst ws => (fz0s n f ws).map .lst
  | .ro ws => (fz0s n f ws).map .ro
  | .tpn ws => (fz0s n f ws).map .tpn
  | .dct ks ws => (fz0s n f ws).map (.dct ks)
  | .ins c ns ws => (fz0s n f ws).map (.ins c ns)
  | .cell k => if k < n then some (.cell k) else f k
  | .non => some .non
  | .bl b => some (.bl b)
  | .int i => some (.int i)
  | .str x => some (.str x)
  | .ty x => some (.ty x)
  | .cls x => some (.cls x)
def fz0s (n : Nat) (f : Nat → Option W) : List W → Option (List W)
  | [] => some []
  | w :: r => match fz0 n f w, fz0s n f r with
    | some a, some b => some (a :: b)
    | _, _ => none
end
mutual
theorem fz0_nk (n : Nat) (f : Nat → Option W) : ∀ {w : W} {k : NestedKey}, nkW w = some k → fz0 n f w = some w
  | .non, _, _ => rfl
  | .bl _, _, _ => rfl
  | .int _, _, _ => rfl
  | .str _, _, _ => rfl
  | .tup ws, k, h => by
    unfold nkW at h
    obtain ⟨ks, e, _⟩ := Option.map_eq_some_iff.mp h
    unfold fz0
    rw [fz0_nks n f e]; rfl
  | .lst _, _, h => by cases h
  | .dct _ _, _, h => by cases h
  | .ins _ _ _, _, h => by cases h
  | .cell _, _, h => by cases h
  | .ro _, _, h => by cases h
  | .ty _, _, h => by cases h
  | .cls _, _, h => by cases h
  | .tpn _, _, h => by cases h
theorem fz0_nks (n : Nat) (f : Nat → Option W) : ∀ {ws : List W} {ks : List NestedKey}, nkWs ws = some ks → fz0s n f ws = some ws
  | [], _, _ => rfl
  | w :: r, ks, h => by
    unfold nkWs at h
    cases e1 : nkW w with
    | none => rw [e1] at h; cases h
    | some k =>
      cases e2 : nkWs r with
      | none => rw [e1, e2] at h; cases h
      | some js =>
        unfold fz0s
        rw [fz0_nk n f e1, fz0_nks n f e2]
end
theorem nkey_nk {w : W} {k : NestedKey} (h : nkey w = some k) : nkW w = some k ∧ k.depth ≤ 8 := by
  cases w with
  | tup ws =>
    have h : (match nkW (.tup ws) with
      | some k => if k.depth ≤ 8 then some k else none
      | none => none) = some k := h
    cases e : nkW (.tup ws) with
    | none => rw [e] at h; cases h
    | some j =>
      rw [e] at h
      have h : (if j.depth ≤ 8 then some j else none) = some k := h
      by_cases d : j.depth ≤ 8
      · rw [if_pos d] at h; cases h; exact ⟨rfl, d⟩
      · rw [if_neg d] at h; cases h
  | _ => cases h
theorem fz0_nkey (n : Nat) (f : Nat → Option W) {w : W} {k : NestedKey} (h : nkey w = some k) : fz0 n f w = some w := fz0_nk n f (nkey_nk h).1
theorem fz0_nkeyM (n : Nat) (f : Nat → Option W) {w : W} {k : NestedKey} (h : nkeyM w = some k) : fz0 n f w = some w := by
  cases w with
  | tup ws => exact fz0_nkey n f h
  | non => rfl
  | bl b => rfl
  | int i => rfl
  | str x => rfl
  | _ => cases h
def fzc (n : Nat) (st : Sto) : Nat → Nat → Option W
  | 0, _ => none
  | m + 1, k => match st[k]? with
    | some (.lst ws) => (fz0s n (fzc n st m) ws).map .lst
    | some (.dct ks ws) => (fz0s n (fzc n st m) ws).map (.dct ks)
    | some (.ins c ns ws) => (fz0s n (fzc n st m) ws).map (.ins c ns)
    | some (.frz w) => fz0 n (fzc n st m) w
    | some (.nct _ _ _ _) => none
    | none => none
/-- the old cells know no new ones -/
def oldW (n : Nat) (c : Cel) : Bool := match c with
  | .lst ws => (fz0s n (fun _ => none) ws).isSome
  | .dct _ ws => (fz0s n (fun _ => none) ws).isSome
  | .ins _ _ ws => (fz0s n (fun _ => none) ws).isSome
  | .frz w => (fz0 n (fun _ => none) w).isSome
  | .nct _ _ _ ws => (fz0s n (fun _ => none) ws).isSome
def leave (n : Nat) (w : W) (st : Sto) : Out W := if st.length = n then .ok w st else match fz0 n (fzc n st (st.length + 1)) w with
  | some u => if (st.take n).all (oldW n) = true then .ok u (st.take n) else .bad
  | none => .bad
def leaveX (n : Nat) (x : Exc) (st : Sto) : Out W := if st.length = n then .err x st else match fz0s n (fzc n st (st.length + 1)) x.vs with
  | some us => if (st.take n).all (oldW n) = true then .err ⟨x.c, x.ns, us⟩ (st.take n) else .bad
  | none => .bad
/-- .. but the one cell that it hands back, which goes on to live -/
def leaveC (n : Nat) (w : W) (st : Sto) : Out W := match w with
  | .cell j => if n ≤ j then (match st[j]? with
    | some c => if c.live = true ∧ oldW n c = true ∧ (st.take n).all (oldW n) = true then .ok (.cell n) (st.take n ++ [c]) else .bad
    | none => .bad) else .bad
  | _ => .bad
def mkFnG (lv : Nat → W → Sto → Out W) (m : Nat) (b : SSem) : Fn := fun ws st => match b (ws.map some ++ List.replicate (m - ws.length) none) st with
  | .nx _ st1 => leave st.length .non st1
  | .rt w st1 => lv st.length w st1
  | .er x _ st1 => leaveX st.length x st1
  | _ => .bad
def mkFn (m : Nat) (b : SSem) : Fn := mkFnG leave m b
def mkFnC (m : Nat) (b : SSem) : Fn := mkFnG leaveC m b
section
variable {K : PySem.W.Frag} {mg : Str → Option Value} {F F' : Hp} {μ μ' : List Addr} {n : Nat} {f : Nat → Option W}
mutual
theorem fz0_at (l : Le F F') (hc : ∀ k, k < n → ∀ v, Rep K mg F μ (.cell k) v → Rep K mg F' μ' (.cell k) v) (hf : ∀ k, n ≤ k → ∀ u v, f k = some u → Rep K mg F μ (.cell k) v → Rep K mg F' μ' u v) : ∀ (w u : W) (v : V), fz0 n f w = some u → Rep K mg F μ w v → Rep K mg F' μ' u v
  | .non, u, v, h, r => by unfold fz0 at h; cases h; cases rep_non_inv r; exact rep_non
  | .bl b, u, v, h, r => by unfold fz0 at h; cases h; cases rep_bl_inv r; exact rep_bl
  | .int b, u, v, h, r => by unfold fz0 at h; cases h; cases rep_int_inv r; exact rep_int
  | .str b, u, v, h, r => by unfold fz0 at h; cases h; cases rep_str_inv r; exact rep_str
  | .ty b, u, v, h, r => by unfold fz0 at h; cases h; unfold Rep at r ⊢; exact r
  | .cls b, u, v, h, r => by unfold fz0 at h; cases h; unfold Rep at r ⊢; exact r
  | .tup ws, u, v, h, r => by
    unfold fz0 at h
    cases e : fz0s n f ws with
    | none => rw [e] at h; cases h
    | some us =>
      rw [e] at h; cases h
      unfold Rep at r ⊢
      obtain ⟨a, vs, rfl, h1, h2⟩ := r
      exact ⟨a, vs, rfl, h1.le l, fz0s_at l hc hf ws us vs e h2⟩
  | .lst ws, u, v, h, r => by
    unfold fz0 at h
    cases e : fz0s n f ws with
    | none => rw [e] at h; cases h
    | some us =>
      rw [e] at h; cases h
      unfold Rep at r ⊢
      obtain ⟨a, vs, rfl, h1, h2⟩ := r
      exact ⟨a, vs, rfl, l.lst h1, fz0s_at l hc hf ws us vs e h2⟩
  | .tpn ws, u, v, h, r => by
    unfold fz0 at h
    cases e : fz0s n f ws with
    | none => rw [e] at h; cases h
    | some us =>
      rw [e] at h; cases h
      unfold Rep at r ⊢
      obtain ⟨a, vs, rfl, h1, h2⟩ := r
      exact ⟨a, vs, rfl, h1.le l, fz0s_at l hc hf ws us vs e h2⟩
  | .ro ws, u, v, h, r => by
    unfold fz0 at h
    cases e : fz0s n f ws with
    | none => rw [e] at h; cases h
    | some us =>
      rw [e] at h; cases h
      unfold Rep at r ⊢
      obtain ⟨a, vs, rfl, h1, h2⟩ := r
      exact ⟨a, vs, rfl, SqL.le l h1, fz0s_at l hc hf ws us vs e h2⟩
  | .dct ks ws, u, v, h, r => by
    unfold fz0 at h
    cases e : fz0s n f ws with
    | none => rw [e] at h; cases h
    | some us =>
      rw [e] at h; cases h
      unfold Rep at r ⊢
      obtain ⟨a, vs, rfl, h1, h2⟩ := r
      exact ⟨a, vs, rfl, h1.le l, fz0s_at l hc hf ws us vs e h2⟩
  | .ins c ns ws, u, v, h, r => by
    unfold fz0 at h
    cases e : fz0s n f ws with
    | none => rw [e] at h; cases h
    | some us =>
      rw [e] at h; cases h
      unfold Rep at r ⊢
      obtain ⟨a, C, dx, vs, rfl, g, ll, h1, h2⟩ := r
      exact ⟨a, C, dx, vs, rfl, g, ll, l.ins h1, fz0s_at l hc hf ws us vs e h2⟩
  | .cell k, u, v, h, r => by
    unfold fz0 at h
    split at h
    · rename_i hk
      cases h
      exact hc k hk v r
    · rename_i hk
      exact hf k (Nat.le_of_not_lt hk) u v h r
theorem fz0s_at (l : Le F F') (hc : ∀ k, k < n → ∀ v, Rep K mg F μ (.cell k) v → Rep K mg F' μ' (.cell k) v) (hf : ∀ k, n ≤ k → ∀ u v, f k = some u → Rep K mg F μ (.cell k) v → Rep K mg F' μ' u v) : ∀ (ws us : List W) (vs : List V), fz0s n f ws = some us → Reps K mg F μ ws vs → Reps K mg F' μ' us vs
  | [], us, vs, h, r => by
    unfold fz0s at h; cases h
    rw [Reps.nil_iff] at r; subst r; exact .nil
  | w :: ws, us, vs, h, r => by
    unfold fz0s at h
    obtain ⟨v, t, rfl, h1, h2⟩ := r.cons_inv
    cases e1 : fz0 n f w with
    | none => rw [e1] at h; cases h
    | some a =>
      cases e2 : fz0s n f ws with
      | none => rw [e1, e2] at h; cases h
      | some b =>
        rw [e1, e2] at h; cases h
        exact .cons (fz0_at l hc hf w a v e1 h1) (fz0s_at l hc hf ws b t e2 h2)
end
end
mutual
/-- with nothing for new cells a value stays what it is -/
theorem fz0_id {n : Nat} : ∀ (w u : W), fz0 n (fun _ => none) w = some u → u = w
  | .non, u, h => by unfold fz0 at h; cases h; rfl
  | .bl b, u, h => by unfold fz0 at h; cases h; rfl
  | .int b, u, h => by unfold fz0 at h; cases h; rfl
  | .str b, u, h => by unfold fz0 at h; cases h; rfl
  | .ty b, u, h => by unfold fz0 at h; cases h; rfl
  | .cls b, u, h => by unfold fz0 at h; cases h; rfl
  | .tup ws, u, h => by
    unfold fz0 at h
    cases e : fz0s n (fun _ => none) ws with
    | none => rw [e] at h; cases h
    | some us => rw [e] at h; cases h; rw [fz0s_id ws us e]
  | .lst ws, u, h => by
    unfold fz0 at h
    cases e : fz0s n (fun _ => none) ws with
    | none => rw [e] at h; cases h
    | some us => rw [e] at h; cases h; rw [fz0s_id ws us e]
  | .tpn ws, u, h => by
    unfold fz0 at h
    cases e : fz0s n (fun _ => none) ws with
    | none => rw [e] at h; cases h
    | some us => rw [e] at h; cases h; rw [fz0s_id ws us e]
  | .ro ws, u, h => by
    unfold fz0 at h
    cases e : fz0s n (fun _ => none) ws with
    | none => rw [e] at h; cases h
    | some us => rw [e] at h; cases h; rw [fz0s_id ws us e]
  | .dct ks ws, u, h => by
    unfold fz0 at h
    cases e : fz0s n (fun _ => none) ws with
    | none => rw [e] at h; cases h
    | some us => rw [e] at h; cases h; rw [fz0s_id ws us e]
  | .ins c ns ws, u, h => by
    unfold fz0 at h
    cases e : fz0s n (fun _ => none) ws with
    | none => rw [e] at h; cases h
    | some us => rw [e] at h; cases h; rw [fz0s_id ws us e]
  | .cell k, u, h => by
    unfold fz0 at h
    split at h
    · cases h; rfl
    · cases h
theorem fz0s_id {n : Nat} : ∀ (ws us : List W), fz0s n (fun _ => none) ws = some us → us = ws
  | [], us, h => by unfold fz0s at h; cases h; rfl
  | w :: ws, us, h => by
    unfold fz0s at h
    cases e1 : fz0 n (fun _ => none) w with
    | none => rw [e1] at h; cases h
    | some a =>
      cases e2 : fz0s n (fun _ => none) ws with
      | none => rw [e1, e2] at h; cases h
      | some b => rw [e1, e2] at h; cases h; rw [fz0_id w a e1, fz0s_id ws b e2]
end
section
variable {K : PySem.W.Frag} {mg : Str → Option Value} {μ : List Addr} {st : Sto} {hid : List Addr} {H : Hp} {n : Nat}
theorem take_get {α : Type} {l : List α} {n k : Nat} {a : α} (h : (l.take n)[k]? = some a) : k < n ∧ l[k]? = some a := by
  rw [List.getElem?_take] at h
  split at h
  · exact ⟨by assumption, h⟩
  · cases h
theorem live_take {a : Addr} (h : LiveA (μ.take n) (st.take n) hid a) : LiveA μ st hid a := by
  rcases h with h | ⟨k, c, h1, h2, h3⟩
  · exact .inl h
  · exact .inr ⟨k, c, (take_get h1).2, (take_get h2).2, h3⟩
theorem fz_take (μ : List Addr) (st : Sto) (hid : List Addr) (H : Hp) (n : Nat) : Le (Fz μ st hid H) (Fz (μ.take n) (st.take n) hid H) := Le.of fun a o h => by
  obtain ⟨h1, h2⟩ := Fz.sub h
  exact Fz.mk h1 fun z => h2 (live_take z)
theorem cell_take {F F' : Hp} : ∀ k, k < n → ∀ v, Rep K mg F μ (.cell k) v → Rep K mg F' (μ.take n) (.cell k) v := fun k hk v r => by
  unfold Rep at r ⊢
  obtain ⟨a, h1, h2⟩ := r
  exact ⟨a, by rw [List.getElem?_take, if_pos hk]; exact h1, h2⟩
/-- the cells from n on are let go -/
theorem StOk.take (k : StOk K mg μ st hid H) (hn : n ≤ st.length) (ho : (st.take n).all (oldW n) = true) : StOk K mg (μ.take n) (st.take n) hid H := by
  refine ⟨by rw [List.length_take, List.length_take, k.len], fun i j a c d h1 h2 h3 h4 h5 h6 => k.inj i j a c d (take_get h1).2 (take_get h2).2 (take_get h3).2 (take_get h4).2 h5 h6, fun i a c h1 h2 h3 => k.hidn i a c (take_get h1).2 (take_get h2).2 h3, k.hidt, fun i a c h1 h2 => ?_⟩
  have q := k.ok i a c (take_get h1).2 (take_get h2).2
  have l := fz_take μ st hid H n
  have old : oldW n c = true := List.all_eq_true.mp ho c (List.mem_of_getElem? h2)
  have go : ∀ {ws : List W} {vs : List V}, (fz0s n (fun _ => none) ws).isSome = true → Reps K mg (Fz μ st hid H) μ ws vs → Reps K mg (Fz (μ.take n) (st.take n) hid H) (μ.take n) ws vs := fun {ws vs} hs r => by
    cases e : fz0s n (fun _ => none) ws with
    | none => rw [e] at hs; cases hs
    | some us =>
      have z := fz0s_id ws us e
      subst z
      exact fz0s_at l cell_take (fun _ _ _ _ z => by cases z) _ _ _ e r
  cases c with
  | lst ws => obtain ⟨vs, e, r⟩ := q; exact ⟨vs, e, go old r⟩
  | dct ks ws => obtain ⟨vs, e, r⟩ := q; exact ⟨vs, e, go old r⟩
  | ins c ns ws => obtain ⟨C, dx, vs, g, l', e, r⟩ := q; exact ⟨C, dx, vs, g, l', e, go old r⟩
  | frz w =>
    have old' : (fz0 n (fun _ => none) w).isSome = true := old
    cases e : fz0 n (fun _ => none) w with
    | none => rw [e] at old'; cases old'
    | some u =>
      have z := fz0_id w u e
      subst z
      exact fz0_at l cell_take (fun _ _ _ _ z => by cases z) _ _ _ e q
  | nct l' wo ks ws =>
    obtain ⟨xs, e, kn, r⟩ := q
    refine ⟨xs, e, ⟨kn.1, fun i k x h1 h2 => ?_⟩, go old r⟩
    obtain ⟨e1, e2⟩ := kn.2 i k x h1 h2
    exact ⟨e1, fz0_at l cell_take (fun _ _ _ _ z => by cases z) _ _ _ (fz0_nkeyM n (fun _ => none) e1) e2⟩
theorem fzc_at (k : StOk K mg μ st hid H) : ∀ (m j : Nat) (u : W) (v : V), n ≤ j → fzc n st m j = some u → Rep K mg (Fz μ st hid H) μ (.cell j) v → Rep K mg (Fz (μ.take n) (st.take n) hid H) (μ.take n) u v := by
  have l := fz_take μ st hid H n
  intro m
  induction m with
  | zero => intro j u v hj h r; cases h
  | succ m ih =>
    intro j u v hj h r
    obtain ⟨a, e1, rfl⟩ := rep_cell_inv r
    have seen : ∀ {c : Cel} {o : HO}, st[j]? = some c → c.live = true → H a = some o → Fz (μ.take n) (st.take n) hid H a = some o := fun {c o} e2 lc e3 => Fz.mk e3 fun z => by
      rcases z with z | ⟨i, d, h1, h2, h3⟩
      · exact k.hidn j a c e1 e2 lc z
      · have q := k.inj i j a d c (take_get h1).2 e1 (take_get h2).2 e2 h3 lc
        have := (take_get h1).1
        omega
    have go : ∀ {ws us : List W} {vs : List V}, fz0s n (fzc n st m) ws = some us → Reps K mg (Fz μ st hid H) μ ws vs → Reps K mg (Fz (μ.take n) (st.take n) hid H) (μ.take n) us vs := fun e r => fz0s_at l cell_take (fun i hi u v e r => ih i u v hi e r) _ _ _ e r
    unfold fzc at h
    split at h
    · rename_i ws e2
      cases e : fz0s n (fzc n st m) ws with
      | none => rw [e] at h; cases h
      | some us =>
        rw [e] at h; cases h
        obtain ⟨vs, h1, h2⟩ := k.ok j a _ e1 e2
        unfold Rep
        exact ⟨a, vs, rfl, seen e2 rfl h1, go e h2⟩
    · rename_i ks ws e2
      cases e : fz0s n (fzc n st m) ws with
      | none => rw [e] at h; cases h
      | some us =>
        rw [e] at h; cases h
        obtain ⟨vs, h1, h2⟩ := k.ok j a _ e1 e2
        obtain ⟨o, h3⟩ := h1.some
        unfold Rep
        exact ⟨a, vs, rfl, h1.at ((seen e2 rfl h3).trans h3.symm), go e h2⟩
    · rename_i c ns ws e2
      cases e : fz0s n (fzc n st m) ws with
      | none => rw [e] at h; cases h
      | some us =>
        rw [e] at h; cases h
        obtain ⟨C, dx, vs, g, ll, h1, h2⟩ := k.ok j a _ e1 e2
        unfold Rep
        exact ⟨a, C, dx, vs, rfl, g, ll, seen e2 rfl h1, go e h2⟩
    · rename_i w e2
      have q := k.ok j a _ e1 e2
      exact fz0_at l cell_take (fun i hi u v e r => ih i u v hi e r) w u _ h q
    · cases h
    · cases h
theorem leave_at {Wx : WX} {μ0 : List Addr} {st0 : Sto} {H0 : Hp} {σ : L2.St} {Q : VK} {w : W} {v : V} (hn : μ0.length = n) (g : Grow hid μ0 st0 H0 μ st H) (k : StOk K mg μ st hid H) (r : Rep K mg (Fz μ st hid H) μ w v) (P : EPost K mg Wx hid μ0 st0 σ H0 Q (leave n w st)) : Q v H := by
  unfold leave at P
  split at P
  · exact P μ H v k g r
  · split at P
    · rename_i u e
      split at P
      · rename_i ho
        obtain ⟨e2, he⟩ := id g.pre
        have hle : n ≤ st.length := by rw [← k.len, he, List.length_append, hn]; omega
        have ht : μ.take n = μ0 := by rw [he, ← hn]; simp
        have l := fz_take μ st hid H n
        refine P (μ.take n) H v (k.take hle ho) ⟨by rw [ht]; exact .refl _, g.le.trans l, g.hid, g.lck⟩ (fz0_at l cell_take (fun i hi u v e r => fzc_at k _ i u v hi e r) w u v e r)
      · exact P.elim
    · exact P.elim
theorem leaveX_at {Wx : WX} {μ0 : List Addr} {st0 : Sto} {H0 : Hp} {σ : L2.St} {Q : VK} {x : Exc} {c : Value} {d : Option Addr} (hn : μ0.length = n) (g : Grow hid μ0 st0 H0 μ st H) (k : StOk K mg μ st hid H) (r : XRep K mg (Fz μ st hid H) μ x c d) (P : EPost K mg Wx hid μ0 st0 σ H0 Q (leaveX n x st)) : Wx c d σ H := by
  unfold leaveX at P
  split at P
  · exact P μ H c d k g r
  · split at P
    · rename_i us e
      split at P
      · rename_i ho
        obtain ⟨e2, he⟩ := id g.pre
        have hle : n ≤ st.length := by rw [← k.len, he, List.length_append, hn]; omega
        have ht : μ.take n = μ0 := by rw [he, ← hn]; simp
        have l := fz_take μ st hid H n
        refine P (μ.take n) H c d (k.take hle ho) ⟨by rw [ht]; exact .refl _, g.le.trans l, g.hid, g.lck⟩ ?_
        obtain ⟨C, h1, h2, h3⟩ := r
        refine ⟨C, h1, h2, ?_⟩
        rcases h3 with h3 | ⟨dx, vs, h3, h4, h5, h6⟩
        · exact .inl h3
        · exact .inr ⟨dx, vs, h3, h4, l.xd h5, fz0s_at l cell_take (fun i hi u v e r => fzc_at k _ i u v hi e r) _ _ _ e h6⟩
      · exact P.elim
    · exact P.elim
end

/-- a way to leave is sound -/
def LvOk (K : PySem.W.Frag) (mg : Str → Option Value) (lv : Nat → W → Sto → Out W) : Prop := ∀ (n : Nat) (hid μ0 μ : List Addr) (st0 st : Sto) (H0 H : Hp) (Wx : WX) (σ : L2.St) (Q : VK) (w : W) (v : V), μ0.length = n → Grow hid μ0 st0 H0 μ st H → StOk K mg μ st hid H → Rep K mg (Fz μ st hid H) μ w v → EPost K mg Wx hid μ0 st0 σ H0 Q (lv n w st) → Q v H
theorem lv_leave {K : PySem.W.Frag} {mg : Str → Option Value} : LvOk K mg leave := fun n hid μ0 μ st0 st H0 H Wx σ Q w v hn g k r P => leave_at hn g k r P
theorem lv_leaveC {K : PySem.W.Frag} {mg : Str → Option Value} : LvOk K mg leaveC := fun n hid μ0 μ st0 st H0 H Wx σ Q w v hn g k r P => by
  unfold leaveC at P
  split at P
  · rename_i j
    split at P
    · rename_i hj
      split at P
      · rename_i c e
        split at P
        · rename_i hc
          obtain ⟨lc, oc, ho⟩ := hc
          obtain ⟨e2, he⟩ := id g.pre
          have hle : n ≤ st.length := by rw [← k.len, he, List.length_append, hn]; omega
          have ht : μ.take n = μ0 := by rw [he, ← hn]; simp
          obtain ⟨a, e1, rfl⟩ := rep_cell_inv r
          have k1 := k.take hle ho
          have l := fz_take μ st hid H n
          have na : ¬ LiveA (μ.take n) (st.take n) hid a := fun z => by
            rcases z with z | ⟨i, d, h1, h2, h3⟩
            · exact k.hidn j a c e1 e lc z
            · have q := k.inj i j a d c (take_get h1).2 e1 (take_get h2).2 e h3 lc
              have := (take_get h1).1
              omega
          have lt : (μ.take n).length = n := by rw [ht]; exact hn
          have ls : (st.take n).length = n := by rw [List.length_take]; omega
          have spl : ∀ {m : Nat} {b : Addr} {d : Cel}, (μ.take n ++ [a])[m]? = some b → (st.take n ++ [c])[m]? = some d → (m < n ∧ μ[m]? = some b ∧ st[m]? = some d ∧ (μ.take n)[m]? = some b ∧ (st.take n)[m]? = some d) ∨ (m = n ∧ b = a ∧ d = c) := fun {m b d} h1 h2 => by
            by_cases z : m < n
            · rw [List.getElem?_append_left (by omega)] at h1 h2
              exact .inl ⟨z, (take_get h1).2, (take_get h2).2, h1, h2⟩
            · by_cases y : m = n
              · subst y
                rw [List.getElem?_append_right (by omega), lt] at h1
                rw [List.getElem?_append_right (by omega), ls] at h2
                simp at h1 h2
                exact .inr ⟨rfl, h1.symm, h2.symm⟩
              · rw [List.getElem?_append_right (by omega), ls, List.getElem?_eq_none (by simp; omega)] at h2
                cases h2
          have lv : ∀ b, LiveA (μ.take n ++ [a]) (st.take n ++ [c]) hid b → b = a ∨ LiveA (μ.take n) (st.take n) hid b := fun b z => by
            rcases z with z | ⟨i, d, h1, h2, h3⟩
            · exact .inr (.inl z)
            · rcases spl h1 h2 with ⟨y1, y2, y3, y4, y5⟩ | ⟨y1, y2, y3⟩
              · exact .inr (.inr ⟨i, d, y4, y5, h3⟩)
              · exact .inl y2
          have lf : ∀ b o, b ≠ a → Fz (μ.take n) (st.take n) hid H b = some o → Fz (μ.take n ++ [a]) (st.take n ++ [c]) hid H b = some o := fun b o hb q => by
            obtain ⟨q1, q2⟩ := Fz.sub q
            exact Fz.mk q1 fun z => (lv b z).elim hb q2
          -- from the whole state: a was live there, so nothing read leans on it
          have lw : Le (Fz μ st hid H) (Fz (μ.take n ++ [a]) (st.take n ++ [c]) hid H) := Le.of fun b o q => by
            obtain ⟨q1, q2⟩ := Fz.sub q
            exact Fz.mk q1 fun z => (lv b z).elim (fun y => q2 (y ▸ .inr ⟨j, c, e1, e, lc⟩)) fun y => q2 (live_take y)
          have cw : ∀ {F : Hp} (i : Nat), i < n → ∀ v, Rep K mg (Fz μ st hid H) μ (.cell i) v → Rep K mg F (μ.take n ++ [a]) (.cell i) v := fun i hi v r => by
            unfold Rep at r ⊢
            obtain ⟨b, h1, h2⟩ := r
            exact ⟨b, by rw [List.getElem?_append_left (by omega), List.getElem?_take, if_pos hi]; exact h1, h2⟩
          have go : ∀ {ws : List W} {vs : List V}, (fz0s n (fun _ => none) ws).isSome = true → Reps K mg (Fz μ st hid H) μ ws vs → Reps K mg (Fz (μ.take n ++ [a]) (st.take n ++ [c]) hid H) (μ.take n ++ [a]) ws vs := fun {ws vs} hs r => by
            cases q : fz0s n (fun _ => none) ws with
            | none => rw [q] at hs; cases hs
            | some us =>
              have z := fz0s_id ws us q
              subst z
              exact fz0s_at lw cw (fun _ _ _ _ z => by cases z) _ _ _ q r
          have cel : ∀ {m : Nat} {b : Addr} {d : Cel}, μ[m]? = some b → st[m]? = some d → oldW n d = true → CelOk K mg (Fz (μ.take n ++ [a]) (st.take n ++ [c]) hid H) (μ.take n ++ [a]) H b d := fun {m b d} h1 h2 old => by
            have q := k.ok m b d h1 h2
            cases d with
            | lst ws => obtain ⟨vs, e, r⟩ := q; exact ⟨vs, e, go old r⟩
            | dct ks ws => obtain ⟨vs, e, r⟩ := q; exact ⟨vs, e, go old r⟩
            | ins c ns ws => obtain ⟨C, dx, vs, g, l', e, r⟩ := q; exact ⟨C, dx, vs, g, l', e, go old r⟩
            | nct l' wo ks ws =>
              obtain ⟨xs, e, kn, r⟩ := q
              refine ⟨xs, e, ⟨kn.1, fun i k x h1 h2 => ?_⟩, go old r⟩
              obtain ⟨e1, e2⟩ := kn.2 i k x h1 h2
              exact ⟨e1, fz0_at lw cw (fun _ _ _ _ z => by cases z) _ _ _ (fz0_nkeyM n (fun _ => none) e1) e2⟩
            | frz w =>
              have old' : (fz0 n (fun _ => none) w).isSome = true := old
              cases y : fz0 n (fun _ => none) w with
              | none => rw [y] at old'; cases old'
              | some u =>
                have z := fz0_id w u y
                subst z
                exact fz0_at lw cw (fun _ _ _ _ z => by cases z) _ _ _ y q
          have oldT : ∀ {m : Nat} {d : Cel}, (st.take n)[m]? = some d → oldW n d = true := fun h => List.all_eq_true.mp ho _ (List.mem_of_getElem? h)
          refine P (μ.take n ++ [a]) H _ ⟨by simp [lt, ls], fun i i2 b d d2 h1 h2 h3 h4 h5 h6 => ?_, fun i b d h1 h2 h3 => ?_, k.hidt, fun i b d h1 h2 => ?_⟩ ⟨by rw [ht]; exact ⟨[a], rfl⟩, g.le.trans lw, g.hid, g.lck⟩ ?_
          · rcases spl h1 h3 with ⟨y1, y2, y3, _, _⟩ | ⟨y1, y2, y3⟩ <;> rcases spl h2 h4 with ⟨z1, z2, z3, _, _⟩ | ⟨z1, z2, z3⟩
            · exact k.inj i i2 b d d2 y2 z2 y3 z3 h5 h6
            · subst z2 z3
              have := k.inj i j b d d2 y2 e1 y3 e h5 h6
              omega
            · subst y2 y3
              have := k.inj i2 j b d2 d z2 e1 z3 e h6 h5
              omega
            · omega
          · rcases spl h1 h2 with ⟨y1, y2, y3, _, _⟩ | ⟨y1, y2, y3⟩
            · exact k.hidn i b d y2 y3 h3
            · subst y2 y3; exact k.hidn j b d e1 e h3
          · rcases spl h1 h2 with ⟨y1, y2, y3, y4, y5⟩ | ⟨y1, y2, y3⟩
            · exact cel y2 y3 (oldT y5)
            · subst y2 y3; exact cel e1 e oc
          · unfold Rep
            exact ⟨a, by rw [List.getElem?_append_right (by omega), lt]; simp, rfl⟩
        · exact P.elim
      · exact P.elim
    · exact P.elim
  · exact P.elim

/-! ## a def keeps what its body says -/
theorem start_get {N : List Str} {vs : List V} {i : Nat} {v : V} (h : vs[i]? = some v) : (L2.start N vs)[i]? = some (some v) := by
  have hi : i < vs.length := by
    rcases Nat.lt_or_ge i vs.length with q | q
    · exact q
    · rw [List.getElem?_eq_none q] at h; cases h
  unfold L2.start
  rw [List.getElem?_append_left (by simpa using hi), List.getElem?_map, h]; rfl
theorem fn_okG {lv : Nat → W → Sto → Out W} {P : Program} {w : World} {K : PySem.W.Frag} {mg : Str → Option Value} {base : Heap} {x qual : Str} {st : Stmt} {f : Addr} {fd : FuncData} {N ps : List Str} {k m n : Nat} {b : SSem} (hlv : LvOk K mg lv) (F : Fun K x qual st f fd) (S : FnScope N ps (defScope st)) (hm : N.length = m := by rfl) (hn : ps.length = n := by rfl)
    (hb : ∀ (cdv : Value) (A : Around) (outer : List Env) (s : Shared) (H : Hp) (E : XK), Ctx (cxOf (L2.CX P w) P w K mg base N qual (defScope st) f cdv A outer s H E) (Wish.of fun c d _ H => E c d H) k → BV (cxOf (L2.CX P w) P w K mg base N qual (defScope st) f cdv A outer s H E) (Wish.of fun c d _ H => E c d H) (defBody st) b) :
    FnOk P w K mg base (L2.CX P w) (k + 1) f fd ps (spF K mg n (mkFnG lv m b)) := by
  refine F.okX S (fun vs H Q E h => ?_) (fun cdv A outer s H vs Q E hr h => ?_)
  · obtain ⟨_, _, _, _, h, _⟩ := h
    rw [h, hn]
  · refine ⟨_, hb cdv A outer s H E ⟨rfl, S.nd, hr, takes_of rfl rfl rfl rfl, passes_of (K := fun e s'' => L2.CX P w outer H s E e s'') rfl⟩, ?_⟩
    obtain ⟨hid, μ, st0, ws, hl, k0, r, P0⟩ := h
    have wl : ws.length = vs.length := r.length
    refine ⟨μ, st0, hid, ws.map some ++ List.replicate (m - ws.length) none, ⟨k0, ?_, fun i u hi => ?_, trivial⟩, ?_⟩
    · unfold L2.start
      simp only [List.length_append, List.length_map, List.length_replicate, wl, hm]
    · by_cases hlt : i < ws.length
      · rw [List.getElem?_append_left (by simpa using hlt), List.getElem?_map] at hi
        cases e : ws[i]? with
        | none => rw [e] at hi; cases hi
        | some u' =>
          rw [e] at hi
          cases hi
          obtain ⟨v, e1, e2⟩ := r.get e
          exact ⟨v, start_get e1, e2⟩
      · rw [List.getElem?_append_right (by simpa using hlt), List.getElem?_replicate] at hi
        split at hi <;> cases hi
    · unfold mkFnG at P0
      cases e : b (ws.map some ++ List.replicate (m - ws.length) none) st0 with
      | bad => rw [e] at P0; exact P0
      | bk f s => rw [e] at P0; exact P0.elim
      | ct f s => rw [e] at P0; exact P0.elim
      | nx f s =>
        rw [e] at P0
        exact fun μ' σ' H' S' g => leave_at k0.len g S'.sto rep_non P0
      | rt u s =>
        rw [e] at P0
        exact fun μ' H' v k' g r' => hlv _ _ _ _ _ _ _ _ _ _ _ _ _ k0.len g k' r' P0
      | er x f s =>
        rw [e] at P0
        exact fun μ' σ' H' c d S' g xr => leaveX_at k0.len g S'.sto xr P0
end SL

namespace SL
open PySem PySem.Spec PyProof.Rows L2

/-! ## a def of the text, by its name -/
structure FnIs (P : Program) (w : World) (K : PySem.W.Frag) (mg : Str → Option Value) (base : Heap) (x : Str) (k n : Nat) (F : Fn) : Prop where
  ex : ∃ (g : Addr) (fd : FuncData) (ps : List Str), FnOk P w K mg base (L2.CX P w) k g fd ps (spF K mg n F) ∧ mg x = some (.ref g) ∧ PySem.W.keepIn K (.ref g) = true ∧ Binds K fd ps []
section
variable {X : Cx} {Wx : Wish}
theorem ev_callI {k j n : Nat} {x : Str} {F : Fn} {e : Expr} {es : List Expr} {f : SemL} {p pos : Pos} (I : FnIs X.prog X.w X.K X.mg X.base x k n F) (C : Ctx X Wx j) (hk : k ≤ j) (ha : AV X Wx (e :: es) f) (ar : ArN n f) (hg : Gl X x := by rfl) (hdb : (x == ("__debug__" : Str)) = false := by decide)
    (he : starEach (e :: es) X.env = (false, eval e X.env) :: starEach es X.env := by rfl) (hpl : (backTo pos (starEach es X.env)).any (·.1) = false := by rfl) : EV X Wx (.Call (.Name x p) (e :: es) [] pos) (eCall F f) := by
  obtain ⟨g, fd, ps, h1, h2, h3, h4⟩ := I.ex
  exact ev_call h1 (C.room.mono hk) h2 h3 h4 C.tk ha ar hg hdb he hpl
/-- {} -/
theorem ev_dict0 {pos : Pos} : EV X Wx (.Dict [] [] pos) (eC (.dct [] [])) := PEm pe_dnewK fun σ H Q ⟨μ, st, hid, fr, S, P⟩ => by
  intro d hd
  refine ok_new (o := .dK []) P S.sto hd fun F l e => ?_
  unfold Rep
  exact ⟨d, [], rfl, ⟨false, .inl [], rfl, rfl, .inl e, (fun _ kk z => nomatch z), fun z => nomatch z⟩, .nil⟩
theorem lkS {K : PySem.W.Frag} {mg : Str → Option Value} {i j : Nat} {x : Exc} {a : Addr} {cls : Value} {d : Option Addr} (h : i ≠ j) (h2 : i ∉ Wx.lock) : i ∉ (Wx.suite K mg (some j) x a cls d).lock := fun z => by
  rcases List.mem_append.mp z with z | z
  · exact h (List.mem_singleton.mp z)
  · exact h2 z
end
/-- the body's own context -/
theorem fn_is {lv : Nat → W → Sto → Out W} {P : Program} {w : World} {K : PySem.W.Frag} {mg : Str → Option Value} {base : Heap} {x qual : Str} {st : Stmt} {f : Addr} {fd : FuncData} {N ps : List Str} {k m n : Nat} {b : SSem} (hlv : LvOk K mg lv) (F : Fun K x qual st f fd) (hx : mg x = some (.ref f)) (hB : Binds K fd ps []) (S : FnScope N ps (defScope st))
    (hb : ∀ (cdv : Value) (A : Around) (outer : List Env) (s : Shared) (H : Hp) (E : XK), Ctx (cxOf (L2.CX P w) P w K mg base N qual (defScope st) f cdv A outer s H E) (Wish.of fun c d _ H => E c d H) k → BV (cxOf (L2.CX P w) P w K mg base N qual (defScope st) f cdv A outer s H E) (Wish.of fun c d _ H => E c d H) (defBody st) b)
    (hm : N.length = m := by rfl) (hn : ps.length = n := by rfl) : FnIs P w K mg base x (k + 1) n (mkFnG lv m b) :=
  ⟨f, fd, ps, fn_okG hlv F S hm hn hb, hx, F.kp, hB⟩
end SL

namespace SL
open PySem PySem.Spec PyProof.Rows L2
section
variable {X : Cx} {Wx : Wish}
theorem ev_blk {k : Nat} {s : Shared} {H : Hp} {scope : Scope} {cenv : Env} {fp : List Addr} {elt : Expr} {e : Sem} (C : Ctx X Wx k) (h : Ctx (X.blk s H scope cenv fp) Wx.blk k → EV (X.blk s H scope cenv fp) Wx.blk elt e) : EV (X.blk s H scope cenv fp) Wx.blk elt e := h (C.blk ..)
theorem pt_blk {k : Nat} {s : Shared} {H : Hp} {scope : Scope} {cenv : Env} {fp : List Addr} {ifs : List Expr} {t : TT} (C : Ctx X Wx k) (h : Ctx (X.blk s H scope cenv fp) Wx.blk k → PTs (X.blk s H scope cenv fp) ifs t) : PTs (X.blk s H scope cenv fp) ifs t := h (C.blk ..)
theorem ev_gI {x : Str} {i : Int} {pos : Pos} (hm : ∃ t, X.mg x = some (.int i t)) (hg : Gl X x := by rfl) (hd : (x == ("__debug__" : Str)) = false := by decide) : EV X Wx (.Name x pos) (eC (.int i)) := by
  obtain ⟨t, h⟩ := hm
  exact ev_globI h hg hd
theorem ev_gS {x : Str} {i : Str} {pos : Pos} (hm : ∃ t, X.mg x = some (.str i t)) (hg : Gl X x := by rfl) (hd : (x == ("__debug__" : Str)) = false := by decide) : EV X Wx (.Name x pos) (eC (.str i)) := by
  obtain ⟨t, h⟩ := hm
  exact ev_globS h hg hd
end
theorem cx_no {P : Program} (w : World) (H : Hp) (s : Shared) (e : Value) (s' : Shared) (z : L2.CX P w [] H s (fun _ _ _ => False) e s') : False := by
  obtain ⟨_, _, _, _, _, _, _, _, _, _, _, _, z⟩ := z
  exact z
theorem ro_reps {K : PySem.W.Frag} {mg : Str → Option Value} {F : Hp} {μ : List Addr} : ∀ ns : List Int, Reps K mg F μ (ns.map W.int) (ns.map V.int)
  | [] => .nil
  | n :: r => .cons rep_int (ro_reps r)
theorem fz_nil {H : Hp} : Fz [] [] [] H = H := by
  funext a
  unfold Fz
  rw [if_neg]
  rintro (h | ⟨k, c, h, _⟩)
  · cases h
  · cases h
theorem spF_of {K : PySem.W.Frag} {mg : Str → Option Value} {F : Fn} {a : Addr} {ns : List Int} {H : Hp} {Q : VK} {E : XK} {st : Sto} (hS : SqL K H a (ns.map V.int)) (e : F [.ro (ns.map W.int)] [] = .ok (.bl true) st) (hq : ∀ H', Q (.bl true) H') : spF K mg 1 F [.ref a] H Q E := by
  refine ⟨[], [], [], [.ro (ns.map W.int)], rfl, ⟨rfl, fun i j a c d h => (nomatch h), fun i a c h => (nomatch h), fun a h => (nomatch h), fun i a c h => (nomatch h)⟩, .cons ?_ .nil, ?_⟩
  · unfold Rep
    exact ⟨a, _, rfl, by rw [fz_nil]; exact hS, ro_reps ns⟩
  · rw [e]
    intro μ' H' v k g r
    cases rep_bl_inv r
    exact hq H'
end SL

namespace SL
open PySem PySem.Spec PyProof.Rows L2
/-! ## instances of own classes -/
def insW (st : Sto) : W → Option (Str × List Str × List W)
  | .ins c ns ws => some (c, ns, ws)
  | .cell k => match st[k]? with
    | some (.ins c ns ws) => some (c, ns, ws)
    | some (.frz (.ins c ns ws)) => some (c, ns, ws)
    | _ => none
  | _ => none
theorem rep_ins_inv {K : PySem.W.Frag} {mg : Str → Option Value} {F : Hp} {μ : List Addr} {c : Str} {ns : List Str} {ws : List W} {v : V} (h : Rep K mg F μ (.ins c ns ws) v) : ∃ a C dx vs, v = .ref a ∧ mg c = some (.ref C) ∧ ns.length = vs.length ∧ F a = some (.ins C dx (ns.zip vs)) ∧ Reps K mg F μ ws vs := by
  unfold Rep at h; exact h
theorem insW_at {K : PySem.W.Frag} {mg : Str → Option Value} {μ : List Addr} {st : Sto} {hid : List Addr} {H : Hp} (s : StOk K mg μ st hid H) {w : W} {c : Str} {ns : List Str} {ws : List W} {v : V} (h : insW st w = some (c, ns, ws)) (r : Rep K mg (Fz μ st hid H) μ w v) :
    ∃ a C dx vs, v = .ref a ∧ mg c = some (.ref C) ∧ ns.length = vs.length ∧ H a = some (.ins C dx (ns.zip vs)) ∧ Reps K mg (Fz μ st hid H) μ ws vs := by
  cases w with
  | ins c' ns' ws' =>
    unfold insW at h; cases h
    obtain ⟨a, C, dx, vs, h1, h2, h3, h4, h5⟩ := rep_ins_inv r
    exact ⟨a, C, dx, vs, h1, h2, h3, (Fz.sub h4).1, h5⟩
  | cell k =>
    unfold insW at h
    simp only at h
    split at h
    · rename_i c' ns' ws' e
      cases h
      obtain ⟨a, e1, e2, C, dx, vs, h1, h2, h3, h4⟩ := s.cell e r
      exact ⟨a, C, dx, vs, e1, h1, h2, h3, h4⟩
    · rename_i c' ns' ws' e
      cases h
      obtain ⟨a, e1, e2, h1⟩ := s.cell e r
      obtain ⟨b, C, dx, vs, e3, h1, h2, h3, h4⟩ := rep_ins_inv h1
      cases e3
      exact ⟨a, C, dx, vs, e1, h1, h2, (Fz.sub h3).1, h4⟩
    · cases h
  | _ => cases h
def FldOk (K : PySem.W.Frag) (mg : Str → Option Value) (cs : List Str) (f : Str) : Prop := ∀ c ∈ cs, ∀ C, mg c = some (.ref C) → Cls K C ∧ NoAttr K C f
theorem fldNil {K : PySem.W.Frag} {mg : Str → Option Value} {f : Str} : FldOk K mg [] f := fun c h => (nomatch h)
theorem fldCons {K : PySem.W.Frag} {mg : Str → Option Value} {c f : Str} {cs : List Str} {C : Addr} (hm : mg c = some (.ref C)) (h : Cls K C) (n : PySem.W.findIn K (.ref C) f = some none) (t : FldOk K mg cs f) : FldOk K mg (c :: cs) f := fun d hd D hD => by
  rcases List.mem_cons.mp hd with rfl | hd
  · rw [hm] at hD; cases hD; exact ⟨h, n⟩
  · exact t d hd D hD
/-- e.n -/
def eFld (cs : List Str) (n : Str) (f : Sem) : Sem := fun fr st => (f fr st).bind fun w st1 => match insW st1 w with
  | some (c, ns, ws) => if cs.contains c = true then (match lkp ns ws n with
    | some u => .ok u st1
    | none => .bad) else .bad
  | none => .bad
def putNs (n : Str) : List Str → List Str
  | [] => [n]
  | m :: r => if m = n then m :: r else m :: putNs n r
def putL {α : Type} (n : Str) (a : α) : List Str → List α → List α
  | [], _ => [a]
  | m :: r, u :: us => if m = n then a :: us else u :: putL n a r us
  | _ :: _, [] => [a]
theorem put_zip {n : Str} {v : V} : ∀ {ns : List Str} {vs : List V}, ns.length = vs.length → putF n v (ns.zip vs) = (putNs n ns).zip (putL n v ns vs) ∧ (putNs n ns).length = (putL n v ns vs).length
  | [], [], _ => ⟨rfl, rfl⟩
  | m :: ns, [], h => by simp at h
  | [], v :: vs, h => by simp at h
  | m :: ns, u :: vs, h => by
    obtain ⟨h1, h2⟩ := put_zip (n := n) (v := v) (ns := ns) (vs := vs) (by simpa using h)
    have hl : ns.length = vs.length := by simpa using h
    unfold putNs putL
    rw [List.zip_cons_cons, putF]
    by_cases e : m = n
    · rw [if_pos e, if_pos e, if_pos e]
      exact ⟨rfl, by simpa using h⟩
    · rw [if_neg e, if_neg e, if_neg e, h1]
      exact ⟨rfl, by simpa using h2⟩
theorem put_reps {K : PySem.W.Frag} {mg : Str → Option Value} {F : Hp} {μ : List Addr} {n : Str} {w : W} {v : V} (rw_ : Rep K mg F μ w v) : ∀ {ns : List Str} {ws : List W} {vs : List V}, Reps K mg F μ ws vs → ns.length = vs.length → Reps K mg F μ (putL n w ns ws) (putL n v ns vs)
  | [], ws, vs, r, h => by
    cases vs with
    | nil => cases ws <;> exact .cons rw_ .nil
    | cons => simp at h
  | m :: ns, [], vs, r, h => by rw [Reps.nil_iff] at r; subst r; simp at h
  | m :: ns, u :: ws, vs, r, h => by
    obtain ⟨x, t, rfl, h1, h2⟩ := r.cons_inv
    unfold putL
    by_cases e : m = n
    · rw [if_pos e, if_pos e]; exact .cons rw_ h2
    · rw [if_neg e, if_neg e]; exact .cons h1 (put_reps rw_ h2 (by simpa using h))
/-- o.n = e, o under construction -/
def sFldS (cs : List Str) (n : Str) (e o : Sem) : SSem := fun fr st => (e fr st).stm fr fun w st1 => (o fr st1).stm fr fun x st2 => match x with
  | .cell k => match st2[k]? with
    | some (.ins c ns ws) => if cs.contains c = true ∧ ns.length < 1000 then .nx fr (st2.set k (.ins c (putNs n ns) (putL n w ns ws))) else .bad
    | _ => .bad
  | _ => .bad
section
variable {X : Cx} {Wx : Wish}
theorem ev_fld {cs : List Str} {n : Str} {e : Expr} {f : Sem} {pos : Pos} (T : FldOk X.K X.mg cs n) (he : EV X Wx e f) (hb : attributeBase e n X.env (eval e X.env) = eval e X.env := by rfl) : EV X Wx (.Attribute e n pos) (eFld cs n f) := PEm (pe_fld he hb) fun σ H Q ⟨μ, st, hid, fr, S, P⟩ => by
  refine ⟨μ, st, hid, fr, S, ?_⟩
  unfold eFld at P
  cases h : f fr st with
  | bad => rw [h] at P; exact P
  | err x s => rw [h] at P; exact P
  | ok w st1 =>
    rw [h, Out.bind_ok] at P
    intro μ1 H1 v k1 g1 r1
    have P1 := EPost.from g1 P
    split at P1
    · rename_i c ns ws e
      split at P1
      · rename_i hc
        obtain ⟨a, C, dx, vs, rfl, hm, hl, ha, rr⟩ := insW_at k1 e r1
        obtain ⟨cl, no⟩ := T c (by simpa using hc) C hm
        split at P1
        · rename_i u eu
          obtain ⟨y, ey, ry⟩ := lkp_at eu rr
          exact ⟨a, C, dx, _, y, rfl, ha, cl, no, ey, P1 μ1 H1 y k1 .refl ry⟩
        · exact P1.elim
      · exact P1.elim
    · exact P1.elim
theorem sv_fld {cs : List Str} {n : Str} {o e : Expr} {fo fe : Sem} {pos pos' : Pos} (T : FldOk X.K X.mg cs n) (he : EV X Wx e fe) (ho : EV X Wx o fo) (hs : swapsWith e (some (.Attribute o n pos')) pos.line X.env = pure false := by rfl) :
    SV X Wx (.Assign [.Attribute o n pos'] e pos) (sFldS cs n fe fo) := PSm (ps_fld ho he hs) fun D σ H ⟨μ, st, hid, fr, S, P⟩ => by
  refine stm_read (t := id) S P fun w st1 μ1 H1 v S1 g1 r1 P1 => ?_
  refine stm_read (t := id) S1 P1 fun x st2 μ2 H2 ov S2 g2 r2 P2 => ?_
  split at P2
  · rename_i k
    split at P2
    · rename_i c ns ws ek
      split at P2
      · rename_i hc
        obtain ⟨a, rfl, h1, C, dx, vs, hm, hl, ha, rr⟩ := S2.sto.cell ek r2
        obtain ⟨cl, no⟩ := T c (by simpa using hc.1) C hm
        obtain ⟨z1, z2⟩ := put_zip (n := n) (v := v) hl
        refine ⟨a, C, dx, _, rfl, ha, cl, no, by rw [List.length_zip, ← hl, Nat.min_self]; exact hc.2, ?_⟩
        obtain ⟨k2, g3⟩ := S2.sto.setCell (c' := .ins c (putNs n ns) (putL n w ns ws)) (o := .ins C dx (putF n v (ns.zip vs))) h1 ek rfl rfl ⟨C, dx, putL n v ns vs, hm, z2, by rw [upd_same, z1], put_reps (Rep.mono g2.le g2.pre _ _ r1) rr hl⟩
        exact P2 μ2 σ _ (S2.next k2 g3) g3
      · exact P2.elim
    · exact P2.elim
  · exact P2.elim
end
/-! ## making -/
structure MkIs (P : Program) (w : World) (K : PySem.W.Frag) (mg : Str → Option Value) (base : Heap) (c : Str) (k n : Nat) (F : Fn) : Prop where
  ex : ∃ (C g : Addr) (fd : FuncData) (ps : List Str), Mk K C g ∧ FnOk P w K mg base (L2.CX P w) k g fd ps (spF K mg (n + 1) F) ∧ mg c = some (.ref C) ∧ Binds K fd ps []
def eMakeG (lv : Nat → W → Sto → Out W) (c : Str) (F : Fn) (f : SemL) : Sem := fun fr st => (f fr st).bind fun ws st1 => match F (.cell st1.length :: ws) (st1 ++ [.ins c [] []]) with
  | .ok .non st2 => lv st1.length (.cell st1.length) st2
  | .err x st2 => leaveX st1.length x st2
  | _ => .bad
abbrev eMake (c : Str) (F : Fn) (f : SemL) : Sem := eMakeG leave c F f
/-- the wish at one state -/
def tMakeS (C : Addr) (sp : Sp) (E : L2.St → XK) (t : TA) : TE := fun σ H Q => t σ H fun us H1 => ∀ x dx, H1 x = none → H1 dx = none → dx ≠ x → sp (V.ref x :: us) (upd (upd H1 dx (.own x)) x (.ins C dx [])) (fun v H2 => v = .non ∧ Q (.ref x) H2) (E σ)
section
variable {X : Cx} {Wx : Wish}
theorem make_run {k : Nat} {C g : Addr} {fd : FuncData} {ps : List Str} {sp : Sp} {E : XK} {pins : List (Addr × Obj)} {σ : L2.St} {H : Hp} {s : Shared} {Q : VK} {us : List Value} {vs : List V} (M : Mk X.K C g) (G : FnOk X.prog X.w X.K X.mg X.base (L2.CX X.prog X.w) k g fd ps sp) (hr : Room (k + 1) X.A) (B : Binds X.K fd ps [])
    (hx : PassesAt (L2.CX X.prog X.w) X σ E) (J : Inv X pins σ H s) (r : Vals vs us) (hq : ∀ x dx, H x = none → H dx = none → dx ≠ x → sp (V.ref x :: vs) (upd (upd H dx (.own x)) x (.ins C dx [])) (fun v H2 => v = .non ∧ Q (.ref x) H2) E) :
    wpAny (model X.prog X.w) X.A (call (.ref C) us) (EP X pins σ Q) X.xe s := by
  have q1 := hq (s.heap.objs.size + 1) s.heap.objs.size (J.hok.fresh (Nat.le_succ _)) (J.hok.fresh (Nat.le_refl _)) (Nat.ne_of_lt (Nat.lt_succ_self _))
  have J2 := Inv.made (C := C) J
  have rr : Vals (V.ref (s.heap.objs.size + 1) :: vs) (Value.ref (s.heap.objs.size + 1) :: us) := .cons rfl r
  have ll : (Value.ref (s.heap.objs.size + 1) :: us).length = ps.length := by
    have z := rr.length
    rw [G.len _ _ _ _ q1] at z
    exact z.symm
  have bb := B { s with heap := (s.heap.push PySem.W.emptyDict).push (PySem.W.instObj C s.heap.objs.size) } (Value.ref (s.heap.objs.size + 1) :: us) J2.kIn (by rw [List.append_nil]; exact ll)
  rw [List.append_nil] at bb
  refine wpAny_call (make_map (f := g) J.kIn M.makes M.init (beq_iff_eq.mp M.fn) (codeAny_mono (G.run _ X.stack _ _ ⟨Value.ref (s.heap.objs.size + 1) :: us, []⟩ (Value.ref (s.heap.objs.size + 1) :: us) _ _ E (hr.make C us [])
    (J2.env0.make C us []) bb rr q1) fun o s' z => ?_))
  cases o with
  | error e => exact hx pins _ _ e s' J2 z
  | ok fl =>
    cases fl with
    | ret u =>
      obtain ⟨v, H', J3, rv, ev, q3⟩ := J2.after z
      subst ev
      exact ⟨rv, ⟨V.ref (s.heap.objs.size + 1), H', J3, rfl, q3⟩⟩
    | next => exact False.elim z
    | brk => exact False.elim z
    | cont => exact False.elim z
theorem pe_makeS {k : Nat} {C g : Addr} {fd : FuncData} {ps : List Str} {sp : Sp} {E : L2.St → XK} {t : TA} {c : Str} {e : Expr} {es : List Expr} {p pos : Pos} (M : Mk X.K C g) (G : FnOk X.prog X.w X.K X.mg X.base (L2.CX X.prog X.w) k g fd ps sp) (hr : Room (k + 1) X.A) (B : Binds X.K fd ps []) (hm : X.mg c = some (.ref C)) (hx : ∀ σ, PassesAt (L2.CX X.prog X.w) X σ (E σ)) (ha : PA X (e :: es) t) (hg : Gl X c)
    (hdb : (c == ("__debug__" : Str)) = false) (he : starEach (e :: es) X.env = (false, eval e X.env) :: starEach es X.env) (hpl : (backTo pos (starEach es X.env)).any (·.1) = false) : PE X (.Call (.Name c p) (e :: es) [] pos) (tMakeS C sp E t) := ⟨fun pins s σ H Q J hq =>
  wpAny_Call_Name_kw (ld_glob J hg hm (PySem.W.callWith_K (h₀ := X.base) J.ok.mod.kin M.kp (thn (ha.run pos pins s σ H _ J hq) fun us s1 ⟨vs, H1, J1, r, q⟩ => ⟨J1.kIn, make_run M G hr B (hx σ) J1 r q⟩) he hpl) hdb)⟩
theorem make_read {lv : Nat → W → Sto → Out W} (hlv : LvOk X.K X.mg lv) {n : Nat} {c : Str} {C : Addr} {F : Fn} {f : SemL} (hm : X.mg c = some (.ref C)) (ar : ArN n f) : ∀ σ H Q, tE X.K X.mg Wx (eMakeG lv c F f) σ H Q → tMakeS C (spF X.K X.mg (n + 1) F) (WE Wx.w) (tA X.K X.mg Wx f) σ H Q := fun σ H Q ⟨μ, st, hid, fr, S, P⟩ => by
  refine ⟨μ, st, hid, fr, S, ?_⟩
  unfold eMakeG at P
  cases h : f fr st with
  | bad => rw [h] at P; exact P
  | err x s => rw [h] at P; exact P
  | ok ws st1 =>
    rw [h, Out.bind_ok] at P
    intro μ1 H1 vs k1 g1 r1 x dx nx nd ne
    have P1 := EPost.from g1 P
    obtain ⟨k2, g2, _⟩ := k1.laid (o := .own x) nd
    obtain ⟨k3, g3⟩ := k2.newCell (c := .ins c [] []) (p := x) (o := .ins C dx []) (by rw [upd_ne (Ne.symm ne)]; exact nx) rfl ⟨C, dx, [], hm, rfl, upd_same, .nil⟩
    have g4 := g2.trans g3
    refine ⟨hid, μ1 ++ [x], st1 ++ [.ins c [] []], .cell st1.length :: ws, by rw [List.length_cons, ← r1.length, ar _ _ _ _ h], k3, .cons ?_ (r1.mono g4.le g4.pre), ?_⟩
    · unfold Rep
      exact ⟨x, by rw [← k1.len]; simp, rfl⟩
    · cases e : F (.cell st1.length :: ws) (st1 ++ [.ins c [] []]) with
      | bad => rw [e] at P1; exact P1
      | err y st2 =>
        rw [e] at P1
        exact fun μ' H' c d k' g' xr => leaveX_at k1.len (g4.trans g') k' xr P1
      | ok u st2 =>
        rw [e] at P1
        intro μ' H' v k' g' rv
        cases u with
        | non =>
          refine ⟨rep_non_inv rv, ?_⟩
          refine hlv st1.length hid μ1 μ' st1 st2 H1 H' Wx.w σ Q (.cell st1.length) (.ref x) k1.len (g4.trans g') k' ?_ P1
          unfold Rep
          exact ⟨x, g'.pre.get (by rw [← k1.len]; simp), rfl⟩
        | _ => exact P1.elim
theorem ev_makeG {lv : Nat → W → Sto → Out W} (hlv : LvOk X.K X.mg lv) {k j n : Nat} {c : Str} {F : Fn} {f : SemL} {e : Expr} {es : List Expr} {p pos : Pos} (I : MkIs X.prog X.w X.K X.mg X.base c k n F) (C : Ctx X Wx j) (hk : k + 1 ≤ j) (ha : AV X Wx (e :: es) f) (ar : ArN n f) (hg : Gl X c := by rfl) (hdb : (c == ("__debug__" : Str)) = false := by decide)
    (he : starEach (e :: es) X.env = (false, eval e X.env) :: starEach es X.env := by rfl) (hpl : (backTo pos (starEach es X.env)).any (·.1) = false := by rfl) : EV X Wx (.Call (.Name c p) (e :: es) [] pos) (eMakeG lv c F f) := by
  obtain ⟨A, g, fd, ps, M, G, hm, B⟩ := I.ex
  exact PEm (pe_makeS M G (C.room.mono hk) B hm (fun σ => passAt C.tk σ) ha hg hdb he hpl) (make_read hlv hm ar)
end
end SL

namespace SL
open PySem PySem.Spec PyProof.Rows L2
/-! ## own classes: isinstance, == -/
structure ClsC (K : PySem.W.Frag) (C : Addr) : Prop where
  cl : Cls K C
  ha : PySem.W.findIn K (.ref C) "__class__" = some (some (.builtin "object.__class__"))
  hn : PySem.W.specialIn K (.builtin "object.__class__") "__get__" = some (some (.builtin "getset_descriptor.__get__"))
  htk : PySem.W.takesIn K (.builtin "object.__class__") = some true
  hm : PySem.W.mroIn K C (.type "object") = some true
  ic : PySem.W.isClsIn K C = true
  ty : PySem.W.typeIn K (.ref C) = some (.type "type")
theorem kit_self {K : PySem.W.Frag} {C : Addr} : PySem.W.kitOne K (.ref C) (.ref C) = some true := by
  unfold PySem.W.kitOne
  rw [if_pos (by simp)]
section
variable {X : Cx} {Wx : Wish}
/-! ### == by an own __eq__ -/
structure EqIs (P : Program) (w : World) (K : PySem.W.Frag) (mg : Str → Option Value) (base : Heap) (c : Str) (k : Nat) (F : Fn) : Prop where
  ex : ∃ (C g : Addr) (fd : FuncData) (ps : List Str), mg c = some (.ref C) ∧ FnOk P w K mg base (L2.CX P w) k g fd ps (spF K mg 2 F) ∧ PySem.W.findIn K (.ref C) "__eq__" = some (some (.ref g)) ∧ PySem.W.isFn K (.ref g) = true ∧ Binds K fd ps []
end
end SL

/-! # sorted of tuples of ints, any number of them -/
namespace SLs
open PySem PySem.Spec PyProof.Rows
section
variable {prog : Program} {w : World} {A : Around} {E : Value → Shared → Prop} {s : Shared}
theorem swo_rank (r : Value → Int) : SrtO.Swo fun v u => decide (r v < r u) := by
  refine ⟨fun x y h => ?_, fun x y z h1 h2 => ?_⟩
  · have := of_decide_eq_true h
    exact decide_eq_false (by omega)
  · have a := of_decide_eq_false h1
    have b := of_decide_eq_false h2
    exact decide_eq_false (by omega)
theorem ints_len {xs : List Value} {ns : List Int} (i : IntsAre xs ns) : xs.length = ns.length := by
  induction i with
  | nil => rfl
  | cons => simp_all
theorem tups_any {a : Addr} {vs : List Value} {d : Nat} {B : Int} (hd : 1 ≤ d) (h2 : 2 ≤ vs.length) (x : TS.TupsOk s.heap d B vs) (r : Value → Int) (hr : ∀ v, v ∈ vs → ∀ ns, TS.TupInts s.heap v ns → r v = TS.code B ns) (ha : ∀ o, s.heap.get? a = some o → o.cls ≠ .type "tuple") :
    SrtO.SortableO prog w A s a vs fun v u => decide (r v < r u) := by
  intro h' keep
  have kp : ∀ b o, s.heap.get? b = some o → o.cls = .type "tuple" → h'.get? b = some o := fun b o e c => keep b o (fun z => by subst z; exact ha o e c) e
  have x' := x.keeps kp
  obtain ⟨fs, k, hl, hi⟩ := TS.firsts_of hd vs x'
  refine ⟨_, fun Q E hq => PySem.W.kat_kind (T := Value.type "int") k (by omega) (fun f hf => ?_) rfl hq, ?_⟩
  · obtain ⟨n, t, rfl⟩ := hi f hf
    exact PySem.W.Looks.of_pure rfl
  · intro p q hm hm'
    obtain ⟨ns0, t0, hn0, hb0⟩ := x _ hm
    obtain ⟨ms0, u0, hn1, hb1⟩ := x _ hm'
    have r1 := hr _ hm _ t0
    have r2 := hr _ hm' _ u0
    obtain ⟨a1, xs, e1, ⟨o1, ho1, hc1, n1, hd1⟩, i1⟩ := t0.keeps kp
    obtain ⟨a2, ys, e2, ⟨o2, ho2, hc2, n2, hd2⟩, i2⟩ := u0.keeps kp
    show wpAny (model prog w) A (keyLt' _ p.1 q.1) (fun z s' => s' = _ ∧ z = decide (r p.1 < r q.1)) (fun _ _ => False) _
    rw [r1, r2, e1, e2]
    refine PySem.W.kat_lt ho1 hd1 ho2 hd2 ?_
    have sz : decide (xs.size < ys.size) = false := by
      have l1 := ints_len i1
      have l2 := ints_len i2
      rw [Array.length_toList] at l1 l2
      exact decide_eq_false (by omega)
    rw [sz]
    exact TS.lex_ints 0 i1 i2 (by omega) hb0 hb1 ⟨rfl, rfl⟩
end
end SLs
namespace SL
open PySem PySem.Spec PyProof.Rows L2
def rSortAny (K : PySem.W.Frag) : List V → Hp → VK → Prop := fun vs H Q => ∃ (a : Addr) (xs : List V) (d : Nat) (B : Int), vs = [V.ref a] ∧ SqL K H a xs ∧ 1 ≤ d ∧ (∀ x ∈ xs, ∃ ns, TupI K H x ns ∧ ns.length = d ∧ TS.Bd B ns) ∧
  ∀ (ys : List V) (p : Addr), ys.Perm xs → ys.Pairwise (fun x y => ∀ n m, TupI K H x n → TupI K H y m → TS.code B n ≤ TS.code B m) → H p = none → Q (.ref p) (upd H p (.lst ys))
section
variable {X : Cx}
theorem cr_sortAny : CallR X (.builtin "sorted") (rSortAny X.K) := by
  intro pins s σ H vs us Q J r hq
  obtain ⟨a, xs, d, B, rfl, hs, hd, hx, q⟩ := hq
  obtain ⟨its, rq, hl, hz⟩ := J.list hs
  rw [Vals.ref1 r]
  obtain ⟨e1, e2⟩ := bkV_refs rq fun x mx => by
    obtain ⟨ks, ⟨t, e, _⟩, _⟩ := hx x mx
    exact ⟨t, e⟩
  have raw : TS.TupsOk s.heap d B its := fun v hv => by
    obtain ⟨t, rfl⟩ := e2 v hv
    have hm : V.ref t ∈ xs := by
      rw [e1]
      exact List.mem_map.mpr ⟨_, hv, rfl⟩
    obtain ⟨ns, ⟨t', e, ht⟩, hn, hb⟩ := hx _ hm
    cases e
    exact ⟨ns, tupI_raw J ht, hn, hb⟩
  refine SrtO.sorted_ord (SLs.swo_rank fun v => TS.code B (TS.intsOf s.heap v)) hl.isList (by rw [← rq.length]; exact hz) (fun h2 h₁ b hb kk => ?_) fun out hs1 hb1 => ?_
  · refine SLs.tups_any (s := { s with heap := h₁ }) hd h2 (raw.keeps fun b o e _ => (kk b o e).2) _ (fun v hv ns t => ?_) fun o e => ?_
    · obtain ⟨ms, t2, _⟩ := raw v hv
      rw [t2.ints, ← t.ints, (t2.keeps fun b o e _ => (kk b o e).2).ints]
    · have e' : some o = some (seqObj "list" its.toArray 0) := e.symm.trans hb
      cases e'
      intro c
      exact absurd (Value.type.inj c) (by decide)
  · obtain ⟨n, hn⟩ := sortedAll_at s.heap its out.toArray
    have h3 : ∀ u ∈ out, ∃ a, u = Value.ref a := fun u hu => e2 u (hb1.perm.mem_iff.mp hu)
    have pm : (out.map bkV).Perm xs := by
      rw [e1]
      exact hb1.perm.map bkV
    have hlen : (out.map bkV).length ≤ sizeLine := by
      rw [pm.length_eq]
      exact hz
    refine ⟨.ref _, upd H (s.heap.objs.size + 1) (.lst (out.map bkV)), J.laid (t' := s.toks) (fun _ _ => sortedAll_old) (Nat.le_succ _) ⟨hlen, out, n, bkV_vals h3, hn⟩, rfl, q _ _ pm ?_ (J.hok.fresh (Nat.le_succ _))⟩
    rw [List.pairwise_map]
    refine List.Pairwise.imp (fun {u v} huv n m k1 k2 => ?_) hs1
    obtain ⟨t, et, ht⟩ := k1
    obtain ⟨t', et', ht'⟩ := k2
    have i1 := (tupI_raw J ht).ints
    have i2 := (tupI_raw J ht').ints
    rw [← bkV_ref et] at i1
    rw [← bkV_ref et'] at i2
    have z := of_decide_eq_false huv
    rw [i1, i2] at z
    omega
end
end SL

/-! # (x,) * n for n = 1 and n <= 0 (for n >= 2 the library has it) -/
namespace SLm
open PySem PySem.Spec PyProof.Rows L2
/-- times one: the tuple itself -/
theorem tup_one (l : Addr) (items : Array Value) (n : Nat) (dd : Option Addr) (sl : Array (Option Value)) (u : Tok) :
    Meets (Builtin.«tuple.__mul__» ⟨[.ref l, .int 1 u], []⟩) (fun _ R s => s.heap.get? l = some { cls := .type "tuple", dict := dd, data := .seq items n, slots := sl } ∧ R (.ok (.ret (Value.ref l))) s) :=
  .of_wp fun prog w A R s h => by
    obtain ⟨hp, g, d, tk, os⟩ := s
    obtain ⟨hl, h⟩ := h
    have f1 := AutoSeq1.idx_int
    have c1 : (items.isEmpty || (1 : Int) == 1) = true := by simp
    wp_walk using wpAny_loadPart' hl
    repeat (first
      | (refine wpAny_ite_false (decide_eq_false (by decide)) ?_; wp_walk using wpAny_loadPart' hl)
      | (refine wpAny_ite_true (decide_eq_true (by exact c1)) ?_; wp_walk using wpAny_loadPart' hl))
    exact ⟨_, rfl, h⟩
/-- times nothing: a new empty tuple -/
theorem tup_none (l : Addr) (items : Array Value) (n : Nat) (dd : Option Addr) (sl : Array (Option Value)) (x : Int) (u : Tok) (c0 : (decide (x < -(2 ^ 63)) || decide (x ≥ 2 ^ 63)) = false) (c1 : x ≤ 0) (c3 : items.isEmpty = false) :
    Meets (Builtin.«tuple.__mul__» ⟨[.ref l, .int x u], []⟩) (fun _ R s => s.heap.get? l = some { cls := .type "tuple", dict := dd, data := .seq items n, slots := sl } ∧
      R (.ok (.ret (Value.ref s.heap.objs.size))) { s with heap := s.heap.push { cls := Value.type "tuple", data := Data.seq #[] }, toks := s.toks }) :=
  .of_wp fun prog w A R s h => by
    obtain ⟨hp, g, d, tk, os⟩ := s
    obtain ⟨hl, h⟩ := h
    have f1 := AutoSeq1.idx_int
    have k1 : (items.isEmpty || x == 1) = false := by
      rw [c3, Bool.false_or]
      exact beq_eq_false_iff_ne.mpr (by omega)
    have k2 : (decide (x ≤ 0) || items.isEmpty) = true := by
      rw [decide_eq_true c1]; rfl
    wp_walk using wpAny_loadPart' hl
    repeat (first
      | (refine wpAny_ite_false (decide_eq_false (by rw [c0]; exact Bool.false_ne_true)) ?_; wp_walk using wpAny_loadPart' hl)
      | (refine wpAny_ite_false (decide_eq_false (by rw [k1]; exact Bool.false_ne_true)) ?_; wp_walk using wpAny_loadPart' hl)
      | (refine wpAny_ite_true (decide_eq_true (by exact k2)) ?_; wp_walk using wpAny_loadPart' hl))
    exact ⟨_, rfl, h⟩
end SLm
namespace SL
open PySem PySem.Spec PyProof.Rows L2
def rRepFew (K : PySem.W.Frag) : R2 := fun x y H Q => ∃ l k xs, x = .ref l ∧ y = .int k ∧ SqT K H l xs ∧ xs ≠ [] ∧ -1000 ≤ k ∧ k ≤ 1 ∧ (k = 1 → Q (.ref l) H) ∧ (k ≤ 0 → ∀ p, H p = none → Q (.ref p) (upd H p (.tup [])))
section
variable {X : Cx}
theorem op_repFew : OpR X (binaryOp .Mult) (rRepFew X.K) := by
  intro pins s σ H x y v u Q J rx ry hq
  obtain ⟨l, k, xs, rfl, rfl, hT, hne, b1, b2, q1, q0⟩ := hq
  cases rx
  obtain ⟨t, rfl⟩ := ry
  obtain ⟨its, r, ⟨⟨cls, dd, data, sl⟩, ho, hc, n, hd⟩, hs⟩ := J.tuple hT
  simp only at hc hd
  subst hc hd
  have em : its.toArray.isEmpty = false := by
    cases its with
    | nil => exact absurd (List.eq_nil_of_length_eq_zero r.length) hne
    | cons a b => rfl
  have rest : ∀ (R : Value → Shared → Prop), (call (.builtin "tuple.__mul__") [.ref l, .int k t] |> fun m => wpAny (model X.prog X.w) X.A m R X.xe s) → wpAny (model X.prog X.w) X.A (binaryOp .Mult (.ref l) (.int k t)) R X.xe s := fun R hm =>
    wpAny_binaryOp_repeat_ref (T := "tuple") (U := "int") (by decide) ⟨_, ho, rfl⟩ (fun s' => typeIs_int s' k t) noFill_tuple_mul F.fills_int_mul F.slot_int_rmul repeat_tuple F.slot_int_index.lookup
      (call_meets F.slot_int_rmul (typeIs_int s k t) F.entry_int_rmul (F.args_int_rmul_2 _ _) (int_rmul_tuple k t l its.toArray n dd sl) ⟨ho, rfl, ⟨_, ho, rfl⟩, hm⟩)
  refine rest _ ?_
  by_cases h1 : k = 1
  · subst h1
    exact call_meets F.slot_tuple_mul ⟨_, ho, rfl⟩ F.entry_tuple_mul (F.args_tuple_mul_2 _ _) (SLm.tup_one l its.toArray n dd sl t) ⟨ho, .ref l, H, J, rfl, q1 rfl⟩
  · have h0 : k ≤ 0 := by omega
    have c0 : (decide (k < -(2 ^ 63)) || decide (k ≥ 2 ^ 63)) = false := by
      rw [decide_eq_false (by omega), decide_eq_false (by omega)] <;> rfl
    refine call_meets F.slot_tuple_mul ⟨_, ho, rfl⟩ F.entry_tuple_mul (F.args_tuple_mul_2 _ _) (SLm.tup_none l its.toArray n dd sl k t c0 h0 em) ⟨ho, ?_⟩
    refine ⟨.ref s.heap.objs.size, _, J.laid (t' := s.toks) (o := .tup []) (fun b ob q => Heap.get?_push_of_some _ q) (Nat.le_refl _) ?_, rfl, q0 h0 _ (J.hok.fresh (Nat.le_refl _))⟩
    exact ⟨Nat.zero_le _, [], .nil, IsTup.new _ _⟩
/-- ints; a tuple so many times -/
noncomputable def oMulX : Op2 := fun x y st => match x, y with
  | .tup ws, .int k => if ws = [] then .bad else if dec (-1000 ≤ k ∧ k ≤ 1000 ∧ ws.length ≤ 1000) = true then .ok (.tup (List.replicate k.toNat ws).flatten) st else .bad
  | x, y => oMul x y st
def rMulX (K : PySem.W.Frag) : R2 := fun x y H Q => rMulAll x y H Q ∨ rRepT K x y H Q ∨ rRepFew K x y H Q
theorem or_mulX : OpR X (binaryOp .Mult) (rMulX X.K) := or_mul.or (op_repT.or op_repFew)
theorem reps_rep {K : PySem.W.Frag} {mg : Str → Option Value} {F : Hp} {μ : List Addr} {ws : List W} {vs : List V} (r : Reps K mg F μ ws vs) : ∀ m : Nat, Reps K mg F μ (List.replicate m ws).flatten (List.replicate m vs).flatten
  | 0 => .nil
  | m + 1 => by
    rw [List.replicate_succ, List.replicate_succ, List.flatten_cons, List.flatten_cons]
    exact r.append (reps_rep r m)
theorem os_mulX : Op2S X oMulX (rMulX X.K) := by
  intro Wx hid μ st σ H Q w u x y k rx ry P
  unfold oMulX at P
  split at P
  · rename_i ws m
    cases rep_int_inv ry
    split at P
    · exact P.elim
    · rename_i hne
      split at P
      · rename_i hg
        obtain ⟨g1, g2, g3⟩ := dec_of hg
        obtain ⟨a, vs, rfl, h1, h2⟩ := rep_tup_inv rx
        have hl := h2.length
        have hv : vs ≠ [] := fun z => by
          rw [z] at hl
          exact hne (List.eq_nil_of_length_eq_zero hl)
        by_cases hm : 2 ≤ m
        · exact .inr (.inl ⟨a, m, vs, rfl, rfl, h1.fz, hv, hm, g2, by rw [← hl]; exact g3, fun p hp => ok_new P k hp fun F l e => rep_tup e (reps_rep (h2.mono l (.refl _)) _)⟩)
        · refine .inr (.inr ⟨a, m, vs, rfl, rfl, h1.fz, hv, g1, by omega, fun e => ?_, fun e p hp => ?_⟩)
          · subst e
            have z : (List.replicate (1 : Int).toNat ws).flatten = ws := by simp
            rw [z] at P
            exact P μ H _ k .refl rx
          · have z : (List.replicate m.toNat ws).flatten = [] := by
              have : m.toNat = 0 := by omega
              rw [this]; rfl
            rw [z] at P
            exact ok_new P k hp fun F l e => rep_tup e .nil
      · exact P.elim
  · exact .inl (os_mul _ hid μ st σ H Q _ _ _ _ k rx ry P)
/-! ## sorted -/
def tupsI : List W → Option (List (List Int))
  | [] => some []
  | .tup ws :: r => match intsW ws, tupsI r with
    | some n, some l => some (n :: l)
    | _, _ => none
  | _ => none
def lexLt : List Int → List Int → Bool
  | [], [] => false
  | [], _ :: _ => true
  | _ :: _, [] => false
  | a :: l, b :: m => if a = b then lexLt l m else decide (a < b)
def sortT (L : List (List Int)) : List (List Int) := L.mergeSort fun a b => !lexLt b a
noncomputable def oSortT : OpN := fun ws st => match ws with
  | [x] => match (lstW st x).bind tupsI with
    | some L => if dec (∃ (d : Nat) (B : Int), 1 ≤ d ∧ ∀ l ∈ L, l.length = d ∧ TS.Bd B l) = true then .ok (.lst ((sortT L).map fun l => .tup (l.map .int))) st else .bad
    | none => .bad
  | _ => .bad
theorem lex_code {B : Int} : ∀ {a b : List Int}, a.length = b.length → TS.Bd B a → TS.Bd B b → lexLt a b = decide (TS.code B a < TS.code B b)
  | [], [], _, _, _ => (decide_eq_false (Int.lt_irrefl _)).symm
  | [], _ :: _, h, _, _ => by simp at h
  | _ :: _, [], h, _, _ => by simp at h
  | p :: l, q :: m, h, h1, h2 => by
    have hl : l.length = m.length := by simpa using h
    unfold lexLt
    by_cases e : p = q
    · subst e
      rw [if_pos rfl, lex_code hl h1.tail h2.tail]
      exact decide_eq_decide.mpr (TS.code_same hl).symm
    · rw [if_neg e]
      refine decide_eq_decide.mpr ⟨fun x => TS.code_lt hl h1.tail h2.tail x, fun x => ?_⟩
      rcases Int.lt_trichotomy p q with y | y | y
      · exact y
      · exact absurd y e
      · have := TS.code_lt hl.symm h2.tail h1.tail y
        omega
theorem lex_tri : ∀ {a b : List Int}, a.length = b.length → lexLt a b = false → lexLt b a = false → a = b
  | [], [], _, _, _ => rfl
  | [], _ :: _, h, _, _ => by simp at h
  | _ :: _, [], h, _, _ => by simp at h
  | p :: l, q :: m, h, h1, h2 => by
    unfold lexLt at h1 h2
    by_cases e : p = q
    · subst e
      rw [if_pos rfl] at h1 h2
      rw [lex_tri (by simpa using h) h1 h2]
    · rw [if_neg e] at h1
      rw [if_neg (Ne.symm e)] at h2
      have a := of_decide_eq_false h1
      have b := of_decide_eq_false h2
      exact absurd (by omega) e
theorem lex_asym : ∀ (a b : List Int), lexLt a b = false ∨ lexLt b a = false
  | [], [] => .inl rfl
  | [], _ :: _ => .inr rfl
  | _ :: _, [] => .inl rfl
  | p :: l, q :: m => by
    unfold lexLt
    by_cases e : p = q
    · subst e
      rw [if_pos rfl, if_pos rfl]
      exact lex_asym l m
    · rw [if_neg e, if_neg (Ne.symm e)]
      rcases Int.lt_or_gt_of_ne e with h | h
      · exact .inr (decide_eq_false (by omega))
      · exact .inl (decide_eq_false (by omega))
theorem lex_trans : ∀ (a b c : List Int), lexLt b a = false → lexLt c b = false → lexLt c a = false
  | [], b, [], _, _ => rfl
  | [], [], _ :: _, _, _ => rfl
  | [], _ :: _, _ :: _, _, _ => rfl
  | _ :: _, [], _, h, _ => by unfold lexLt at h; cases h
  | _ :: _, _ :: _, [], _, h => by unfold lexLt at h; cases h
  | p :: l, q :: m, r :: n, h1, h2 => by
    unfold lexLt at h1 h2 ⊢
    by_cases e1 : q = p
    · subst e1
      rw [if_pos rfl] at h1
      by_cases e2 : r = q
      · subst e2
        rw [if_pos rfl] at h2 ⊢
        exact lex_trans l m n h1 h2
      · rw [if_neg e2] at h2 ⊢
        exact h2
    · rw [if_neg e1] at h1
      have a := of_decide_eq_false h1
      by_cases e2 : r = q
      · subst e2
        rw [if_neg e1]
        exact h1
      · rw [if_neg e2] at h2
        have b := of_decide_eq_false h2
        rw [if_neg (by omega)]
        exact decide_eq_false (by omega)
/-- there is one sorted order -/
theorem one_order {α : Type} {R : α → α → Prop} : ∀ {l m : List α}, l.Perm m → l.Pairwise R → m.Pairwise R → (∀ a ∈ l, ∀ b ∈ l, R a b → R b a → a = b) → l = m
  | [], m, p, _, _, _ => by rw [p.symm.eq_nil]
  | a :: l, [], p, _, _, _ => by exact absurd p.eq_nil (by simp)
  | a :: l, b :: m, p, h1, h2, h => by
    have ha : a ∈ b :: m := p.mem_iff.mp List.mem_cons_self
    have hb : b ∈ a :: l := p.mem_iff.mpr List.mem_cons_self
    have e : a = b := by
      rcases List.mem_cons.mp ha with e | ha'
      · exact e
      · rcases List.mem_cons.mp hb with e | hb'
        · exact e.symm
        · exact h a List.mem_cons_self b hb ((List.pairwise_cons.mp h1).1 b hb') ((List.pairwise_cons.mp h2).1 a ha')
    subst e
    rw [one_order (List.Perm.cons_inv p) (List.pairwise_cons.mp h1).2 (List.pairwise_cons.mp h2).2 fun x hx y hy => h x (List.mem_cons_of_mem _ hx) y (List.mem_cons_of_mem _ hy)]
end
end SL

namespace SL
open PySem PySem.Spec PyProof.Rows L2
/-! ## sorted, sound -/
section
variable {K : PySem.W.Frag} {mg : Str → Option Value} {F : Hp} {μ : List Addr}
def tupOf (l : List Int) : W := .tup (l.map .int)
theorem intsW_eq : ∀ {ws : List W} {ns : List Int}, intsW ws = some ns → ws = ns.map .int
  | [], ns, h => by unfold intsW at h; cases h; rfl
  | .int b :: ws, ns, h => by
    unfold intsW at h
    cases e : intsW ws with
    | none => rw [e] at h; cases h
    | some ms => rw [e] at h; cases h; rw [intsW_eq e]; rfl
  | .non :: _, _, h | .ty _ :: _, _, h | .bl _ :: _, _, h | .str _ :: _, _, h | .tup _ :: _, _, h | .lst _ :: _, _, h | .dct _ _ :: _, _, h | .ins _ _ _ :: _, _, h | .cell _ :: _, _, h | .ro _ :: _, _, h | .tpn _ :: _, _, h | .cls _ :: _, _, h => by unfold intsW at h; cases h
theorem tupsI_eq : ∀ {ws : List W} {L : List (List Int)}, tupsI ws = some L → ws = L.map tupOf
  | [], L, h => by unfold tupsI at h; cases h; rfl
  | .tup us :: ws, L, h => by
    unfold tupsI at h
    cases e1 : intsW us with
    | none => rw [e1] at h; cases h
    | some n =>
      cases e2 : tupsI ws with
      | none => rw [e1, e2] at h; cases h
      | some l =>
        rw [e1, e2] at h; cases h
        rw [intsW_eq e1, tupsI_eq e2]; rfl
  | .non :: _, _, h | .ty _ :: _, _, h | .bl _ :: _, _, h | .str _ :: _, _, h | .int _ :: _, _, h | .lst _ :: _, _, h | .dct _ _ :: _, _, h | .ins _ _ _ :: _, _, h | .cell _ :: _, _, h | .ro _ :: _, _, h | .tpn _ :: _, _, h | .cls _ :: _, _, h => by unfold tupsI at h; cases h
theorem reps_ints : ∀ {ns : List Int} {vs : List V}, Reps K mg F μ (ns.map .int) vs → vs = ns.map .int
  | [], vs, h => by rw [List.map_nil, Reps.nil_iff] at h; exact h
  | n :: ns, vs, h => by
    obtain ⟨v, t, rfl, h1, h2⟩ := h.cons_inv
    rw [rep_int_inv h1, reps_ints h2]; rfl
/-- another order of the values: another order of what they stand for -/
theorem reps_perm {α : Type} {f : α → W} {xs ys : List V} (p : ys.Perm xs) : ∀ {L : List α}, Reps K mg F μ (L.map f) xs → ∃ M : List α, M.Perm L ∧ Reps K mg F μ (M.map f) ys := by
  induction p with
  | nil => intro L r; exact ⟨L, .refl _, r⟩
  | cons x _ ih =>
    intro L r
    cases L with
    | nil => rw [List.map_nil, Reps.nil_iff] at r; cases r
    | cons a L =>
      obtain ⟨v, t, e, h1, h2⟩ := r.cons_inv
      cases e
      obtain ⟨M, h3, h4⟩ := ih h2
      exact ⟨a :: M, h3.cons a, .cons h1 h4⟩
  | swap x y l =>
    intro L r
    match L, r with
    | [], r => rw [List.map_nil, Reps.nil_iff] at r; cases r
    | [a], r =>
      obtain ⟨v, t, e, h1, h2⟩ := r.cons_inv
      cases e
      rw [List.map_nil, Reps.nil_iff] at h2; cases h2
    | a :: b :: L, r =>
      obtain ⟨v, t, e, h1, h2⟩ := r.cons_inv
      cases e
      obtain ⟨v2, t2, e2, h3, h4⟩ := h2.cons_inv
      cases e2
      exact ⟨b :: a :: L, .swap a b L, .cons h3 (.cons h1 h4)⟩
  | trans _ _ ih1 ih2 =>
    intro L r
    obtain ⟨M, h1, h2⟩ := ih2 r
    obtain ⟨N, h3, h4⟩ := ih1 h2
    exact ⟨N, h3.trans h1, h4⟩
theorem pair_of {α : Type} {f : α → W} {R : V → V → Prop} {S : α → α → Prop} {ys : List V} (hp : ys.Pairwise R) : ∀ {M : List α}, Reps K mg F μ (M.map f) ys → (∀ a ∈ M, ∀ b ∈ M, ∀ v u, Rep K mg F μ (f a) v → Rep K mg F μ (f b) u → R v u → S a b) → M.Pairwise S := by
  induction hp with
  | nil =>
    intro M r _
    cases M with
    | nil => exact .nil
    | cons a M => have := r.length; simp at this
  | @cons v ys h _ ih =>
    intro M r hs
    cases M with
    | nil => have := r.length; simp at this
    | cons a M =>
      obtain ⟨v', t, e, h1, h2⟩ := r.cons_inv
      cases e
      refine .cons (fun b hb => ?_) (ih h2 fun a ha b hb => hs a (List.mem_cons_of_mem _ ha) b (List.mem_cons_of_mem _ hb))
      obtain ⟨i, hi, rfl⟩ := List.mem_iff_getElem.mp hb
      obtain ⟨u, e1, e2⟩ := h2.get (i := i) (w := f M[i]) (by simp [hi])
      exact hs a List.mem_cons_self _ (List.mem_cons_of_mem _ (List.getElem_mem hi)) v u h1 e2 (h u (List.mem_of_getElem? e1))
end
section
variable {X : Cx}
theorem tup_I {K : PySem.W.Frag} {mg : Str → Option Value} {H : Hp} {hid μ : List Addr} {st : Sto} {l : List Int} {v : V} (r : Rep K mg (Fz μ st hid H) μ (tupOf l) v) : TupI K H v l := by
  obtain ⟨a, vs, rfl, h1, h2⟩ := rep_tup_inv r
  rw [reps_ints h2] at h1
  exact ⟨a, rfl, h1.fz⟩
theorem os_sortT : OpNS X oSortT (rSortAny X.K) := by
  intro Wx hid μ st σ H Q ws vs k r P
  unfold oSortT at P
  split at P
  · rename_i x
    obtain ⟨v, rfl, r1⟩ := reps1 (ws := []) r
    split at P
    · rename_i L e
      split at P
      · rename_i hg
        obtain ⟨d, B, hd, hL⟩ := dec_of hg
        cases e1 : lstW st x with
        | none => rw [e1] at e; cases e
        | some us =>
          rw [e1] at e
          obtain ⟨a, xs, rfl, h1, h2⟩ := lstW_at k e1 r1
          rw [tupsI_eq e] at h2
          refine ⟨a, xs, d, B, rfl, h1, hd, fun y hy => ?_, fun ys p pm sr hp => ?_⟩
          · obtain ⟨i, hi⟩ := List.getElem?_of_mem hy
            obtain ⟨w, g1, g2⟩ := h2.get' hi
            rw [List.getElem?_map] at g1
            obtain ⟨l, g3, rfl⟩ := Option.map_eq_some_iff.mp g1
            exact ⟨l, tup_I g2, hL l (List.mem_of_getElem? g3)⟩
          · obtain ⟨M, pM, rM⟩ := reps_perm pm h2
            have hM : ∀ l ∈ M, l.length = d ∧ TS.Bd B l := fun l hl => hL l (pM.mem_iff.mp hl)
            have s1 : M.Pairwise fun a b => (!lexLt b a) = true := pair_of sr rM fun a ha b hb v u hv hu hc => by
              have z := hc a b (tup_I hv) (tup_I hu)
              rw [lex_code (by rw [(hM a ha).1, (hM b hb).1]) (hM b hb).2 (hM a ha).2]
              simp
              omega
            have s2 : (sortT L).Pairwise fun a b => (!lexLt b a) = true := by
              refine List.pairwise_mergeSort (le := fun a b => !lexLt b a) (fun a b c h1 h2 => ?_) (fun a b => ?_) L
              · simp at h1 h2 ⊢
                exact lex_trans a b c h1 h2
              · rcases lex_asym a b with h | h <;> simp [h]
            have e2 : M = sortT L := one_order (pM.trans (List.mergeSort_perm L _).symm) s1 s2 fun a ha b hb h1 h2 => lex_tri (by rw [(hM a ha).1, (hM b hb).1]) (by simpa using h2) (by simpa using h1)
            rw [e2] at rM
            exact ok_new P k hp fun F l e => rep_lst e (rM.mono l (.refl _))
      · exact P.elim
    · exact P.elim
  · exact P.elim
end
end SL

/-! # sum of a tuple of ints -/
namespace SLt
open PySem PySem.Spec PyProof.Rows
section
variable {prog : Program} {w : World} {A : Around} {E : Value → Shared → Prop} {s : Shared}
end
end SLt
namespace SL
open PySem PySem.Spec PyProof.Rows L2
section
variable {X : Cx}
/-! ## list(x), that is to change -/
end
end SL

namespace SL
open PySem PySem.Spec PyProof.Rows L2
/-! # more of lists: extend by a list, pop; max and min -/
section
variable {X : Cx}
end
end SL

namespace SLx
open PySem PySem.AutoSeq1
end SLx
namespace SL
open PySem PySem.Spec PyProof.Rows L2
/-! # extend by a tuple -/
section
variable {X : Cx}
end
end SL

/-! # max, min of a tuple of ints -/
namespace SLt
open PySem PySem.Spec PyProof.Rows
section
variable {prog : Program} {w : World} {A : Around} {E : Value → Shared → Prop} {s : Shared}
end
end SLt
namespace SL
open PySem PySem.Spec PyProof.Rows L2
section
variable {X : Cx}
end
end SL

namespace SL
open PySem PySem.Spec PyProof.Rows L2
/-! # max(x), min(x), x a list or a tuple of ints -/
open Classical in
section
variable {X : Cx}
end
end SL

namespace SL
open PySem PySem.Spec PyProof.Rows L2
/-! ## != of own instances: object.__ne__ asks the own __eq__ -/
section
variable {prog : Program} {w : World} {A : Around} {E : Value → Shared → Prop} {s : Shared} {K : PySem.W.Frag} {x y C f : Addr} {ox oy : Obj} {od od2 : Option Obj}
end
structure NeIs (K : PySem.W.Frag) (mg : Str → Option Value) (c : Str) : Prop where
  ex : ∃ C : Addr, mg c = some (.ref C) ∧ PySem.W.findIn K (.ref C) "__ne__" = some (some (.builtin "object.__ne__")) ∧ PySem.W.mroIn K C (.type "object") = some true
section
variable {X : Cx} {Wx : Wish}
end
end SL

/-! # sorted of a tuple of ints; a list, times an int -/
namespace SLs
open PySem PySem.Spec PyProof.Rows Srt SrtO
section
variable {prog : Program} {w : World} {A : Around} {E : Value → Shared → Prop} {s : Shared}
end
end SLs
namespace SL
open PySem PySem.Spec PyProof.Rows L2
section
variable {X : Cx}
end
end SL

namespace SL
open PySem PySem.Spec PyProof.Rows L2
/-! ## a, b = a list or a tuple -/
section
variable {X : Cx} {Wx : Wish}
end
end SL

/-! # enumerate of a tuple -/
namespace SLe
open PySem Builtin
open AutoSeq1 (wpAny_loadPart')
section
variable {prog : Program} {w : World} {A : Around} {E : Value → Shared → Prop} {s : Shared}
end
end SLe
namespace SLe
open PySem PySem.Spec PyProof.Rows L2
end SLe
namespace SL
open PySem PySem.Spec PyProof.Rows L2
section
variable {X : Cx} {Wx : Wish}
end
end SL

namespace SL
open PySem PySem.Spec PyProof.Rows L2
/-! ## own exceptions with two fields -/
def spI2 (C : Addr) (f1 f2 : Str) : Sp := fun vs H Q _ => ∃ a y z, vs = [.ref a, y, z] ∧ H a = some (exo a C none) ∧ ∀ dx, H dx = none → dx ≠ a → Q .non (upd (upd (upd H dx (exd dx [(f1, y)])) a (exo a C (some dx))) dx (exd dx [(f2, z), (f1, y)]))
structure Exc2 (P : Program) (w : World) (K : PySem.W.Frag) (mg : Str → Option Value) (base : Heap) (c f1 f2 : Str) : Prop where
  ex : ∃ (C fI : Addr) (fd : FuncData) (x y : Str), OexC K C ∧ PySem.W.findIn K (.ref C) "__init__" = some (some (.ref fI)) ∧ PySem.W.typeIn K (.ref fI) = some (.type "function") ∧ FnOk P w K mg base (L2.CX P w) 1 fI fd ["self", x, y] (spI2 C f1 f2) ∧ Binds K fd ["self", x, y] [] ∧ mg c = some (.ref C)
section
variable {X : Cx} {Wx : Wish}
end
end SL

namespace SL
open PySem PySem.Spec PyProof.Rows L2
/-! # dicts whose keys are ints and texts -/
theorem mapO_snoc {α β : Type} {f : α → Option β} : ∀ {l : List α} {m : List β} {a : α} {b : β}, mapO f l = some m → f a = some b → mapO f (l ++ [a]) = some (m ++ [b])
  | [], m, a, b, h, h2 => by
    unfold mapO at h; cases h
    show (match f a, mapO f [] with | some b, some bs => some (b :: bs) | _, _ => none) = _
    rw [h2]; rfl
  | c :: l, m, a, b, h, h2 => by
    unfold mapO at h
    cases e1 : f c with
    | none => rw [e1] at h; cases h
    | some d =>
      cases e2 : mapO f l with
      | none => rw [e1, e2] at h; cases h
      | some bs =>
        rw [e1, e2] at h; cases h
        show (match f c, mapO f (l ++ [a]) with | some b, some bs => some (b :: bs) | _, _ => none) = _
        rw [e1, mapO_snoc e2 h2]; rfl
theorem kind_plain {ks : List W} {kk : List Key} (h : mapO keyW ks = some kk) : kindW ks = some (false, .inl kk) := by
  cases ks with
  | nil => unfold mapO at h; cases h; rfl
  | cons w ks =>
    have z : ∀ t, w ≠ .ty t := fun t e => by
      subst e
      have : mapO keyW (.ty t :: ks) = none := rfl
      rw [this] at h; cases h
    cases w with
    | ty t => exact absurd rfl (z t)
    | int i =>
      show (mapO keyW (.int i :: ks)).map _ = _
      rw [h]; rfl
    | str i =>
      show (mapO keyW (.str i :: ks)).map _ = _
      rw [h]; rfl
    | _ => exact nomatch h
section
variable {K : PySem.W.Frag} {mg : Str → Option Value} {F : Hp} {μ : List Addr}
theorem key_rep {w : W} {k : Key} {v : V} (h : keyW w = some k) (r : Rep K mg F μ w v) : v = kV k := by
  cases w with
  | int i => unfold keyW at h; cases h; exact rep_int_inv r
  | str i => unfold keyW at h; cases h; exact rep_str_inv r
  | _ => cases h
end
/-! ## reading -/
section
variable {X : Cx} {Wx : Wish}
/-! ## making -/
/-! ## writing -/
end
end SL

namespace SL
open PySem PySem.Spec PyProof.Rows L2
/-! # a dict walked: locked meanwhile -/
def lkL : List W → List W := fun ks => .ty "L" :: ks
/-- the cell n's dict is let go -/
def unlk (n : Nat) (st : Sto) : Option Sto := match st[n]? with
  | some (.dct (.ty t :: ks) ws) => if t = "L" then (match mapO keyW ks with
    | some _ => some (st.set n (.dct ks ws))
    | none => none) else none
  | _ => none
section
variable {K : PySem.W.Frag} {mg : Str → Option Value} {Wx : Wish} {μ hid : List Addr} {st : Sto} {fr : Fr} {σ : L2.St} {H : Hp}
/-- the state as it is locked -/
theorem SI.lock (S : SI K mg Wx μ st hid fr σ H) {i n : Nat} {ks ws : List W} {kk : List Key} (hf : fr[i]? = some (some (.cell n))) (hn : st[n]? = some (.dct ks ws)) (hk : mapO keyW ks = some kk) :
    ∃ (d : Addr) (vs : List V), μ[n]? = some d ∧ d ∉ hid ∧ kk.length = vs.length ∧ H d = some (.dK (kk.zip vs)) ∧ ∀ od, SI K mg Wx μ (st.set n (.dct (lkL ks) ws)) hid fr σ (upd H d (.frz od (.dK (kk.zip vs)))) ∧ Fz μ (st.set n (.dct (lkL ks) ws)) hid (upd H d (.frz od (.dK (kk.zip vs)))) = Fz μ st hid H := by
  obtain ⟨v, hv, r⟩ := S.loc i _ hf
  obtain ⟨d, rfl, h1, vs, ⟨l, q, g1, g2, g3⟩, h3⟩ := S.sto.cell hn r
  rw [kind_plain hk] at g1
  cases g1
  have g3' : H d = some (.dK (kk.zip vs)) := g3
  have g2' : kk.length = vs.length := g2
  refine ⟨d, vs, h1, S.sto.hidn n d _ h1 hn rfl, g2', g3', fun od => ?_⟩
  have kl : kindW (lkL ks) = some (true, .inl kk) := by
    show (mapO keyW ks).map (fun kk => (true, Sum.inl kk)) = _
    rw [hk]; rfl
  obtain ⟨k2, e, _⟩ := S.sto.setCell0 (c' := .dct (lkL ks) ws) (o := .frz od (.dK (kk.zip vs))) h1 hn rfl rfl ⟨vs, ⟨true, .inl kk, kl, g2', od, upd_same⟩, h3⟩
  exact ⟨⟨k2, S.len, fun j w h => by rw [e]; exact S.loc j w h, by rw [e]; exact S.ex⟩, e⟩
/-- .. and let go -/
theorem unlk_at {n : Nat} {st2 : Sto} {d : Addr} {od : Obj} {u : HO} (k : StOk K mg μ st hid H) (h : unlk n st = some st2) (hd : μ[n]? = some d) (hH : H d = some (.frz od u)) :
    StOk K mg μ st2 hid (upd H d u) ∧ Fz μ st2 hid (upd H d u) = Fz μ st hid H := by
  unfold unlk at h
  split at h
  · rename_i t ks ws hn
    split at h
    · rename_i ht
      subst ht
      split at h
      · rename_i kk hk
        cases h
        obtain ⟨vs, ⟨l, q, g1, g2, g3⟩, h3⟩ := k.ok n d _ hd hn
        have kl : kindW (.ty "L" :: ks) = some (true, .inl kk) := by
          show (mapO keyW ks).map (fun kk => (true, Sum.inl kk)) = _
          rw [hk]; rfl
        rw [kl] at g1
        cases g1
        obtain ⟨o, g3⟩ := g3
        have g3' : H d = some (.frz o (.dK (kk.zip vs))) := g3
        rw [hH] at g3'
        cases g3'
        obtain ⟨k2, e, _⟩ := k.setCell0 (c' := .dct ks ws) (o := .dK (kk.zip vs)) hd hn rfl rfl ⟨vs, ⟨false, .inl kk, kind_plain hk, g2, upd_same⟩, h3⟩
        exact ⟨k2, e⟩
      · cases h
    · cases h
  · cases h
theorem SI.free {μ2 : List Addr} {st2 st3 : Sto} {fr2 : Fr} {σ2 : L2.St} {H2 : Hp} {n : Nat} {d : Addr} {od : Obj} {u : HO} (S2 : SI K mg Wx μ2 st2 hid fr2 σ2 H2) (h : unlk n st2 = some st3) (hd : μ2[n]? = some d) (hH : H2 d = some (.frz od u)) : SI K mg Wx μ2 st3 hid fr2 σ2 (upd H2 d u) := by
  obtain ⟨k3, e⟩ := unlk_at S2.sto h hd hH
  exact ⟨k3, S2.len, fun j w h => by rw [e]; exact S2.loc j w h, by rw [e]; exact S2.ex⟩
/-- from before the lock to behind it -/
theorem grow_lock {st1 st2 st3 : Sto} {μ2 : List Addr} {H1 H2 : Hp} {n : Nat} {d : Addr} {od : Obj} {u : HO} (e1 : Fz μ st1 hid H1 = Fz μ st hid H) (hd : d ∉ hid) (hu : H d = some u) (nf : ∀ o z, u ≠ .frz o z) (hH1 : H1 = upd H d (.frz od u)) (g : Grow hid μ st1 H1 μ2 st2 H2) (e2 : Fz μ2 st3 hid (upd H2 d u) = Fz μ2 st2 hid H2) :
    Grow hid μ st H μ2 st3 (upd H2 d u) := by
  subst hH1
  refine ⟨g.pre, by rw [e2, ← e1]; exact g.le, fun a ha => ?_, fun a o z h => ?_⟩
  · have ne : a ≠ d := fun e => hd (e ▸ ha)
    rw [upd_ne ne, g.hid a ha, upd_ne ne]
  · have ne : a ≠ d := fun e => by
      rw [e, hu] at h
      exact nf o z (Option.some.inj h)
    rw [upd_ne ne]
    exact g.lck a o z (by rw [upd_ne ne]; exact h)
end
section
variable {X : Cx} {Wx : Wish}
theorem PSor {st : Stmt} {t1 t2 : TS} (h1 : PS X st t1) (h2 : PS X st t2) : PS X st (fun D σ H => t1 D σ H ∨ t2 D σ H) := ⟨fun pins s σ H D I q => q.elim (h1.run pins s σ H D I) (h2.run pins s σ H D I)⟩
theorem PEor {e : Expr} {t1 t2 : TE} (h1 : PE X e t1) (h2 : PE X e t2) : PE X e (fun σ H Q => t1 σ H Q ∨ t2 σ H Q) := ⟨fun pins s σ H Q I q => q.elim (h1.run pins s σ H Q I) (h2.run pins s σ H Q I)⟩
end
end SL

namespace SL
open PySem PySem.Spec PyProof.Rows L2
/-! ## a def that hands back an old cell or a new one -/
/-! ## an own instance is of no built-in type -/
structure NoTy (K : PySem.W.Frag) (C : Addr) : Prop where
  no : ∀ n, tyN n = true → PySem.W.kitOne K (.ref C) (.type n) = some false
section
variable {X : Cx}
end
end SL

namespace SL
open PySem PySem.Spec PyProof.Rows L2
/-! ## {'x': e}, as data -/
section
variable {X : Cx} {Wx : Wish}
end
/-! ## words of reckoning -/
section
variable {st : Sto} {c : Str} {n : String} {cs : List W}
end
end SL

/-! # len(set(xs)), xs a list of tuples of ints -/
namespace SL
open PySem PySem.Spec PyProof.Rows L2
section
variable {X : Cx} {Wx : Wish}
end
end SL

namespace SL
open PySem PySem.Spec PyProof.Rows L2
/-! # dicts whose keys are tuples of ints and texts -/
abbrev KeyL := List Key
theorem kind_T1 {ks : List W} {kk : List KeyL} (h : mapO keyT ks = some kk) : kindW (.ty "T" :: ks) = some (false, .inr kk) := by
  show (mapO keyT ks).map (fun kk => (false, Sum.inr kk)) = _
  rw [h]; rfl
section
variable {K : PySem.W.Frag} {mg : Str → Option Value} {F : Hp} {μ : List Addr}
theorem keys_rep : ∀ {us : List W} {k : KeyL} {vs : List V}, keysW us = some k → Reps K mg F μ us vs → vs = k.map kV
  | [], k, vs, h, r => by
    unfold keysW at h; cases h
    have := r.length
    cases vs with
    | nil => rfl
    | cons v vs => simp at this
  | u :: us, k, vs, h, r => by
    unfold keysW at h
    cases e1 : keyW u with
    | none => rw [e1] at h; cases h
    | some j =>
      cases e2 : keysW us with
      | none => rw [e1, e2] at h; cases h
      | some js =>
        rw [e1, e2] at h; cases h
        cases vs with
        | nil => have := r.length; simp at this
        | cons v vs =>
          obtain ⟨v', t, e, h1, h2⟩ := r.cons_inv
          cases e
          rw [key_rep e1 h1, keys_rep e2 h2]; rfl
theorem keyT_inv {w : W} {k : KeyL} (h : keyT w = some k) : ∃ us, w = .tup us ∧ keysW us = some k := by
  cases w with
  | tup us => exact ⟨us, rfl, h⟩
  | _ => cases h
theorem keyT_rep {w : W} {k : KeyL} {v : V} (h : keyT w = some k) (r : Rep K mg F μ w v) : ∃ b, v = .ref b ∧ F b = some (.tup (k.map kV)) := by
  obtain ⟨us, rfl, h⟩ := keyT_inv h
  obtain ⟨a, vs, rfl, h1, h2⟩ := rep_tup_inv r
  rw [keys_rep h h2] at h1
  exact ⟨a, rfl, h1⟩
end
/-! ## reading -/
section
variable {X : Cx} {Wx : Wish}
/-! ## making, writing -/
end
end SL

namespace SL
open PySem PySem.Spec PyProof.Rows L2
/-! # a dict walked: locked meanwhile -/
section
variable {K : PySem.W.Frag} {mg : Str → Option Value} {Wx : Wish} {μ hid : List Addr} {st : Sto} {fr : Fr} {σ : L2.St} {H : Hp}
end
section
variable {X : Cx} {Wx : Wish}
end
end SL

/-! # {t: e}, t a tuple -/
namespace SLd
open PySem PySem.Spec PyProof.Rows L2
section
variable {prog : Program} {w : World} {A : Around} {E : Value → Shared → Prop} {s : Shared} {env : Env}
end
end SLd
namespace SL
open PySem PySem.Spec PyProof.Rows L2
section
variable {X : Cx} {Wx : Wish}
end
end SL

namespace SL
open PySem PySem.Spec PyProof.Rows L2 Srt SrtO
/-! # sorted of a list of one or none -/
section
variable {X : Cx}
end
end SL

/-! # texts walked, also numbered -/
namespace SL
open PySem PySem.Spec PyProof.Rows L2
end SL
namespace SLe
open PySem PySem.Spec PyProof.Rows L2
end SLe
namespace SL
open PySem PySem.Spec PyProof.Rows L2
end SL

/-! # what stands in a list, a tuple, a text; its place -/
namespace SL
open PySem PySem.Spec PyProof.Rows L2
/-- flat values -/
def flW : W → Bool
  | .non => true
  | .bl _ => true
  | .int _ => true
  | .str _ => true
  | _ => false
def vaW : W → V
  | .bl b => .bl b
  | .int i => .int i
  | .str x => .str x
  | _ => .non
/-- == of flat values -/
def eqF : W → W → Bool
  | .non, .non => true
  | .bl a, .bl b => a == b
  | .bl a, .int b => (if a then 1 else 0) == b
  | .int a, .bl b => a == (if b then 1 else 0)
  | .int a, .int b => a == b
  | .str a, .str b => a == b
  | _, _ => false
theorem vaW_flat {w : W} (h : flW w = true) : flatV (vaW w) = true := by cases w <;> first | rfl | cases h
theorem eqF_at {a b : W} (ha : flW a = true) (hb : flW b = true) : eqV (vaW a) (vaW b) = eqF a b := by
  cases a <;> cases b <;> first | rfl | exact Bool.noConfusion ha | exact Bool.noConfusion hb
theorem flW_at {K : PySem.W.Frag} {mg : Str → Option Value} {F : Hp} {μ : List Addr} {w : W} {v : V} (h : flW w = true) (r : Rep K mg F μ w v) : v = vaW w := by
  cases w with
  | non => exact rep_non_inv r
  | bl b => exact rep_bl_inv r
  | int b => exact rep_int_inv r
  | str b => exact rep_str_inv r
  | _ => cases h
theorem flWs_at {K : PySem.W.Frag} {mg : Str → Option Value} {F : Hp} {μ : List Addr} : ∀ {ws : List W} {vs : List V}, ws.all flW = true → Reps K mg F μ ws vs → vs = ws.map vaW
  | [], vs, _, r => by rw [Reps.nil_iff] at r; subst r; rfl
  | w :: ws, vs, h, r => by
    rw [List.all_cons, Bool.and_eq_true] at h
    obtain ⟨v, t, rfl, r1, r2⟩ := r.cons_inv
    rw [flW_at h.1 r1, flWs_at h.2 r2]; rfl
theorem flWs_flat : ∀ {ws : List W}, ws.all flW = true → (ws.map vaW).all flatV = true
  | [], _ => rfl
  | w :: ws, h => by
    rw [List.all_cons, Bool.and_eq_true] at h
    rw [List.map_cons, List.all_cons, vaW_flat h.1, flWs_flat h.2]; rfl
theorem inV_at {x : W} (hx : flW x = true) : ∀ {ws : List W}, ws.all flW = true → inV (vaW x) (ws.map vaW) = ws.any fun y => eqF y x
  | [], _ => rfl
  | w :: ws, h => by
    rw [List.all_cons, Bool.and_eq_true] at h
    have ih := inV_at hx h.2
    unfold inV at ih ⊢
    rw [List.map_cons, List.any_cons, List.any_cons, ih, eqF_at h.1 hx]
/-- x in a list or tuple of flat values; a sign in a text; data in a list of data -/
def inW (st : Sto) (x y : W) : Option Bool := match y with
  | .str z => match x with
    | .str ⟨⟨[c]⟩⟩ => some (decide (c ∈ z.cps.toList))
    | _ => none
  | _ => match seqW st y with
    | some ws => if flW x && ws.all flW then some (ws.any fun y => eqF y x) else match pdT st x, pdT st y with
      | some d, some (.list ds) => if SeqAt.shaped d && SeqAt.shaped (.list ds) then some (ds.any fun z => PyData.eqv z d) else none
      | _, _ => none
    | none => none
def oIn : Op2 := fun x y st => match inW st x y with
  | some b => .ok (.bl b) st
  | none => .bad
def rInA (K : PySem.W.Frag) : R2 := fun x y H Q => (rIn K false x y H Q ∨ (∃ (c : Nat) (z : Str), x = .str ⟨#[c]⟩ ∧ y = .str z ∧ Q (.bl (decide (c ∈ z.cps.toList))) H)) ∨ rInD K x y H Q
section
variable {X : Cx}
theorem or_in (hu : X.A.units + 65 < cLine) : OpR X (compareOp .In) (rInA X.K) := (op_in_seq.or op_in_sign).or (op_inD hu)
theorem inW_at {K : PySem.W.Frag} {mg : Str → Option Value} {H : Hp} {hid μ : List Addr} {st : Sto} (k : StOk K mg μ st hid H) {w u : W} {x y : V} {b : Bool} (h : inW st w u = some b) (rx : Rep K mg (Fz μ st hid H) μ w x) (ry : Rep K mg (Fz μ st hid H) μ u y) :
    (∃ p xs, y = .ref p ∧ (SqL K H p xs ∨ SqT K H p xs) ∧ flatV x = true ∧ xs.all flatV = true ∧ b = inV x xs) ∨ (∃ (c : Nat) (z : Str), x = .str ⟨#[c]⟩ ∧ y = .str z ∧ b = decide (c ∈ z.cps.toList)) ∨
    (∃ d ds, Dp K H x d ∧ Dp K H y (.list ds) ∧ SeqAt.shaped d = true ∧ SeqAt.shaped (.list ds) = true ∧ b = ds.any fun z => PyData.eqv z d) := by
  have go : ∀ ws, seqW st u = some ws → (if flW w && ws.all flW then some (ws.any fun y => eqF y w) else match pdT st w, pdT st u with
      | some d, some (.list ds) => if SeqAt.shaped d && SeqAt.shaped (.list ds) then some (ds.any fun z => PyData.eqv z d) else none
      | _, _ => none) = some b → (∃ p xs, y = .ref p ∧ (SqL K H p xs ∨ SqT K H p xs) ∧ flatV x = true ∧ xs.all flatV = true ∧ b = inV x xs) ∨ (∃ (c : Nat) (z : Str), x = .str ⟨#[c]⟩ ∧ y = .str z ∧ b = decide (c ∈ z.cps.toList)) ∨
    (∃ d ds, Dp K H x d ∧ Dp K H y (.list ds) ∧ SeqAt.shaped d = true ∧ SeqAt.shaped (.list ds) = true ∧ b = ds.any fun z => PyData.eqv z d) := fun ws e h => by
    obtain ⟨a, vs, rfl, h1, h2⟩ := seqW_at k e ry
    split at h
    · rename_i hf
      rw [Bool.and_eq_true] at hf
      cases h
      have e1 := flW_at hf.1 rx
      have e2 := flWs_at hf.2 h2
      subst e1 e2
      exact .inl ⟨a, _, rfl, h1, vaW_flat hf.1, flWs_flat hf.2, (inV_at hf.1 hf.2).symm⟩
    · split at h
      · rename_i d ds e1 e2
        split at h
        · rename_i hs
          rw [Bool.and_eq_true] at hs
          cases h
          exact .inr (.inr ⟨d, ds, pdT_at k e1 rx, pdT_at k e2 ry, hs.1, hs.2, rfl⟩)
        · cases h
      · cases h
  unfold inW at h
  split at h
  · rename_i z
    split at h
    · rename_i c
      cases h
      exact .inr (.inl ⟨c, z, rep_str_inv rx, rep_str_inv ry, rfl⟩)
    · cases h
  · split at h
    · rename_i ws e
      exact go ws e h
    · cases h
theorem os_in : Op2S X oIn (rInA X.K) := by
  intro Wx hid μ st σ H Q w u x y k rx ry P
  unfold oIn at P
  split at P
  · rename_i b h
    have q := P μ H _ k .refl rep_bl
    rcases inW_at k h rx ry with ⟨p, xs, h1, h2, h3, h4, rfl⟩ | ⟨c, z, h1, h2, rfl⟩ | ⟨d, ds, h1, h2, h3, h4, rfl⟩
    · exact .inl (.inl ⟨p, xs, h1, h2, h3, h4, q⟩)
    · exact .inl (.inr ⟨c, z, h1, h2, q⟩)
    · exact .inr ⟨d, ds, h1, h2, h3, h4, q⟩
  · exact P.elim
/-! ## the place in a list (flat values, or data), in a tuple of texts -/
/-! ## pop at a place -/
end
end SL

/-! # plain tuples: tuple(x) made; their index; list(text); join; sorted texts; a sign of a text -/
namespace SL
open PySem PySem.Spec PyProof.Rows L2
section
variable {X : Cx}
/-! ## t.index(x), a plain tuple of texts -/
end
section
variable {X : Cx} {Wx : Wish}
end
/-! ## list(text) -/
section
variable {X : Cx}
end
/-! ## join -/
section
variable {X : Cx} {Wx : Wish}
end
/-! ## sorted texts -/
/-! ## t[i], a text -/
end SL

/-! # own methods; defs with defaults -/
namespace SL
open PySem PySem.Spec PyProof.Rows L2
structure MethIs (P : Program) (w : World) (K : PySem.W.Frag) (mg : Str → Option Value) (base : Heap) (c m : Str) (k n : Nat) (F : Fn) : Prop where
  ex : ∃ (C g : Addr) (fd : FuncData) (ps : List Str), mg c = some (.ref C) ∧ Cls K C ∧ Meth K C m g ∧ FnOk P w K mg base (L2.CX P w) k g fd ps (spF K mg (n + 1) F) ∧ Binds K fd ps []
section
variable {X : Cx} {Wx : Wish}
end
/-! ## a def with one default: called with all but the last -/
structure FnDs (P : Program) (w : World) (K : PySem.W.Frag) (mg : Str → Option Value) (base : Heap) (x : Str) (k n : Nat) (dw : W) (F : Fn) : Prop where
  ex : ∃ (g : Addr) (fd : FuncData) (ps : List Str) (dv : V) (ds : List Value), FnOk P w K mg base (L2.CX P w) k g fd ps (spF K mg (n + 1) F) ∧ mg x = some (.ref g) ∧ PySem.W.keepIn K (.ref g) = true ∧ Binds K fd ps ds ∧ Vals [dv] ds ∧ ∀ F μ, Rep K mg F μ dw dv
section
variable {X : Cx} {Wx : Wish}
end
end SL
namespace SL
open PySem PySem.Spec PyProof.Rows L2
theorem rm65 {k : Nat} {A : Around} (r : Room k A) : A.units + 65 < cLine := by have := r.un; omega
section
variable {X : Cx} {Wx : Wish}
end
end SL

/-! # sorted(x, reverse=True); an own exception without fields -/
namespace SLr
open PySem PyProof.Rows Srt SrtO
section
variable {prog : Program} {w : World} {A : Around} {E : Value → Shared → Prop} {s : Shared}
end
end SLr
namespace SL
open PySem PySem.Spec PyProof.Rows L2
section
variable {X : Cx} {Wx : Wish}
end
/-! ## raise X(), X without own __init__ -/
structure Exc0 (K : PySem.W.Frag) (mg : Str → Option Value) (c : Str) : Prop where
  ex : ∃ C, mg c = some (.ref C) ∧ PySem.W.excIn K C [.type "ValueError", .type "Exception", .type "BaseException", .type "object"] "ValueError.__new__" = true ∧ PySem.W.keepIn K (.ref C) = true ∧ PySem.W.subIn K (.ref C) (.type "BaseException") = some true ∧ PySem.W.typeIn K (.ref C) = some (.type "type")
section
variable {X : Cx} {Wx : Wish}
end
end SL

/-! # pairs of two sequences; name += e -/
namespace SL
open PySem PySem.Spec PyProof.Rows L2
end SL

/-! # list(range(..)) as a value -/
namespace SL
open PySem PySem.Spec PyProof.Rows L2
section
variable {X : Cx} {Wx : Wish}
end
end SL

/-! # list.remove, text * int, tuples (int, text) compared -/
namespace SL
open PySem PySem.Spec PyProof.Rows L2
section
variable {X : Cx} {Wx : Wish}
/-! ## text * int -/
def rMulS : R2 := fun x y H Q => ∃ z n, x = .str z ∧ y = .int n ∧ MulOk z n ∧ Q (.str (Txt.mul z n)) H
theorem op_mulS : OpR X (binaryOp .Mult) rMulS := by
  intro pins s σ H x y v u Q I rx ry h
  obtain ⟨z, n, rfl, rfl, ok, q⟩ := h
  obtain ⟨t, rfl⟩ := rx
  obtain ⟨t', rfl⟩ := ry
  exact SB.mul ok fun t2 k => ⟨.str (Txt.mul z n), H, I.tok _, ⟨_, rfl⟩, q⟩
noncomputable def oMulS : Op2 := fun x y st => match x, y with
  | .str z, .int n => if dec (z.length = 1 ∧ 0 ≤ n ∧ n ≤ 1000) = true then .ok (.str (Txt.mul z n)) st else .bad
  | _, _ => .bad
theorem mulOk_one {z : Str} {n : Int} (h : z.length = 1 ∧ 0 ≤ n ∧ n ≤ 1000) : MulOk z n := by
  obtain ⟨h1, h2, h3⟩ := h
  refine ⟨?_, fun h4 _ => ?_, fun _ _ => ?_⟩
  · rw [decide_eq_false (by omega), decide_eq_false (by omega)]; rfl
  · rw [h1]
    have : (1 : Int) ≤ (2 ^ 63 - 1) / n := (Int.le_ediv_iff_mul_le (by omega)).mpr (by omega)
    show ¬ ((1 : Nat) : Int) > _
    omega
  · rw [h1]
    have hl := line63
    exact decide_eq_false (by
      have : (16777216 : Nat) ≤ sizeLine := by rw [sizeLine_eq]; omega
      omega)
theorem os_mulS : Op2S X oMulS rMulS := by
  intro Wx hid μ st σ H Q w u x y k rx ry P
  unfold oMulS at P
  split at P
  · cases rep_str_inv rx; cases rep_int_inv ry
    split at P
    · rename_i hz
      exact ⟨_, _, rfl, rfl, mulOk_one (dec_of hz), P μ H _ k .refl rep_str⟩
    · exact P.elim
  · exact P.elim
/-! ## (int, text) > (int, text) -/
end
end SL

/-! # dicts with text keys: sorted(d), dict(d), list(d), list(d.values()), items -/
namespace SLd
open PySem PySem.Spec PyProof.Rows L2
section
variable {X : Cx} {e : Expr} {te : TE} {p apos cpos pos : Pos}
end
end SLd
namespace SL
open PySem PySem.Spec PyProof.Rows L2
section
variable {X : Cx} {Wx : Wish}
end
end SL

/-! # dicts walked, told by an expression; their items -/
namespace SL
open PySem PySem.Spec PyProof.Rows L2
section
variable {K : PySem.W.Frag} {mg : Str → Option Value} {Wx : Wish} {μ hid : List Addr} {st : Sto} {fr : Fr} {σ : L2.St} {H : Hp}
end
section
variable {X : Cx} {Wx : Wish}
end
end SL

/-! # a def whose new cells go on to live, however it ends -/
namespace SL
open PySem PySem.Spec PyProof.Rows L2
def mkFnI (m : Nat) (b : SSem) : Fn := fun ws st => match b (ws.map some ++ List.replicate (m - ws.length) none) st with
  | .nx _ st1 => .ok .non st1
  | .rt w st1 => .ok w st1
  | .er x _ st1 => .err x st1
  | _ => .bad
theorem fn_okI {P : Program} {w : World} {K : PySem.W.Frag} {mg : Str → Option Value} {base : Heap} {x qual : Str} {st : Stmt} {f : Addr} {fd : FuncData} {N ps : List Str} {k m n : Nat} {b : SSem} (F : Fun K x qual st f fd) (S : FnScope N ps (defScope st)) (hm : N.length = m := by rfl) (hn : ps.length = n := by rfl)
    (hb : ∀ (cdv : Value) (A : Around) (outer : List Env) (s : Shared) (H : Hp) (E : XK), Ctx (cxOf (L2.CX P w) P w K mg base N qual (defScope st) f cdv A outer s H E) (Wish.of fun c d _ H => E c d H) k → BV (cxOf (L2.CX P w) P w K mg base N qual (defScope st) f cdv A outer s H E) (Wish.of fun c d _ H => E c d H) (defBody st) b) :
    FnOk P w K mg base (L2.CX P w) (k + 1) f fd ps (spF K mg n (mkFnI m b)) := by
  refine F.okX S (fun vs H Q E h => ?_) (fun cdv A outer s H vs Q E hr h => ?_)
  · obtain ⟨_, _, _, _, h, _⟩ := h
    rw [h, hn]
  · refine ⟨_, hb cdv A outer s H E ⟨rfl, S.nd, hr, takes_of rfl rfl rfl rfl, passes_of (K := fun e s'' => L2.CX P w outer H s E e s'') rfl⟩, ?_⟩
    obtain ⟨hid, μ, st0, ws, hl, k0, r, P0⟩ := h
    have wl : ws.length = vs.length := r.length
    refine ⟨μ, st0, hid, ws.map some ++ List.replicate (m - ws.length) none, ⟨k0, ?_, fun i u hi => ?_, trivial⟩, ?_⟩
    · unfold L2.start
      simp only [List.length_append, List.length_map, List.length_replicate, wl, hm]
    · by_cases hlt : i < ws.length
      · rw [List.getElem?_append_left (by simpa using hlt), List.getElem?_map] at hi
        cases e : ws[i]? with
        | none => rw [e] at hi; cases hi
        | some u' =>
          rw [e] at hi
          cases hi
          obtain ⟨v, e1, e2⟩ := r.get e
          exact ⟨v, start_get e1, e2⟩
      · rw [List.getElem?_append_right (by simpa using hlt), List.getElem?_replicate] at hi
        split at hi <;> cases hi
    · unfold mkFnI at P0
      cases e : b (ws.map some ++ List.replicate (m - ws.length) none) st0 with
      | bad => rw [e] at P0; exact P0
      | bk f s => rw [e] at P0; exact P0.elim
      | ct f s => rw [e] at P0; exact P0.elim
      | nx f s =>
        rw [e] at P0
        exact fun μ' σ' H' S' g => P0 μ' H' _ S'.sto g rep_non
      | rt u s =>
        rw [e] at P0
        exact fun μ' H' v k' g' r' => P0 μ' H' v k' g' r'
      | er x f s =>
        rw [e] at P0
        exact fun μ' σ' H' c d S' g xr => P0 μ' H' c d S'.sto g xr
end SL

/-! # a method without arguments -/
namespace SL
open PySem PySem.Spec PyProof.Rows L2
section
variable {X : Cx} {Wx : Wish}
end
end SL

/-! # == of dicts with data within; == of lists where an item may be the same object -/
namespace SL
open PySem PySem.Spec PyProof.Rows L2
/-- x == y gives b: data; the same object; two empty dicts -/
inductive EqIt (K : PySem.W.Frag) (H : Hp) : V → V → Bool → Prop
  | dat {x y : V} {d e : PyData} (h1 : Dp K H x d) (h2 : Dp K H y e) (h3 : SeqAt.shaped d = true) (h4 : SeqAt.shaped e = true) : EqIt K H x y (PyData.eqv d e)
  | same {a : Addr} : EqIt K H (.ref a) (.ref a) true
  | dct0 {a b : Addr} (h1 : Rd H a (.dK [])) (h2 : Rd H b (.dK [])) : EqIt K H (.ref a) (.ref b) true
/-! ## dicts -/
inductive HitV (K : PySem.W.Frag) (H : Hp) (ls : List (Key × V)) : List (Key × V) → Bool → Prop
  | nil : HitV K H ls [] true
  | miss {k : Key} {v : V} {r : List (Key × V)} (h : valV ls k = none) : HitV K H ls ((k, v) :: r) false
  | hit {k : Key} {v y : V} {r : List (Key × V)} {e b : Bool} (h : valV ls k = some y) (h2 : EqIt K H v y e) (h3 : HitV K H ls r b) : HitV K H ls ((k, v) :: r) (e && b)
section
variable {X : Cx}
end
section
variable {X : Cx}
end
/-! ## lists, item by item -/
section
variable {X : Cx}
end
end SL

/-! # properties; d.clear(), d.pop(k) of a dict that lives; in, not in for lists of data -/
namespace SL
open PySem PySem.Spec PyProof.Rows L2
/-! ## properties -/
structure PropIs (P : Program) (w : World) (K : PySem.W.Frag) (mg : Str → Option Value) (base : Heap) (c m : Str) (k : Nat) (F : Fn) : Prop where
  ex : ∃ (C p g : Addr) (fd : FuncData) (ps : List Str), mg c = some (.ref C) ∧ Cls K C ∧ PropOf K C m p g ∧ FnOk P w K mg base (L2.CX P w) k g fd ps (spF K mg 1 F) ∧ Binds K fd ps []
section
variable {X : Cx} {Wx : Wish}
/-! ## d.clear(), d.pop(k) -/
/-! ## in, not in: lists of data -/
end
end SL

/-! # {x: y, u: v}: a new dict that lives, of four written texts -/
namespace SL
open PySem PySem.Spec PyProof.Rows L2
section
variable {X : Cx} {Wx : Wish}
end
end SL

/-! # isinstance(e, c) of a caught error that has fields -/
namespace SL
open PySem PySem.Spec PyProof.Rows L2
/-- what isinstance says of an error of the class told, by a table -/
structure IxOk (K : PySem.W.Frag) (mg : Str → Option Value) (T : ExT) : Prop where
  ok : ∀ c c' b, T c c' = some b → ∀ D C, mg c = some (.ref D) → mg c' = some (.ref C) → ExcC K D ∧ PySem.W.kitOne K (.ref D) (.ref C) = some b
theorem kit_is {K : PySem.W.Frag} {D C : Addr} {b : Bool} (hd : PySem.W.hasDictIn K C = true) (hy : PySem.W.typeIn K (.ref C) = some (.type "type")) (h : PySem.W.subIn K (.ref D) (.ref C) = some b) (hs : PySem.W.subIn K (.ref C) (.ref C) = some true) : PySem.W.kitOne K (.ref D) (.ref C) = some b := by
  by_cases e : D = C
  · subst e
    rw [h] at hs
    cases hs
    exact kit_self
  · obtain ⟨cd, hcd, _⟩ := PySem.W.any_some hd
    have e1 : ((PySem.W.clsIn K C).isSome && PySem.W.typeIn K (.ref C) == some (.type "type")) = true := by
      rw [hcd, hy]; rfl
    show (if (Value.ref D == Value.ref C) = true then some true else (if ((PySem.W.clsIn K C).isSome && PySem.W.typeIn K (.ref C) == some (.type "type")) = true then PySem.W.subIn K (.ref D) (.ref C) else none)) = some b
    rw [if_neg (fun q => e (Value.ref.inj (beq_iff_eq.mp q))), if_pos e1]
    exact h
def rIsX (K : PySem.W.Frag) (cls : Value) (d : Option Addr) (a : Addr) : List V → Hp → VK → Prop := fun xs H Q => ∃ (D C : Addr) (b : Bool), cls = .ref D ∧ (d = none ∨ ∃ dx fs, d = some dx ∧ H dx = some (.xd fs)) ∧ xs = [.ref a, .ref C] ∧ ExcC K D ∧ PySem.W.kitOne K (.ref D) (.ref C) = some b ∧ Q (.bl b) H
theorem call_isX {X : Cx} {a : Addr} {oe : Obj} {cls : Value} {d : Option Addr} {pn : List (Addr × Obj)} (hz : Zc cls d oe) (hf : ∃ vs, oe.data = .fields vs) : CallR (X.suite a ((a, oe) :: pn)) (.builtin "isinstance") (rIsX X.K cls d a) := by
  intro pins s σ H xs us Q I r h; obtain ⟨D, C, b, rfl, hd, rfl, E, e, q⟩ := h
  rcases hd with rfl | ⟨dx, fs, rfl, hdx⟩
  · exact call_isE E hz hf pins s σ H _ us Q I r ⟨.ref C, .ref C, b, rfl, (fun u ru => by cases ru; rfl), e, q⟩
  cases r with
  | cons rx rr =>
    cases rr with
    | cons rt rr =>
      cases rr
      cases rx
      cases rt
      obtain ⟨ha, _⟩ := I.pin (a, oe) (List.mem_append.mpr (.inl List.mem_cons_self))
      obtain ⟨vs, hv⟩ := hf
      have hx : ObjOk X.prog X.w H s.heap dx (.xd fs) := I.hok dx _ hdx
      obtain ⟨mA, hns, _⟩ := hx
      obtain ⟨od, ho, _⟩ := lookIn_ns hns
      have J : PySem.W.InstAt s.heap a oe D (some od) := ⟨ha, hz.1, by unfold PySem.W.notCls; rw [hv] <;> rfl, by rw [hz.2]; exact ho⟩
      obtain ⟨cd, hcd, _⟩ := PySem.W.any_some E.hd
      exact PySem.W.kia_one (PySem.W.kitx_exc (by rw [hcd]; rfl) E.hg E.hk E.hs E.ha E.hn E.ht E.hm) I.kIn J e (fun z => nomatch z) fun tk => ⟨.bl b, H, I.kept (t' := tk) fun _ _ z => z, rfl, q⟩
def eIsX (T : ExT) (x : Exc) (c : Str) : Sem := fun _ st => match T x.c c with
  | some b => .ok (.bl b) st
  | none => .bad
section
variable {X : Cx} {Wx : Wish}
theorem ev_isX {T : ExT} {a : Addr} {oe : Obj} {cls : Value} {d : Option Addr} {pn : List (Addr × Obj)} {C : Addr} {x : Exc} {c nm f : Str} {i : Nat} {p p1 p2 pos : Pos} (hT : IxOk X.K X.mg T) (hm : X.mg c = some (.ref C)) (hb : X.mg f = none) (hz : Zc cls d oe) (hf : ∃ vs, oe.data = .fields vs)
    (hN : X.N[i]? = some nm) (hv : Vis X.env.scope nm) (hbv : bootBuiltins f = some (.builtin "isinstance") := by decide +kernel) (hg : Gl X f := by rfl) (hgc : Gl X c := by rfl) (hd : (nm == ("__debug__" : Str)) = false := by decide) (hcd : (nm == ("__classdict__" : Str)) = false := by decide)
    (hfn : f ≠ "__name__" := by decide) (hfd : (f == ("__debug__" : Str)) = false := by decide) (hcg : (c == ("__debug__" : Str)) = false := by decide) (he : starEach [Expr.Name nm p1, Expr.Name c p2] X.env = (false, eval (.Name nm p1) X.env) :: starEach [Expr.Name c p2] X.env := by rfl)
    (he2 : starEach [Expr.Name c p2] X.env = (false, eval (.Name c p2) X.env) :: starEach [] X.env := by rfl)
    (hpl : (backTo pos (starEach [Expr.Name c p2] X.env)).any (·.1) = false := by rfl) :
    EV (X.suite a ((a, oe) :: pn)) (Wx.suite X.K X.mg (some i) x a cls d) (.Call (.Name f p) [.Name nm p1, .Name c p2] [] pos) (eIsX T x c) :=
  PEm (pe_callB (X := X.suite a ((a, oe) :: pn)) (call_isX hz hf) hg hb hbv (pa_cons (pe_var (X := X.suite a ((a, oe) :: pn)) (i := i) hN hv hd hcd) (pa_cons (pe_glob (X := X.suite a ((a, oe) :: pn)) (v := .ref C) hgc hm rfl hcg) pa_nil he2) he) hfn hfd he hpl) fun σ H Q ⟨μ, st, hid, fr, S, P⟩ => by
    obtain ⟨_, ⟨C', h1, h2, h3⟩, h4⟩ := S.ex
    refine ⟨.ref a, h4 i rfl, ?_⟩
    show rIsX X.K cls d a [.ref a, .ref C] H Q
    unfold eIsX at P
    split at P
    · rename_i b hb'
      obtain ⟨g1, g2⟩ := hT.ok _ _ _ hb' _ _ h1 hm
      refine ⟨C', C, b, h2, ?_, rfl, g1, g2, P μ H _ S.sto .refl rep_bl⟩
      rcases h3 with h3 | ⟨dx, vs, h3, h4, h5, h6⟩
      · exact .inl h3.2
      · exact .inr ⟨dx, _, h3, (Fz.sub h5).1⟩
    · exact P.elim
end
end SL

/-! # dicts with tuples as keys: len(d), list(d.values()) -/
namespace SLd
open PySem PySem.Spec PyProof.Rows L2
section
variable {X : Cx} {e : Expr} {te : TE} {p apos cpos pos : Pos}
end
end SLd
namespace SL
open PySem PySem.Spec PyProof.Rows L2
section
variable {X : Cx} {Wx : Wish}
end
end SL

/-! # sorted(d) of a dict whose keys are all ints -/
namespace SLd
open PySem PySem.Spec PyProof.Rows L2
section
variable {X : Cx}
end
end SLd
namespace SL
open PySem PySem.Spec PyProof.Rows L2
end SL

/-! # dict comprehensions whose keys are tuples -/
namespace SLd
open PySem PySem.Spec PyProof.Rows L2
theorem setT_any {X : Cx} {pins : List (Addr × Obj)} {σ : L2.St} {H : Hp} {s : Shared} {E : Value → Shared → Prop} {D b : Addr} {kvs : List (List Key × V)} {k : List Key} {v : V} {r : Value} {Q : Unit → Shared → Prop} (hu : X.A.units < cLine) (I : Inv X pins σ H s) (hD : H D = some (.dT kvs)) (hz : kvs.length < sizeLine)
    (eb : H b = some (.tup (k.map kV))) (rv : RelV v r) (h : ∀ s', Inv X pins σ (upd H D (.dT (putK kvs k v))) s' → Q () s') : wpAny (model X.prog X.w) X.A (dictSet D (.ref b) r) Q E s := by
  obtain ⟨cap, nsys, xs, rel, stands⟩ := dt_of I.hok hD
  have capx : xs.length ≤ sizeLine := by
    rw [← Paired.length rel]; exact cap
  have capn : (putK kvs k v).length ≤ sizeLine := Nat.le_trans (length_putK kvs k v) (Nat.succ_le_of_lt hz)
  refine wpAny_dictSet_heap (hsz := capx) (knd := tupleKind (mixKind X.prog X.w)) hu (key_of I.hok eb) stands ?_
  rintro h' now same
  refine h _ ?_
  obtain ⟨ob, es, ep, there, c1, c2, c3, _, c5⟩ := now
  have kept : ∀ (c : Addr) (ys : List V), H c = some (.tup ys) → (upd H D (.dT (putK kvs k v))) c = some (.tup ys) := fun c ys ec => by
    rw [upd_ne (ne_of ec hD fun z => nomatch z)]; exact ec
  exact d_write I (by rw [hD]; exact True.intro) same ⟨ob, there⟩ ⟨capn, nsys, _, (rel.put k eb rv).keeps kept, ob, es, ep, there, c1, c2, c3, c5⟩
section
variable {X : Cx}
def tDcT (wi : TI) (g : TG) (tt : TT) (tk tv : TE) (vs : List Nat) : TE := fun σ H Q => wi σ H fun J H1 => ∀ D, H1 D = none → ∃ W : Nat → Nat → Hp → Prop, (∃ m, W 0 m (upd H1 D (.dT []))) ∧ ∀ n m G, W n m G →
  (J.stop n G ∧ Q (.ref D) G) ∨ (J.go n G ∧ ∃ Nx : Hp → Prop, (∀ Z, Nx Z → ∃ m', m' < m ∧ W (n + 1) m' Z) ∧ ∀ x Z, J.yld n G x Z → g x (wipe σ vs) Z fun τ Z2 => wipe τ vs = wipe σ vs ∧ tt τ Z2 fun b Z3 =>
    if b = true then tk τ Z3 fun y Z4 => tv τ Z4 fun z Z5 => ∃ kvs k p, y = .ref p ∧ Z5 p = some (.tup (k.map kV)) ∧ Z5 D = some (.dT kvs) ∧ kvs.length < sizeLine ∧ Nx (upd Z5 D (.dT (putK kvs k z))) else Nx Z3)
/-- {k: v for t in it if ..} with tuple keys; use: what is done with the finished dict -/
theorem dcT_core {pins : List (Addr × Obj)} {sh : Shared} {σ : L2.St} {Ha : Hp} {Q : VK} {kx vx tg iter : Expr} {ifs : List Expr} {scope : Scope} {own : List (Str × Nat)} {pos pos' : Pos} {wi : TI} {g : TG} {tt : TT} {tk tv : TE} {use : Option (Value → Sem Unit)} {Qf : Value → Shared → Prop} (inv : Inv X pins σ Ha sh) (hu : X.A.units < cLine) (hc : X.calm = true) (hN : X.N.Nodup) (hi : PI X tg iter wi) (ok : BlkOk X.N X.env.scope scope own)
    (hg : ∀ (q : Shared) (G : Hp) (C : Addr) (cl : List (Str × Addr)) (fp : List Addr), PG (X.blk q G scope (compEnvC scope cl C X.env) fp) tg g) (ht : ∀ (q : Shared) (G : Hp) (C : Addr) (cl : List (Str × Addr)) (fp : List Addr), PTs (X.blk q G scope (compEnvC scope cl C X.env) fp) ifs tt)
    (hk : ∀ (q : Shared) (G : Hp) (C : Addr) (cl : List (Str × Addr)) (fp : List Addr), PE (X.blk q G scope (compEnvC scope cl C X.env) fp) kx tk)
    (hv : ∀ (q : Shared) (G : Hp) (C : Addr) (cl : List (Str × Addr)) (fp : List Addr), PE (X.blk q G scope (compEnvC scope cl C X.env) fp) vx tv) (hs : ∀ x, foldedSetIterable iter X.env x = pure x)
    (want : tDcT wi g tt tk tv (own.map (·.2)) σ Ha Q) (last : ∀ D C sz mm Hz, Inv X pins σ Hz sz → Q (.ref D) Hz → sz.heap.Ns C mm → FpOk X pins Hz C → compPost (model X.prog X.w) X.A X.xe use Qf (.ref D) C (.ok .next) sz) :
    wpAny (model X.prog X.w) X.A (comprehension (.DictComp kx vx [⟨tg, iter, ifs, 0⟩] scope pos) scope X.env pos' newDict false (eval iter X.env) use) Qf X.xe sh := by
  have there : ∀ nm ∈ scope.names, nm.2 = NameKind.free → ∃ c, X.env.cells.lookup nm.1 = some c := by
    intro nm hin hfr
    cases ok.free nm hin hfr with
    | inl z => exact inv.ok.has _ (Or.inl z)
    | inr z => exact inv.ok.has _ (Or.inr z)
  refine wpAny_comprehension_free rfl hs (closure_ok there) ok.kind (fun nm hin hfr => (ok.uniq nm hin).trans (by rw [hfr])) ?_
  refine thn (hi.run pins sh σ Ha _ inv want) ?_
  intro src sa got
  refine thn got ?_
  intro itv sb got2
  obtain ⟨it, fp, tn, J, Hb, eit, invb, turns, stb, fpb, rest⟩ := got2
  subst eit; refine wpAny_newObj_type (newEnv_comp ?_)
  have fresh : Hb sb.heap.objs.size = none := invb.hok.fresh (Nat.le_refl _)
  obtain ⟨W, ⟨m0, w0⟩, steps⟩ := rest _ fresh
  revert w0 steps fresh
  generalize eD : sb.heap.objs.size = D
  intro fresh steps w0
  -- the empty dict is laid
  obtain ⟨sc, esc⟩ : ∃ sc : Shared, sc = { sb with heap := sb.heap.push { cls := .type "dict", data := .dict #[] } } := ⟨_, rfl⟩
  have invc : Inv X pins σ (upd Hb D (.dT [])) sc := by
    have base := invb.laid (a := sb.heap.objs.size) (o := .dT []) (h' := sb.heap.push { cls := .type "dict", data := .dict #[] }) (t' := sb.toks) (fun _ _ z => Heap.get?_push_of_some _ z) (Nat.le_refl _) (dt_empty sb.heap invb.big)
    rw [esc, ← eD]; exact base
  have heapc : sc.heap = sb.heap.push { cls := .type "dict", data := .dict #[] } := by rw [esc]
  have grew : sb.heap.objs.size < sc.heap.objs.size := by rw [heapc, Heap.size_push]; exact Nat.lt_succ_self _
  have small : ∀ b ∈ fp, b < sb.heap.objs.size := fun b hb => by
    obtain ⟨ob, eob, _⟩ := turns.obj _ _ stb b hb
    exact Heap.lt_size eob
  have fpc : ∀ b ∈ fp, FpOk X pins (upd Hb D (.dT [])) b ∧ b < sc.heap.objs.size := fun b hb => by
    have hlt := small b hb
    have ne : b ≠ D := by rw [← eD]; exact Nat.ne_of_lt hlt
    exact ⟨⟨by rw [upd_ne ne]; exact (fpb b hb).1, (fpb b hb).2⟩, Nat.lt_trans hlt grew⟩
  have stc : tn 0 sc.heap := turns.keep _ _ _ stb fun b _ ob z => by rw [heapc]; exact Heap.get?_push_of_some _ z
  have invd := block_start invc ok hN fpc
  have G1 := hg sc (upd Hb D (.dT [])) sc.heap.objs.size (cellsFrom (sc.heap.objs.size + 1) scope.names (cloFrom X.env.cells scope.names [])) fp
  have T1 := ht sc (upd Hb D (.dT [])) sc.heap.objs.size (cellsFrom (sc.heap.objs.size + 1) scope.names (cloFrom X.env.cells scope.names [])) fp
  have K1 := hk sc (upd Hb D (.dT [])) sc.heap.objs.size (cellsFrom (sc.heap.objs.size + 1) scope.names (cloFrom X.env.cells scope.names [])) fp
  have V1 := hv sc (upd Hb D (.dT [])) sc.heap.objs.size (cellsFrom (sc.heap.objs.size + 1) scope.names (cloFrom X.env.cells scope.names [])) fp
  have aim : codeAny (model X.prog X.w) X.A (.compStart (.DictComp kx vx [⟨tg, iter, ifs, 0⟩] scope pos) 0 (.ref it) (.ref D) (compEnvC scope (cellsFrom (sc.heap.objs.size + 1) scope.names (cloFrom X.env.cells scope.names [])) sc.heap.objs.size X.env)) (compPost (model X.prog X.w) X.A X.xe use Qf (.ref D) sc.heap.objs.size) { sc with heap := pushCells (sc.heap.push { cls := .type "dict", data := .dict #[] }) scope.names } := by
    have none_fp : ∀ b ∈ fp, (upd Hb D (.dT [])) b = none := fun b hb => (fpc b hb).1.1
    revert G1 T1 K1 V1 invd
    generalize ece : compEnvC scope (cellsFrom (sc.heap.objs.size + 1) scope.names (cloFrom X.env.cells scope.names [])) sc.heap.objs.size X.env = ce
    have loc : ce.locals = sc.heap.objs.size := by rw [← ece]; rfl
    revert invc w0 none_fp fpc
    generalize upd Hb D (.dT []) = Hc
    intro w0 invc fpc none_fp invd G1 T1 K1 V1
    obtain ⟨sd, esd⟩ : ∃ sd : Shared, sd = { sc with heap := pushCells (sc.heap.push { cls := .type "dict", data := .dict #[] }) scope.names } := ⟨_, rfl⟩
    rw [← esd] at invd ⊢
    have std : tn 0 sd.heap := turns.keep _ _ _ stc fun b _ ob z => by rw [esd]; exact pushCells_keeps _ _ _ _ (Heap.get?_push_of_some _ z)
    -- what stays within the block
    have quiet : ∀ {τ : L2.St} {Hx : Hp} {sx : Shared}, Inv (X.blk sc Hc scope ce fp) [] τ Hx sx → (∀ b ∈ fp, Hx b = none) → ∀ b ∈ fp, FpOk (X.blk sc Hc scope ce fp) [] Hx b := by
      intro τ Hx sx iv nn b hb
      exact ⟨nn b hb, (iv.ok.exf b hb).1, iv.ok.exfs b hb, Or.inl hb, fun x c z => (iv.ok.exf b hb).2 x c z, fun p hp => (List.not_mem_nil (show p ∈ ([] : List (Addr × Obj)) from hp)).elim⟩
    have loop : codeAny (model X.prog X.w) X.A (.compLoop (.DictComp kx vx [⟨tg, iter, ifs, 0⟩] scope pos) 0 (.ref it) (.ref D) ce) (compPost (model X.prog X.w) X.A X.xe use Qf (.ref D) sc.heap.objs.size) sd := by
      refine compLoop_anyD (fun n sx => ∃ i Hx, Inv (X.blk sc Hc scope ce fp) [] (wipe σ (own.map (·.2))) Hx sx ∧ tn i sx.heap ∧ (∀ b ∈ fp, Hx b = none) ∧ W i n Hx) ?_ m0 ⟨0, Hc, invd, std, none_fp, w0⟩
      rintro n se ⟨i, He, ive, ste, ne, we⟩
      cases steps i n He we with
      | inl over =>
        obtain ⟨stop, qq⟩ := over
        refine thnF (turns.done (X.blk sc Hc scope ce fp) rfl rfl rfl hc i [] se _ He (fun _ _ => False) ive (quiet ive ne) ste stop) ?_
        rintro r sf ⟨hr, ivf⟩
        subst hr
        have back : Inv X pins σ He sf := invc.call' (ch := fp) ivf.os ivf.base ivf.hok ivf.bare fun b hb => ⟨(fpc b hb).1.2.2.2.1, (fpc b hb).1.2.1, (fpc b hb).1.2.2.2.2.1, (fpc b hb).1.2.2.2.2.2⟩
        have gone : He sc.heap.objs.size = none := by rw [← loc]; exact ivf.free
        obtain ⟨mm, hmm, _⟩ := ivf.loc
        have hmm' : sf.heap.Ns sc.heap.objs.size mm := by rw [← loc]; exact hmm
        exact last D sc.heap.objs.size sf mm He back qq hmm' (invc.fpOk (Nat.le_refl _) gone)
      | inr more =>
        obtain ⟨go, Nx, nx, step⟩ := more
        refine thnF (turns.item (X.blk sc Hc scope ce fp) rfl rfl rfl hc i [] se _ He (fun _ _ => False) ive (quiet ive ne) ste go) ?_
        rintro r sf ⟨u, hr, hf⟩
        subst hr
        refine thnF hf ?_
        rintro _ sg ⟨x, Hg, ivg, rg, yg, stg, ng⟩
        have ivp := ivg.pinned (quiet ivg ng) (turns.obj _ _ stg)
        refine thnF (G1.run _ sg _ Hg x u _ ivp rg (step x Hg yg)) ?_
        rintro _ si ⟨τ, Hi, ivi, same, qi⟩
        refine thnF (T1.run _ si τ Hi _ ivi qi) ?_
        rintro yes sj ⟨Hj, ivj, qj⟩
        have close : ∀ {sx : Shared} {Hx : Hp}, Inv (X.blk sc Hc scope ce fp) ([] ++ pinsAt fp sg.heap) τ Hx sx → Nx Hx → ∃ m, m < n ∧ ∃ i Hx, Inv (X.blk sc Hc scope ce fp) [] (wipe σ (own.map (·.2))) Hx sx ∧ tn i sx.heap ∧ (∀ b ∈ fp, Hx b = none) ∧ W i m Hx := by
          intro sx Hx ivx nxx
          obtain ⟨m', hm, w'⟩ := nx Hx nxx
          have held : ∀ b ∈ fp, ∀ ob, sg.heap.get? b = some ob → sx.heap.get? b = some ob ∧ Hx b = none := fun b hb ob z => by
            have pn := ivx.pin (b, ob) (List.mem_append_right _ (List.mem_append_right _ (mem_pinsAt hb z)))
            exact ⟨pn.1, pn.2.1⟩
          refine ⟨m', hm, i + 1, Hx, (ivx.unpinned (pins := [])).weak (by rw [← same, wipe_length]) (fun j v z => (wipe_some (by rw [same]; exact z)).1), turns.keep _ _ _ stg fun b hb ob z => (held b hb ob z).1, fun b hb => ?_, w'⟩
          obtain ⟨ob, z, _⟩ := turns.obj _ _ stg b hb
          exact (held b hb ob z).2
        cases yes with
        | false => exact close ivj qj
        | true =>
          refine thnF (K1.run _ sj τ Hj _ ivj qj) ?_
          rintro kv sk ⟨yk, Hk, ivk, rk, qk⟩
          refine thnF (V1.run _ sk τ Hk _ ivk qk) ?_
          rintro vv sl ⟨yv, Hl, ivl, rl, kvs, key, p, ekey, ep, hD, hz, nxl⟩
          subst ekey
          cases (show kv = Value.ref p from rk)
          exact setT_any (X := X.blk sc Hc scope ce fp) hu ivl hD hz ep rl fun sm ivm => close ivm nxl
    exact codeAny_compStart_dict loop (turns.self X.A 0 _ _ _ std loop)
  rw [esc] at aim
  exact aim
/-- as a value -/
theorem pe_dcT {kx vx tg iter : Expr} {ifs : List Expr} {scope : Scope} {own : List (Str × Nat)} {pos : Pos} {wi : TI} {g : TG} {tt : TT} {tk tv : TE} (hu : X.A.units < cLine) (hc : X.calm = true) (hN : X.N.Nodup) (hi : PI X tg iter wi) (ok : BlkOk X.N X.env.scope scope own)
    (hg : ∀ (q : Shared) (G : Hp) (C : Addr) (cl : List (Str × Addr)) (fp : List Addr), PG (X.blk q G scope (compEnvC scope cl C X.env) fp) tg g) (ht : ∀ (q : Shared) (G : Hp) (C : Addr) (cl : List (Str × Addr)) (fp : List Addr), PTs (X.blk q G scope (compEnvC scope cl C X.env) fp) ifs tt)
    (hk : ∀ (q : Shared) (G : Hp) (C : Addr) (cl : List (Str × Addr)) (fp : List Addr), PE (X.blk q G scope (compEnvC scope cl C X.env) fp) kx tk)
    (hv : ∀ (q : Shared) (G : Hp) (C : Addr) (cl : List (Str × Addr)) (fp : List Addr), PE (X.blk q G scope (compEnvC scope cl C X.env) fp) vx tv) (hs : ∀ x, foldedSetIterable iter X.env x = pure x := by intro _; rfl) :
    PE X (.DictComp kx vx [⟨tg, iter, ifs, 0⟩] scope pos) (tDcT wi g tt tk tv (own.map (·.2))) := by
  constructor
  intro pins sh σ Ha Q inv want
  rw [arm_eval_DictComp]
  refine dcT_core inv hu hc hN hi ok hg ht hk hv hs want ?_
  rintro D C sz mm Hz iz qz nz ⟨f0, f1, f2, f3, f4, f5⟩
  exact ⟨mm, nz, fun hq sq => ⟨.ref D, Hz, iz.turned (t' := sz.toks) (fun b ob hb z => (sq.2 b hb).trans z) f0 f1 f3 f4 f5, rfl, qz⟩⟩
end
end SLd
namespace SL
open PySem PySem.Spec PyProof.Rows L2
open Classical in
noncomputable def dcRun (x : W) (all : List W) (g : TgF) (t : SemB) (ek ev : Sem) (fr : Fr) : List W → Sto → Out (List (W × W))
  | [], st => if srcOk x all st then .ok [] st else .bad
  | w :: r, st => if srcOk x all st then (match g w fr st with
    | some fr1 => match t fr1 st with
      | .ok true st1 => match ek fr1 st1 with
        | .ok y st2 => match ev fr1 st2 with
          | .ok z st3 => match dcRun x all g t ek ev fr r st3 with
            | .ok ys st4 => .ok ((y, z) :: ys) st4
            | _ => .bad
          | _ => .bad
        | _ => .bad
      | .ok false st1 => dcRun x all g t ek ev fr r st1
      | _ => .bad
    | none => .bad) else .bad
/-- {k: v for .. in ..}: the keys are unlike tuples; the dict is to live -/
noncomputable def eDcT (f : SemI) (g : TgF) (own : List Nat) (t : SemB) (ek ev : Sem) : Sem := fun fr st => (f fr st).bind fun p st1 => match dcRun p.1 p.2 g t ek ev (wipeF fr own) p.2 st1 with
  | .ok ys st2 => (match mapO keyT (ys.map (·.1)) with
    | some kk => if dec kk.Nodup = true then .ok (.cell st2.length) (st2 ++ [.dct (.ty "T" :: ys.map (·.1)) (ys.map (·.2))]) else .bad
    | none => .bad)
  | _ => .bad
/-- a hidden object becomes a cell -/
theorem StOk.cellOfC {K : PySem.W.Frag} {mg : Str → Option Value} {μ : List Addr} {st : Sto} {hid : List Addr} {H : Hp} {p : Addr} {c : Cel} (k : StOk K mg μ st (p :: hid) H) (hn : p ∉ hid) (hl : c.live = true) (hc : CelOk K mg (Fz μ st (p :: hid) H) μ H p c) :
    StOk K mg (μ ++ [p]) (st ++ [c]) hid H ∧ Fz (μ ++ [p]) (st ++ [c]) hid H = Fz μ st (p :: hid) H := by
  have spl : ∀ {m : Nat} {a : Addr} {d : Cel}, (μ ++ [p])[m]? = some a → (st ++ [c])[m]? = some d → (m < st.length ∧ μ[m]? = some a ∧ st[m]? = some d) ∨ (m = st.length ∧ a = p ∧ d = c) := fun {m a d} e1 e2 => by
    by_cases z : m < st.length
    · rw [List.getElem?_append_left (by rw [k.len]; exact z)] at e1
      rw [List.getElem?_append_left z] at e2
      exact .inl ⟨z, e1, e2⟩
    · by_cases y : m = st.length
      · subst y
        rw [List.getElem?_append_right (by rw [k.len]; exact Nat.le_refl _), k.len] at e1
        rw [List.getElem?_append_right (Nat.le_refl _)] at e2
        simp at e1 e2
        exact .inr ⟨rfl, e1.symm, e2.symm⟩
      · rw [List.getElem?_append_right (by omega)] at e2
        rw [List.getElem?_eq_none (by simp; omega)] at e2; cases e2
  have lv : ∀ a, LiveA (μ ++ [p]) (st ++ [c]) hid a ↔ LiveA μ st (p :: hid) a := fun a => by
    constructor
    · rintro (h | ⟨m, d, e1, e2, e3⟩)
      · exact .inl (List.mem_cons_of_mem _ h)
      · rcases spl e1 e2 with ⟨y1, y2, y3⟩ | ⟨y1, y2, y3⟩
        · exact .inr ⟨m, d, y2, y3, e3⟩
        · subst y2; exact .inl List.mem_cons_self
    · rintro (h | ⟨m, d, e1, e2, e3⟩)
      · rcases List.mem_cons.mp h with h | h
        · subst h
          exact .inr ⟨st.length, c, by rw [List.getElem?_append_right (by rw [k.len]; exact Nat.le_refl _), k.len]; simp, by simp, hl⟩
        · exact .inl h
      · have z : m < st.length := by
          rcases Nat.lt_or_ge m st.length with q | q
          · exact q
          · rw [List.getElem?_eq_none q] at e2; cases e2
        exact .inr ⟨m, d, by rw [List.getElem?_append_left (by rw [k.len]; exact z)]; exact e1, by rw [List.getElem?_append_left z]; exact e2, e3⟩
  have e : Fz (μ ++ [p]) (st ++ [c]) hid H = Fz μ st (p :: hid) H := by
    funext a
    by_cases h : LiveA μ st (p :: hid) a
    · unfold Fz; rw [if_pos h, if_pos ((lv a).mpr h)]
    · unfold Fz; rw [if_neg h, if_neg fun y => h ((lv a).mp y)]
  have pre : Pre μ (μ ++ [p]) := ⟨[p], rfl⟩
  have np : ∀ {m : Nat} {a : Addr} {d : Cel}, μ[m]? = some a → st[m]? = some d → d.live = true → a ≠ p := fun {m a d} e1 e2 e3 z => k.hidn m a d e1 e2 e3 (z ▸ List.mem_cons_self)
  refine ⟨⟨by simp [k.len], fun i j a d d' h2 h3 h4 h4' h5 h5' => ?_, fun j a d h2 h3 h4 => ?_, fun a ha => k.hidt a (List.mem_cons_of_mem _ ha), fun j a d h2 h3 => ?_⟩, e⟩
  · rcases spl h2 h4 with ⟨y1, y2, y3⟩ | ⟨y1, y2, y3⟩ <;> rcases spl h3 h4' with ⟨z1, z2, z3⟩ | ⟨z1, z2, z3⟩
    · exact k.inj i j a d d' y2 z2 y3 z3 h5 h5'
    · exact absurd z2 (np y2 y3 h5)
    · exact absurd y2 (np z2 z3 h5')
    · omega
  · rcases spl h2 h3 with ⟨y1, y2, y3⟩ | ⟨y1, y2, y3⟩
    · exact fun z => k.hidn j a d y2 y3 h4 (List.mem_cons_of_mem _ z)
    · subst y2; exact hn
  · rw [e]
    rcases spl h2 h3 with ⟨y1, y2, y3⟩ | ⟨y1, y2, y3⟩
    · exact (k.ok j a d y2 y3).le (.refl _) pre
    · subst y2 y3; exact hc.le (.refl _) pre
structure DcSt (K : PySem.W.Frag) (mg : Str → Option Value) (D : Addr) (hid μ0 : List Addr) (F0 : Hp) (H0 : Hp) (i : Nat) (μ : List Addr) (st : Sto) (H : Hp) (ps : List (W × W)) (kk : List KeyL) (vs : List V) : Prop where
  sto : StOk K mg μ st (D :: hid) H
  le : Le F0 (Fz μ st (D :: hid) H)
  pre : Pre μ0 μ
  hidk : ∀ a ∈ hid, H a = H0 a
  lck : Lk H0 H
  at_ : H D = some (.dT (kk.zip vs))
  keys : mapO keyT (ps.map (·.1)) = some kk
  rep : Reps K mg (Fz μ st (D :: hid) H) μ (ps.map (·.2)) vs
  vlen : kk.length = vs.length
  len : kk.length ≤ i
theorem mapO_app {α β : Type} {f : α → Option β} : ∀ {l m : List α} {r : List β}, mapO f (l ++ m) = some r → ∃ a b, mapO f l = some a ∧ mapO f m = some b ∧ r = a ++ b
  | [], m, r, h => ⟨[], r, rfl, h, rfl⟩
  | x :: l, m, r, h => by
    rw [List.cons_append] at h
    unfold mapO at h
    cases e1 : f x with
    | none => rw [e1] at h; cases h
    | some y =>
      cases e2 : mapO f (l ++ m) with
      | none => rw [e1, e2] at h; cases h
      | some ys =>
        rw [e1, e2] at h; cases h
        obtain ⟨a, b, h1, h2, h3⟩ := mapO_app e2
        exact ⟨y :: a, b, by unfold mapO; rw [e1, h1], h2, by rw [h3]; rfl⟩
theorem putK_new {κ : Type} [DecidableEq κ] {kk : List κ} {vs : List V} {k : κ} {v : V} (hl : kk.length = vs.length) (h : k ∉ kk) : putK (kk.zip vs) k v = (kk ++ [k]).zip (vs ++ [v]) := by
  unfold putK
  have e : ((kk.zip vs).any fun kv => decide (kv.1 = k)) = false := by
    rw [List.any_eq_false]
    intro p hp q
    exact h (by rw [← of_decide_eq_true q]; exact (List.of_mem_zip hp).1)
  rw [e, List.zip_append hl]; rfl
theorem dc_read {X : Cx} {Wx : Wish} {f : SemI} {g : TgF} {sl own : List Nat} {t : SemB} {ek ev : Sem} (hsl : ∀ i ∈ sl, i ∈ own) (hlk : ∀ i ∈ Wx.lock, i ∉ own) : ∀ σ H Q, tE X.K X.mg Wx (eDcT f g own t ek ev) σ H Q →
    SLd.tDcT (tI X.K X.mg Wx f) (tG X.K X.mg Wx.blk g sl) (tB' X.K X.mg Wx.blk t) (tE X.K X.mg Wx.blk ek) (tE X.K X.mg Wx.blk ev) own σ H Q := fun σ H Q ⟨μ, st, hid, fr, S, P⟩ => by
  refine ⟨μ, st, hid, fr, S, ?_⟩
  unfold eDcT at P
  cases h1 : f fr st with
  | bad => rw [h1] at P; exact P
  | err x s => rw [h1] at P; exact P
  | ok p st1 =>
    obtain ⟨x, all⟩ := p
    rw [h1, Out.bind_ok] at P
    intro μ1 H1 J k1 g1 ji D hD
    have P1 := EPost.from g1 P
    have S1 := S.next k1 g1
    simp only at P1
    cases hr : dcRun x all g t ek ev (wipeF fr own) all st1 with
    | bad => rw [hr] at P1; exact P1.elim
    | err z s => rw [hr] at P1; exact P1.elim
    | ok tot stE =>
      rw [hr] at P1
      simp only at P1
      cases hkk : mapO keyT (tot.map (·.1)) with
      | none => rw [hkk] at P1; exact P1.elim
      | some kkT =>
      rw [hkk] at P1
      simp only at P1
      split at P1
      case isFalse => exact P1.elim
      rename_i hnd
      have hnd := dec_of hnd
      have hDn : D ∉ hid := fun z => (k1.hidt D z).1 hD
      obtain ⟨k2, e2⟩ := k1.hideNew (o := .dT []) hD
      refine ⟨fun i m H => m = all.length - i ∧ i ≤ all.length ∧ ∃ μ st ps kk vs rest, DcSt X.K X.mg D hid μ1 (Fz μ1 st1 hid H1) H1 i μ st H ps kk vs ∧ dcRun x all g t ek ev (wipeF fr own) (all.drop i) st = .ok rest stE ∧ ps ++ rest = tot,
        ⟨_, rfl, Nat.zero_le _, μ1, st1, [], [], [], tot, ⟨k2, by rw [e2]; exact .refl _, .refl _, fun a ha => upd_ne fun z => hDn (z ▸ ha), fun a o u h => by rw [upd_ne (ne_of_none h hD)]; exact h, upd_same, rfl, .nil, rfl, Nat.le_refl _⟩, hr, rfl⟩, ?_⟩
      rintro i m H2 ⟨rfl, hi, μ2, st2, ps, kk, vs, rest, L, run, tt⟩
      by_cases hlt : i < all.length
      · rw [List.drop_eq_getElem_cons hlt, dcRun] at run
        split at run
        · rename_i hs
          refine .inr ⟨ji.go _ _ _ _ i L.sto L.le L.pre L.lck hs hlt, fun H => ∃ μ st ps kk vs rest, DcSt X.K X.mg D hid μ1 (Fz μ1 st1 hid H1) H1 (i + 1) μ st H ps kk vs ∧ dcRun x all g t ek ev (wipeF fr own) (all.drop (i + 1)) st = .ok rest stE ∧ ps ++ rest = tot,
            fun H' q => ⟨_, by omega, rfl, hlt, q⟩, fun v H3 hy => ?_⟩
          obtain ⟨k3, g3, w, hw, rw_⟩ := ji.yld _ _ _ _ i v H3 L.sto L.le L.pre L.lck hs hlt hy
          have ew : all[i] = w := by
            rw [List.getElem?_eq_getElem hlt] at hw; exact Option.some.inj hw
          rw [ew] at run
          cases e3 : g w (wipeF fr own) st2 with
          | none => rw [e3] at run; cases run
          | some fr1 =>
            rw [e3] at run
            simp only at run
            have S3 : SI X.K X.mg Wx.blk μ2 st2 (D :: hid) (wipeF fr own) (wipe σ own) H3 := by
              have W := (S1.wipe own hlk).blk
              have l3 : Le (Fz μ1 st1 hid H1) (Fz μ2 st2 (D :: hid) H3) := L.le.trans g3.le
              exact ⟨k3, W.len, fun j u hj => by
                obtain ⟨v, ev, rv⟩ := W.loc j u hj
                exact ⟨v, ev, Rep.mono l3 L.pre _ _ rv⟩, Wx.blk.mono _ _ _ _ _ l3 L.pre W.ex⟩
            refine ⟨μ2, st2, D :: hid, wipeF fr own, w, fr1, S3, rw_, e3, fun σ2 S4 ag => ⟨wipe_ext (by rw [ag.1, wipe_length]) fun j hj => ag.2 j fun z => hj (hsl j z), μ2, st2, D :: hid, fr1, S4, ?_⟩⟩
            cases e4 : t fr1 st2 with
            | bad => rw [e4] at run; cases run
            | err z s => rw [e4] at run; cases run
            | ok b st3 =>
              rw [e4] at run
              intro μ3 H4 k4 g4
              have keep : ∀ {μ' : List Addr} {st' : Sto} {H' : Hp}, Grow (D :: hid) μ2 st2 H3 μ' st' H' → StOk X.K X.mg μ' st' (D :: hid) H' → DcSt X.K X.mg D hid μ1 (Fz μ1 st1 hid H1) H1 i μ' st' H' ps kk vs := fun gg kq =>
                ⟨kq, (L.le.trans g3.le).trans gg.le, L.pre.trans gg.pre, fun a ha => ((gg.hid a (List.mem_cons_of_mem _ ha)).trans (g3.hid a (List.mem_cons_of_mem _ ha))).trans (L.hidk a ha), L.lck.trans (g3.lck.trans gg.lck),
                  ((gg.hid D List.mem_cons_self).trans (g3.hid D List.mem_cons_self)).trans L.at_, L.keys, L.rep.mono (g3.le.trans gg.le) gg.pre, L.vlen, L.len⟩
              cases b with
              | false =>
                refine iteF ?_
                have Q4 := keep g4 k4
                exact ⟨μ3, st3, ps, kk, vs, rest, ⟨Q4.sto, Q4.le, Q4.pre, Q4.hidk, Q4.lck, Q4.at_, Q4.keys, Q4.rep, Q4.vlen, Nat.le_succ_of_le Q4.len⟩, run, tt⟩
              | true =>
                refine iteT ⟨μ3, st3, D :: hid, fr1, S4.next k4 g4, ?_⟩
                simp only at run
                cases e5 : ek fr1 st3 with
                | bad => rw [e5] at run; cases run
                | err z s => rw [e5] at run; cases run
                | ok y st4 =>
                  rw [e5] at run
                  simp only at run
                  intro μ4 H5 vy k5 g5 r5
                  refine ⟨μ4, st4, D :: hid, fr1, (S4.next k4 g4).next k5 g5, ?_⟩
                  cases e6 : ev fr1 st4 with
                  | bad => rw [e6] at run; cases run
                  | err z s => rw [e6] at run; cases run
                  | ok u st5 =>
                    rw [e6] at run
                    simp only at run
                    intro μ5 H6 vu k6 g6 r6
                    have Q6 := keep ((g4.trans g5).trans g6) k6
                    cases e7 : dcRun x all g t ek ev (wipeF fr own) (all.drop (i + 1)) st5 with
                    | bad => rw [e7] at run; cases run
                    | err z s => rw [e7] at run; cases run
                    | ok more stF =>
                      rw [e7] at run
                      simp only at run
                      injection run with ra rb
                      subst ra rb
                      rw [← tt, List.map_append, List.map_cons] at hkk
                      obtain ⟨a1, b1, m1, m2, m3⟩ := mapO_app hkk
                      have ea : a1 = kk := Option.some.inj (m1.symm.trans L.keys)
                      subst ea
                      unfold mapO at m2
                      cases ey : keyT y with
                      | none => simp only [ey] at m2; cases m2
                      | some key =>
                      cases em : mapO keyT (more.map (·.1)) with
                      | none => simp only [ey, em] at m2; cases m2
                      | some rk =>
                      simp only [ey, em] at m2
                      have eb : b1 = key :: rk := (Option.some.inj m2).symm
                      have fresh : key ∉ a1 := fun z => by
                        rw [m3, eb] at hnd
                        exact (List.nodup_append.mp hnd).2.2 key z key List.mem_cons_self rfl
                      obtain ⟨pa, rfl, hpa⟩ := keyT_rep ey (Rep.mono g6.le g6.pre _ _ r5)
                      have lz : (a1.zip vs).length < sizeLine := by
                        rw [List.length_zip]
                        have := Q6.len
                        have := ji.len
                        have := Q6.vlen
                        omega
                      refine ⟨a1.zip vs, key, pa, rfl, (Fz.sub hpa).1, Q6.at_, lz, μ5, st5, ps ++ [(y, u)], a1 ++ [key], vs ++ [vu], more, ⟨Q6.sto.hidUpd List.mem_cons_self, ?_, Q6.pre, fun a ha => ?_, fun a o w h => ?_, ?_, ?_, ?_, ?_, ?_⟩, e7, by rw [← tt]; simp⟩
                      · rw [Fz.hidUpd List.mem_cons_self]; exact Q6.le
                      · rw [upd_ne (fun z : a = D => hDn (z ▸ ha))]; exact Q6.hidk a ha
                      · have q := Q6.lck a o w h
                        rw [upd_ne fun z => by rw [z, Q6.at_] at q; cases q]; exact q
                      · rw [upd_same, putK_new Q6.vlen fresh]
                      · rw [List.map_append]
                        exact mapO_snoc Q6.keys ey
                      · rw [Fz.hidUpd List.mem_cons_self, List.map_append]; exact Q6.rep.append (.cons r6 .nil)
                      · rw [List.length_append, List.length_append, Q6.vlen]; rfl
                      · rw [List.length_append, List.length_singleton]; exact Nat.succ_le_succ Q6.len
        · cases run
      · have hi2 : i = all.length := by omega
        subst hi2
        rw [List.drop_length, dcRun] at run
        split at run
        · rename_i hs
          injection run with ra rb
          subst ra rb
          refine .inl ⟨ji.stop _ _ _ _ _ L.sto L.le L.pre L.lck hs (Nat.le_refl _), ?_⟩
          rw [List.append_nil] at tt
          subst tt
          have ek' : kk = kkT := Option.some.inj (L.keys.symm.trans hkk)
          obtain ⟨k9, e9⟩ := L.sto.cellOfC (c := .dct (.ty "T" :: ps.map (·.1)) (ps.map (·.2))) hDn rfl ⟨vs, ⟨false, .inr kk, kind_T1 L.keys, L.vlen, L.at_⟩, L.rep⟩
          refine P1 _ _ _ k9 ⟨L.pre.trans ⟨[D], rfl⟩, by rw [e9]; exact L.le, L.hidk, L.lck⟩ ?_
          unfold Rep
          exact ⟨D, by rw [← L.sto.len]; simp, rfl⟩
        · cases run
section
variable {X : Cx} {Wx : Wish}
theorem ev_dcT {k : Nat} {kx vx tg iter : Expr} {ifs : List Expr} {scope : Scope} {own : List (Str × Nat)} {pos : Pos} {f : SemI} {g : TgF} {sl : List Nat} {t : SemB} {ek ev : Sem} (C : Ctx X Wx k) (hi : IV X Wx tg iter f) (ok : blkC X.N X.env.scope scope own = true)
    (hsl : ∀ i ∈ sl, i ∈ own.map (·.2)) (hlk : ∀ i ∈ Wx.lock, i ∉ own.map (·.2))
    (hg : ∀ (s : Shared) (H : Hp) (C : Addr) (cl : List (Str × Addr)) (fp : List Addr), GV (X.blk s H scope (compEnvC scope cl C X.env) fp) Wx.blk tg g sl)
    (ht : ∀ (s : Shared) (H : Hp) (C : Addr) (cl : List (Str × Addr)) (fp : List Addr), PTs (X.blk s H scope (compEnvC scope cl C X.env) fp) ifs (tB' X.K X.mg Wx.blk t))
    (hk : ∀ (s : Shared) (H : Hp) (C : Addr) (cl : List (Str × Addr)) (fp : List Addr), EV (X.blk s H scope (compEnvC scope cl C X.env) fp) Wx.blk kx ek)
    (hv : ∀ (s : Shared) (H : Hp) (C : Addr) (cl : List (Str × Addr)) (fp : List Addr), EV (X.blk s H scope (compEnvC scope cl C X.env) fp) Wx.blk vx ev) (hs : ∀ x, foldedSetIterable iter X.env x = pure x := by intro _; rfl) :
    EV X Wx (.DictComp kx vx [⟨tg, iter, ifs, 0⟩] scope pos) (eDcT f g (own.map (·.2)) t ek ev) :=
  PEm (SLd.pe_dcT (by have := C.room.un; omega) C.calm C.nd hi (blkOk_by ok) hg ht hk hv hs) (dc_read hsl hlk)
end
/-- told of each item -/
theorem dc_mp {α : Type} {x : W} {all : List W} {g : TgF} {t : SemB} {ek ev : Sem} {fr : Fr} {h kf vf : α → W} {st : Sto} (hs : srcOk x all st) : ∀ l : List α, (∀ a ∈ l, ∃ fr1, g (h a) fr st = some fr1 ∧ t fr1 st = .ok true st ∧ ek fr1 st = .ok (kf a) st ∧ ev fr1 st = .ok (vf a) st) → dcRun x all g t ek ev fr (l.map h) st = .ok (l.map fun a => (kf a, vf a)) st
  | [], _ => by rw [List.map_nil]; unfold dcRun; rw [if_pos hs]; rfl
  | a :: r, q => by
    obtain ⟨fr1, h1, h2, h3, h4⟩ := q a List.mem_cons_self
    have ih := dc_mp hs r fun u hu => q u (List.mem_cons_of_mem _ hu)
    rw [List.map_cons]
    unfold dcRun
    rw [if_pos hs, h1]
    simp only [h2, h3, h4, ih, List.map_cons]
theorem x_dcT {f : SemI} {g : TgF} {own : List Nat} {t : SemB} {ek ev : Sem} {fr : Fr} {st st1 st2 : Sto} {x : W} {all : List W} {ys : List (W × W)} {kk : List KeyL} (h : f fr st = .ok (x, all) st1) (h2 : dcRun x all g t ek ev (wipeF fr own) all st1 = .ok ys st2) (h3 : mapO keyT (ys.map (·.1)) = some kk) (h4 : kk.Nodup) : eDcT f g own t ek ev fr st = .ok (.cell st2.length) (st2 ++ [.dct (.ty "T" :: ys.map (·.1)) (ys.map (·.2))]) := by
  unfold eDcT
  rw [h, Out.bind_ok]
  simp only [h2, h3, dec_mk h4, if_true]
end SL

/-! # comprehensions of two clauses; (*t, ..) -/
namespace SL
open PySem PySem.Spec PyProof.Rows L2
/-! ## two clauses -/
open Classical in
structure LsSt (K : PySem.W.Frag) (mg : Str → Option Value) (D : Addr) (hid μ0 : List Addr) (F0 : Hp) (H0 : Hp) (μ : List Addr) (st : Sto) (H : Hp) (ys : List W) (acc : List V) : Prop where
  sto : StOk K mg μ st (D :: hid) H
  le : Le F0 (Fz μ st (D :: hid) H)
  pre : Pre μ0 μ
  hidk : ∀ a ∈ hid, H a = H0 a
  lck : Lk H0 H
  at_ : H D = some (.lst acc)
  rep : Reps K mg (Fz μ st (D :: hid) H) μ ys acc
theorem LsSt.push {K : PySem.W.Frag} {mg : Str → Option Value} {D : Addr} {hid μ0 μ : List Addr} {F0 H0 H : Hp} {st : Sto} {ys : List W} {acc : List V} {y : W} {v : V} (L : LsSt K mg D hid μ0 F0 H0 μ st H ys acc) (hDn : D ∉ hid) (r : Rep K mg (Fz μ st (D :: hid) H) μ y v) : LsSt K mg D hid μ0 F0 H0 μ st (upd H D (.lst (acc ++ [v]))) (ys ++ [y]) (acc ++ [v]) := by
  have e : Fz μ st (D :: hid) (upd H D (.lst (acc ++ [v]))) = Fz μ st (D :: hid) H := Fz.hidUpd List.mem_cons_self
  refine ⟨L.sto.hidUpd List.mem_cons_self, by rw [e]; exact L.le, L.pre, fun a ha => ?_, fun a o u h => ?_, upd_same, by rw [e]; exact L.rep.append (.cons r .nil)⟩
  · rw [upd_ne (fun z : a = D => hDn (z ▸ ha))]; exact L.hidk a ha
  · have q := L.lck a o u h
    rw [upd_ne fun z => by rw [z, L.at_] at q; cases q]; exact q
section
variable {X : Cx} {Wx : Wish}
end
end SL

/-! # pairs of ints: min of a list, >; x in a tuple of data; list(range(n)) that lives -/
namespace SL
open PySem PySem.Spec PyProof.Rows L2
section
variable {X : Cx}
/-! ## t > u of pairs -/
/-! ## x in a tuple of data -/
end
/-! ## list(range(n)), to live -/
section
variable {X : Cx} {Wx : Wish}
end
end SL

/-! # d.get(k) of dicts with tuple keys; a dict that is not to change any more -/
namespace SLd
open PySem PySem.Spec PyProof.Rows L2
end SLd
namespace SL
open PySem PySem.Spec PyProof.Rows L2
section
variable {X : Cx} {Wx : Wish}
end
/-- a def by another name of the text -/
theorem fn_isA {lv : Nat → W → Sto → Out W} {P : Program} {w : World} {K : PySem.W.Frag} {mg : Str → Option Value} {base : Heap} {x y qual : Str} {st : Stmt} {f : Addr} {fd : FuncData} {N ps : List Str} {k m n : Nat} {b : SSem} (hlv : LvOk K mg lv) (F : Fun K y qual st f fd) (hx : mg x = some (.ref f)) (hB : Binds K fd ps []) (S : FnScope N ps (defScope st))
    (hb : ∀ (cdv : Value) (A : Around) (outer : List Env) (s : Shared) (H : Hp) (E : XK), Ctx (cxOf (L2.CX P w) P w K mg base N qual (defScope st) f cdv A outer s H E) (Wish.of fun c d _ H => E c d H) k → BV (cxOf (L2.CX P w) P w K mg base N qual (defScope st) f cdv A outer s H E) (Wish.of fun c d _ H => E c d H) (defBody st) b)
    (hm : N.length = m := by rfl) (hn : ps.length = n := by rfl) : FnIs P w K mg base x (k + 1) n (mkFnG lv m b) :=
  ⟨f, fd, ps, fn_okG hlv F S hm hn hb, hx, F.kp, hB⟩
end SL

namespace SL
open PySem PySem.Spec PyProof.Rows L2
/-! # plain reckoning: what the meanings come to -/
/-! frames, place by place -/
section
variable {α : Type} {a0 a1 a2 a3 a4 a5 a6 a7 a8 a9 a10 a11 a12 a13 a14 a15 a16 a17 a18 a19 a20 a21 a22 a23 a24 a25 a26 a27 a28 a29 a30 a31 a32 b : α} {l : List α}
@[simp high] theorem fg0 : (a0 :: l)[0]? = some a0 := rfl
@[simp high] theorem fs0 : (a0 :: l).set 0 b = b :: l := rfl
@[simp high] theorem fg1 : (a0 :: a1 :: l)[1]? = some a1 := rfl
@[simp high] theorem fs1 : (a0 :: a1 :: l).set 1 b = a0 :: b :: l := rfl
@[simp high] theorem fg2 : (a0 :: a1 :: a2 :: l)[2]? = some a2 := rfl
@[simp high] theorem fs2 : (a0 :: a1 :: a2 :: l).set 2 b = a0 :: a1 :: b :: l := rfl
@[simp high] theorem fg3 : (a0 :: a1 :: a2 :: a3 :: l)[3]? = some a3 := rfl
@[simp high] theorem fs3 : (a0 :: a1 :: a2 :: a3 :: l).set 3 b = a0 :: a1 :: a2 :: b :: l := rfl
@[simp high] theorem fg4 : (a0 :: a1 :: a2 :: a3 :: a4 :: l)[4]? = some a4 := rfl
@[simp high] theorem fs4 : (a0 :: a1 :: a2 :: a3 :: a4 :: l).set 4 b = a0 :: a1 :: a2 :: a3 :: b :: l := rfl
@[simp high] theorem fg5 : (a0 :: a1 :: a2 :: a3 :: a4 :: a5 :: l)[5]? = some a5 := rfl
@[simp high] theorem fs5 : (a0 :: a1 :: a2 :: a3 :: a4 :: a5 :: l).set 5 b = a0 :: a1 :: a2 :: a3 :: a4 :: b :: l := rfl
@[simp high] theorem fg6 : (a0 :: a1 :: a2 :: a3 :: a4 :: a5 :: a6 :: l)[6]? = some a6 := rfl
@[simp high] theorem fs6 : (a0 :: a1 :: a2 :: a3 :: a4 :: a5 :: a6 :: l).set 6 b = a0 :: a1 :: a2 :: a3 :: a4 :: a5 :: b :: l := rfl
@[simp high] theorem fg7 : (a0 :: a1 :: a2 :: a3 :: a4 :: a5 :: a6 :: a7 :: l)[7]? = some a7 := rfl
@[simp high] theorem fs7 : (a0 :: a1 :: a2 :: a3 :: a4 :: a5 :: a6 :: a7 :: l).set 7 b = a0 :: a1 :: a2 :: a3 :: a4 :: a5 :: a6 :: b :: l := rfl
@[simp high] theorem fg8 : (a0 :: a1 :: a2 :: a3 :: a4 :: a5 :: a6 :: a7 :: a8 :: l)[8]? = some a8 := rfl
@[simp high] theorem fs8 : (a0 :: a1 :: a2 :: a3 :: a4 :: a5 :: a6 :: a7 :: a8 :: l).set 8 b = a0 :: a1 :: a2 :: a3 :: a4 :: a5 :: a6 :: a7 :: b :: l := rfl
@[simp high] theorem fg9 : (a0 :: a1 :: a2 :: a3 :: a4 :: a5 :: a6 :: a7 :: a8 :: a9 :: l)[9]? = some a9 := rfl
@[simp high] theorem fs9 : (a0 :: a1 :: a2 :: a3 :: a4 :: a5 :: a6 :: a7 :: a8 :: a9 :: l).set 9 b = a0 :: a1 :: a2 :: a3 :: a4 :: a5 :: a6 :: a7 :: a8 :: b :: l := rfl
@[simp high] theorem fg10 : (a0 :: a1 :: a2 :: a3 :: a4 :: a5 :: a6 :: a7 :: a8 :: a9 :: a10 :: l)[10]? = some a10 := rfl
@[simp high] theorem fs10 : (a0 :: a1 :: a2 :: a3 :: a4 :: a5 :: a6 :: a7 :: a8 :: a9 :: a10 :: l).set 10 b = a0 :: a1 :: a2 :: a3 :: a4 :: a5 :: a6 :: a7 :: a8 :: a9 :: b :: l := rfl
@[simp high] theorem fg11 : (a0 :: a1 :: a2 :: a3 :: a4 :: a5 :: a6 :: a7 :: a8 :: a9 :: a10 :: a11 :: l)[11]? = some a11 := rfl
@[simp high] theorem fs11 : (a0 :: a1 :: a2 :: a3 :: a4 :: a5 :: a6 :: a7 :: a8 :: a9 :: a10 :: a11 :: l).set 11 b = a0 :: a1 :: a2 :: a3 :: a4 :: a5 :: a6 :: a7 :: a8 :: a9 :: a10 :: b :: l := rfl
@[simp high] theorem fg12 : (a0 :: a1 :: a2 :: a3 :: a4 :: a5 :: a6 :: a7 :: a8 :: a9 :: a10 :: a11 :: a12 :: l)[12]? = some a12 := rfl
@[simp high] theorem fs12 : (a0 :: a1 :: a2 :: a3 :: a4 :: a5 :: a6 :: a7 :: a8 :: a9 :: a10 :: a11 :: a12 :: l).set 12 b = a0 :: a1 :: a2 :: a3 :: a4 :: a5 :: a6 :: a7 :: a8 :: a9 :: a10 :: a11 :: b :: l := rfl
@[simp high] theorem fg13 : (a0 :: a1 :: a2 :: a3 :: a4 :: a5 :: a6 :: a7 :: a8 :: a9 :: a10 :: a11 :: a12 :: a13 :: l)[13]? = some a13 := rfl
@[simp high] theorem fs13 : (a0 :: a1 :: a2 :: a3 :: a4 :: a5 :: a6 :: a7 :: a8 :: a9 :: a10 :: a11 :: a12 :: a13 :: l).set 13 b = a0 :: a1 :: a2 :: a3 :: a4 :: a5 :: a6 :: a7 :: a8 :: a9 :: a10 :: a11 :: a12 :: b :: l := rfl
@[simp high] theorem fg14 : (a0 :: a1 :: a2 :: a3 :: a4 :: a5 :: a6 :: a7 :: a8 :: a9 :: a10 :: a11 :: a12 :: a13 :: a14 :: l)[14]? = some a14 := rfl
@[simp high] theorem fs14 : (a0 :: a1 :: a2 :: a3 :: a4 :: a5 :: a6 :: a7 :: a8 :: a9 :: a10 :: a11 :: a12 :: a13 :: a14 :: l).set 14 b = a0 :: a1 :: a2 :: a3 :: a4 :: a5 :: a6 :: a7 :: a8 :: a9 :: a10 :: a11 :: a12 :: a13 :: b :: l := rfl
@[simp high] theorem fg15 : (a0 :: a1 :: a2 :: a3 :: a4 :: a5 :: a6 :: a7 :: a8 :: a9 :: a10 :: a11 :: a12 :: a13 :: a14 :: a15 :: l)[15]? = some a15 := rfl
@[simp high] theorem fs15 : (a0 :: a1 :: a2 :: a3 :: a4 :: a5 :: a6 :: a7 :: a8 :: a9 :: a10 :: a11 :: a12 :: a13 :: a14 :: a15 :: l).set 15 b = a0 :: a1 :: a2 :: a3 :: a4 :: a5 :: a6 :: a7 :: a8 :: a9 :: a10 :: a11 :: a12 :: a13 :: a14 :: b :: l := rfl
@[simp high] theorem fg16 : (a0 :: a1 :: a2 :: a3 :: a4 :: a5 :: a6 :: a7 :: a8 :: a9 :: a10 :: a11 :: a12 :: a13 :: a14 :: a15 :: a16 :: l)[16]? = some a16 := rfl
@[simp high] theorem fs16 : (a0 :: a1 :: a2 :: a3 :: a4 :: a5 :: a6 :: a7 :: a8 :: a9 :: a10 :: a11 :: a12 :: a13 :: a14 :: a15 :: a16 :: l).set 16 b = a0 :: a1 :: a2 :: a3 :: a4 :: a5 :: a6 :: a7 :: a8 :: a9 :: a10 :: a11 :: a12 :: a13 :: a14 :: a15 :: b :: l := rfl
@[simp high] theorem fg17 : (a0 :: a1 :: a2 :: a3 :: a4 :: a5 :: a6 :: a7 :: a8 :: a9 :: a10 :: a11 :: a12 :: a13 :: a14 :: a15 :: a16 :: a17 :: l)[17]? = some a17 := rfl
@[simp high] theorem fs17 : (a0 :: a1 :: a2 :: a3 :: a4 :: a5 :: a6 :: a7 :: a8 :: a9 :: a10 :: a11 :: a12 :: a13 :: a14 :: a15 :: a16 :: a17 :: l).set 17 b = a0 :: a1 :: a2 :: a3 :: a4 :: a5 :: a6 :: a7 :: a8 :: a9 :: a10 :: a11 :: a12 :: a13 :: a14 :: a15 :: a16 :: b :: l := rfl
@[simp high] theorem fg18 : (a0 :: a1 :: a2 :: a3 :: a4 :: a5 :: a6 :: a7 :: a8 :: a9 :: a10 :: a11 :: a12 :: a13 :: a14 :: a15 :: a16 :: a17 :: a18 :: l)[18]? = some a18 := rfl
@[simp high] theorem fs18 : (a0 :: a1 :: a2 :: a3 :: a4 :: a5 :: a6 :: a7 :: a8 :: a9 :: a10 :: a11 :: a12 :: a13 :: a14 :: a15 :: a16 :: a17 :: a18 :: l).set 18 b = a0 :: a1 :: a2 :: a3 :: a4 :: a5 :: a6 :: a7 :: a8 :: a9 :: a10 :: a11 :: a12 :: a13 :: a14 :: a15 :: a16 :: a17 :: b :: l := rfl
@[simp high] theorem fg19 : (a0 :: a1 :: a2 :: a3 :: a4 :: a5 :: a6 :: a7 :: a8 :: a9 :: a10 :: a11 :: a12 :: a13 :: a14 :: a15 :: a16 :: a17 :: a18 :: a19 :: l)[19]? = some a19 := rfl
@[simp high] theorem fs19 : (a0 :: a1 :: a2 :: a3 :: a4 :: a5 :: a6 :: a7 :: a8 :: a9 :: a10 :: a11 :: a12 :: a13 :: a14 :: a15 :: a16 :: a17 :: a18 :: a19 :: l).set 19 b = a0 :: a1 :: a2 :: a3 :: a4 :: a5 :: a6 :: a7 :: a8 :: a9 :: a10 :: a11 :: a12 :: a13 :: a14 :: a15 :: a16 :: a17 :: a18 :: b :: l := rfl
@[simp high] theorem fg20 : (a0 :: a1 :: a2 :: a3 :: a4 :: a5 :: a6 :: a7 :: a8 :: a9 :: a10 :: a11 :: a12 :: a13 :: a14 :: a15 :: a16 :: a17 :: a18 :: a19 :: a20 :: l)[20]? = some a20 := rfl
@[simp high] theorem fs20 : (a0 :: a1 :: a2 :: a3 :: a4 :: a5 :: a6 :: a7 :: a8 :: a9 :: a10 :: a11 :: a12 :: a13 :: a14 :: a15 :: a16 :: a17 :: a18 :: a19 :: a20 :: l).set 20 b = a0 :: a1 :: a2 :: a3 :: a4 :: a5 :: a6 :: a7 :: a8 :: a9 :: a10 :: a11 :: a12 :: a13 :: a14 :: a15 :: a16 :: a17 :: a18 :: a19 :: b :: l := rfl
@[simp high] theorem fg21 : (a0 :: a1 :: a2 :: a3 :: a4 :: a5 :: a6 :: a7 :: a8 :: a9 :: a10 :: a11 :: a12 :: a13 :: a14 :: a15 :: a16 :: a17 :: a18 :: a19 :: a20 :: a21 :: l)[21]? = some a21 := rfl
@[simp high] theorem fs21 : (a0 :: a1 :: a2 :: a3 :: a4 :: a5 :: a6 :: a7 :: a8 :: a9 :: a10 :: a11 :: a12 :: a13 :: a14 :: a15 :: a16 :: a17 :: a18 :: a19 :: a20 :: a21 :: l).set 21 b = a0 :: a1 :: a2 :: a3 :: a4 :: a5 :: a6 :: a7 :: a8 :: a9 :: a10 :: a11 :: a12 :: a13 :: a14 :: a15 :: a16 :: a17 :: a18 :: a19 :: a20 :: b :: l := rfl
@[simp high] theorem fg22 : (a0 :: a1 :: a2 :: a3 :: a4 :: a5 :: a6 :: a7 :: a8 :: a9 :: a10 :: a11 :: a12 :: a13 :: a14 :: a15 :: a16 :: a17 :: a18 :: a19 :: a20 :: a21 :: a22 :: l)[22]? = some a22 := rfl
@[simp high] theorem fs22 : (a0 :: a1 :: a2 :: a3 :: a4 :: a5 :: a6 :: a7 :: a8 :: a9 :: a10 :: a11 :: a12 :: a13 :: a14 :: a15 :: a16 :: a17 :: a18 :: a19 :: a20 :: a21 :: a22 :: l).set 22 b = a0 :: a1 :: a2 :: a3 :: a4 :: a5 :: a6 :: a7 :: a8 :: a9 :: a10 :: a11 :: a12 :: a13 :: a14 :: a15 :: a16 :: a17 :: a18 :: a19 :: a20 :: a21 :: b :: l := rfl
@[simp high] theorem fg23 : (a0 :: a1 :: a2 :: a3 :: a4 :: a5 :: a6 :: a7 :: a8 :: a9 :: a10 :: a11 :: a12 :: a13 :: a14 :: a15 :: a16 :: a17 :: a18 :: a19 :: a20 :: a21 :: a22 :: a23 :: l)[23]? = some a23 := rfl
@[simp high] theorem fs23 : (a0 :: a1 :: a2 :: a3 :: a4 :: a5 :: a6 :: a7 :: a8 :: a9 :: a10 :: a11 :: a12 :: a13 :: a14 :: a15 :: a16 :: a17 :: a18 :: a19 :: a20 :: a21 :: a22 :: a23 :: l).set 23 b = a0 :: a1 :: a2 :: a3 :: a4 :: a5 :: a6 :: a7 :: a8 :: a9 :: a10 :: a11 :: a12 :: a13 :: a14 :: a15 :: a16 :: a17 :: a18 :: a19 :: a20 :: a21 :: a22 :: b :: l := rfl
@[simp high] theorem fg24 : (a0 :: a1 :: a2 :: a3 :: a4 :: a5 :: a6 :: a7 :: a8 :: a9 :: a10 :: a11 :: a12 :: a13 :: a14 :: a15 :: a16 :: a17 :: a18 :: a19 :: a20 :: a21 :: a22 :: a23 :: a24 :: l)[24]? = some a24 := rfl
@[simp high] theorem fs24 : (a0 :: a1 :: a2 :: a3 :: a4 :: a5 :: a6 :: a7 :: a8 :: a9 :: a10 :: a11 :: a12 :: a13 :: a14 :: a15 :: a16 :: a17 :: a18 :: a19 :: a20 :: a21 :: a22 :: a23 :: a24 :: l).set 24 b = a0 :: a1 :: a2 :: a3 :: a4 :: a5 :: a6 :: a7 :: a8 :: a9 :: a10 :: a11 :: a12 :: a13 :: a14 :: a15 :: a16 :: a17 :: a18 :: a19 :: a20 :: a21 :: a22 :: a23 :: b :: l := rfl
@[simp high] theorem fg25 : (a0 :: a1 :: a2 :: a3 :: a4 :: a5 :: a6 :: a7 :: a8 :: a9 :: a10 :: a11 :: a12 :: a13 :: a14 :: a15 :: a16 :: a17 :: a18 :: a19 :: a20 :: a21 :: a22 :: a23 :: a24 :: a25 :: l)[25]? = some a25 := rfl
@[simp high] theorem fs25 : (a0 :: a1 :: a2 :: a3 :: a4 :: a5 :: a6 :: a7 :: a8 :: a9 :: a10 :: a11 :: a12 :: a13 :: a14 :: a15 :: a16 :: a17 :: a18 :: a19 :: a20 :: a21 :: a22 :: a23 :: a24 :: a25 :: l).set 25 b = a0 :: a1 :: a2 :: a3 :: a4 :: a5 :: a6 :: a7 :: a8 :: a9 :: a10 :: a11 :: a12 :: a13 :: a14 :: a15 :: a16 :: a17 :: a18 :: a19 :: a20 :: a21 :: a22 :: a23 :: a24 :: b :: l := rfl
@[simp high] theorem fg26 : (a0 :: a1 :: a2 :: a3 :: a4 :: a5 :: a6 :: a7 :: a8 :: a9 :: a10 :: a11 :: a12 :: a13 :: a14 :: a15 :: a16 :: a17 :: a18 :: a19 :: a20 :: a21 :: a22 :: a23 :: a24 :: a25 :: a26 :: l)[26]? = some a26 := rfl
@[simp high] theorem fs26 : (a0 :: a1 :: a2 :: a3 :: a4 :: a5 :: a6 :: a7 :: a8 :: a9 :: a10 :: a11 :: a12 :: a13 :: a14 :: a15 :: a16 :: a17 :: a18 :: a19 :: a20 :: a21 :: a22 :: a23 :: a24 :: a25 :: a26 :: l).set 26 b = a0 :: a1 :: a2 :: a3 :: a4 :: a5 :: a6 :: a7 :: a8 :: a9 :: a10 :: a11 :: a12 :: a13 :: a14 :: a15 :: a16 :: a17 :: a18 :: a19 :: a20 :: a21 :: a22 :: a23 :: a24 :: a25 :: b :: l := rfl
@[simp high] theorem fg27 : (a0 :: a1 :: a2 :: a3 :: a4 :: a5 :: a6 :: a7 :: a8 :: a9 :: a10 :: a11 :: a12 :: a13 :: a14 :: a15 :: a16 :: a17 :: a18 :: a19 :: a20 :: a21 :: a22 :: a23 :: a24 :: a25 :: a26 :: a27 :: l)[27]? = some a27 := rfl
@[simp high] theorem fs27 : (a0 :: a1 :: a2 :: a3 :: a4 :: a5 :: a6 :: a7 :: a8 :: a9 :: a10 :: a11 :: a12 :: a13 :: a14 :: a15 :: a16 :: a17 :: a18 :: a19 :: a20 :: a21 :: a22 :: a23 :: a24 :: a25 :: a26 :: a27 :: l).set 27 b = a0 :: a1 :: a2 :: a3 :: a4 :: a5 :: a6 :: a7 :: a8 :: a9 :: a10 :: a11 :: a12 :: a13 :: a14 :: a15 :: a16 :: a17 :: a18 :: a19 :: a20 :: a21 :: a22 :: a23 :: a24 :: a25 :: a26 :: b :: l := rfl
@[simp high] theorem fg28 : (a0 :: a1 :: a2 :: a3 :: a4 :: a5 :: a6 :: a7 :: a8 :: a9 :: a10 :: a11 :: a12 :: a13 :: a14 :: a15 :: a16 :: a17 :: a18 :: a19 :: a20 :: a21 :: a22 :: a23 :: a24 :: a25 :: a26 :: a27 :: a28 :: l)[28]? = some a28 := rfl
@[simp high] theorem fs28 : (a0 :: a1 :: a2 :: a3 :: a4 :: a5 :: a6 :: a7 :: a8 :: a9 :: a10 :: a11 :: a12 :: a13 :: a14 :: a15 :: a16 :: a17 :: a18 :: a19 :: a20 :: a21 :: a22 :: a23 :: a24 :: a25 :: a26 :: a27 :: a28 :: l).set 28 b = a0 :: a1 :: a2 :: a3 :: a4 :: a5 :: a6 :: a7 :: a8 :: a9 :: a10 :: a11 :: a12 :: a13 :: a14 :: a15 :: a16 :: a17 :: a18 :: a19 :: a20 :: a21 :: a22 :: a23 :: a24 :: a25 :: a26 :: a27 :: b :: l := rfl
@[simp high] theorem fg29 : (a0 :: a1 :: a2 :: a3 :: a4 :: a5 :: a6 :: a7 :: a8 :: a9 :: a10 :: a11 :: a12 :: a13 :: a14 :: a15 :: a16 :: a17 :: a18 :: a19 :: a20 :: a21 :: a22 :: a23 :: a24 :: a25 :: a26 :: a27 :: a28 :: a29 :: l)[29]? = some a29 := rfl
@[simp high] theorem fs29 : (a0 :: a1 :: a2 :: a3 :: a4 :: a5 :: a6 :: a7 :: a8 :: a9 :: a10 :: a11 :: a12 :: a13 :: a14 :: a15 :: a16 :: a17 :: a18 :: a19 :: a20 :: a21 :: a22 :: a23 :: a24 :: a25 :: a26 :: a27 :: a28 :: a29 :: l).set 29 b = a0 :: a1 :: a2 :: a3 :: a4 :: a5 :: a6 :: a7 :: a8 :: a9 :: a10 :: a11 :: a12 :: a13 :: a14 :: a15 :: a16 :: a17 :: a18 :: a19 :: a20 :: a21 :: a22 :: a23 :: a24 :: a25 :: a26 :: a27 :: a28 :: b :: l := rfl
@[simp high] theorem fg30 : (a0 :: a1 :: a2 :: a3 :: a4 :: a5 :: a6 :: a7 :: a8 :: a9 :: a10 :: a11 :: a12 :: a13 :: a14 :: a15 :: a16 :: a17 :: a18 :: a19 :: a20 :: a21 :: a22 :: a23 :: a24 :: a25 :: a26 :: a27 :: a28 :: a29 :: a30 :: l)[30]? = some a30 := rfl
@[simp high] theorem fs30 : (a0 :: a1 :: a2 :: a3 :: a4 :: a5 :: a6 :: a7 :: a8 :: a9 :: a10 :: a11 :: a12 :: a13 :: a14 :: a15 :: a16 :: a17 :: a18 :: a19 :: a20 :: a21 :: a22 :: a23 :: a24 :: a25 :: a26 :: a27 :: a28 :: a29 :: a30 :: l).set 30 b = a0 :: a1 :: a2 :: a3 :: a4 :: a5 :: a6 :: a7 :: a8 :: a9 :: a10 :: a11 :: a12 :: a13 :: a14 :: a15 :: a16 :: a17 :: a18 :: a19 :: a20 :: a21 :: a22 :: a23 :: a24 :: a25 :: a26 :: a27 :: a28 :: a29 :: b :: l := rfl
@[simp high] theorem fg31 : (a0 :: a1 :: a2 :: a3 :: a4 :: a5 :: a6 :: a7 :: a8 :: a9 :: a10 :: a11 :: a12 :: a13 :: a14 :: a15 :: a16 :: a17 :: a18 :: a19 :: a20 :: a21 :: a22 :: a23 :: a24 :: a25 :: a26 :: a27 :: a28 :: a29 :: a30 :: a31 :: l)[31]? = some a31 := rfl
@[simp high] theorem fs31 : (a0 :: a1 :: a2 :: a3 :: a4 :: a5 :: a6 :: a7 :: a8 :: a9 :: a10 :: a11 :: a12 :: a13 :: a14 :: a15 :: a16 :: a17 :: a18 :: a19 :: a20 :: a21 :: a22 :: a23 :: a24 :: a25 :: a26 :: a27 :: a28 :: a29 :: a30 :: a31 :: l).set 31 b = a0 :: a1 :: a2 :: a3 :: a4 :: a5 :: a6 :: a7 :: a8 :: a9 :: a10 :: a11 :: a12 :: a13 :: a14 :: a15 :: a16 :: a17 :: a18 :: a19 :: a20 :: a21 :: a22 :: a23 :: a24 :: a25 :: a26 :: a27 :: a28 :: a29 :: a30 :: b :: l := rfl
@[simp high] theorem fg32 : (a0 :: a1 :: a2 :: a3 :: a4 :: a5 :: a6 :: a7 :: a8 :: a9 :: a10 :: a11 :: a12 :: a13 :: a14 :: a15 :: a16 :: a17 :: a18 :: a19 :: a20 :: a21 :: a22 :: a23 :: a24 :: a25 :: a26 :: a27 :: a28 :: a29 :: a30 :: a31 :: a32 :: l)[32]? = some a32 := rfl
@[simp high] theorem fs32 : (a0 :: a1 :: a2 :: a3 :: a4 :: a5 :: a6 :: a7 :: a8 :: a9 :: a10 :: a11 :: a12 :: a13 :: a14 :: a15 :: a16 :: a17 :: a18 :: a19 :: a20 :: a21 :: a22 :: a23 :: a24 :: a25 :: a26 :: a27 :: a28 :: a29 :: a30 :: a31 :: a32 :: l).set 32 b = a0 :: a1 :: a2 :: a3 :: a4 :: a5 :: a6 :: a7 :: a8 :: a9 :: a10 :: a11 :: a12 :: a13 :: a14 :: a15 :: a16 :: a17 :: a18 :: a19 :: a20 :: a21 :: a22 :: a23 :: a24 :: a25 :: a26 :: a27 :: a28 :: a29 :: a30 :: a31 :: b :: l := rfl
end
section
variable {fr : Fr} {st : Sto} {f g h : Sem} {b c : SemB} {s t : SSem} {i j : Int} {n k : Nat} {l : SemL} {w u : W}
@[simp] theorem x_seq : sSeq s t fr st = (match s fr st with | .nx fr1 st1 => t fr1 st1 | o => o) := rfl
@[simp] theorem x_nil : sNil fr st = .nx fr st := rfl
@[simp] theorem x_ret : sRet f fr st = (f fr st).stm fr fun w st1 => .rt w st1 := rfl
@[simp] theorem x_if : sIf b s t fr st = (b fr st).stm fr fun b st1 => if b = true then s fr st1 else t fr st1 := rfl
@[simp] theorem x_asgN : sAsg f (gNm n) fr st = (f fr st).stm fr fun w st1 => .nx (fr.set n (some w)) st1 := rfl
@[simp] theorem x_subL {o i : Sem} : sSub uLst f o i fr st = (f fr st).stm fr fun w st1 => (o fr st1).stm fr fun o st2 => (i fr st2).stm fr fun i st3 => match uLst o i w st3 with
  | some st4 => .nx fr st4
  | none => .bad := rfl
theorem x_uLst : uLst (.cell k) (.int j) w st = (match st[k]? with
    | some (.lst ws) => (ixN ws.length j).map fun n => st.set k (.lst (ws.set n w))
    | _ => none) := rfl
@[simp] theorem x_var : eVar n fr st = (match fr[n]? with
  | some (some w) => .ok w st
  | _ => .bad) := rfl
@[simp] theorem x_c : eC w fr st = .ok w st := rfl
@[simp] theorem x_2 {op : Op2} : e2 op f g fr st = (f fr st).bind fun w st1 => (g fr st1).bind fun u st2 => op w u st2 := rfl
@[simp] theorem x_1 {op : Op1} : e1 op f fr st = (f fr st).bind fun w st1 => op w st1 := rfl
@[simp] theorem x_N {op : OpN} : eN op l fr st = (l fr st).bind fun w st1 => op w st1 := rfl
@[simp] theorem x_call {F : Fn} : eCall F l fr st = (l fr st).bind fun w st1 => F w st1 := rfl
@[simp] theorem x_aNil : aNil fr st = .ok [] st := rfl
@[simp] theorem x_aCons : aCons f l fr st = (f fr st).bind fun w st1 => (l fr st1).bind fun ws st2 => .ok (w :: ws) st2 := rfl
@[simp] theorem x_bOf : bOf f fr st = (f fr st).bind fun w st1 => match w with
  | .bl b => .ok b st1
  | _ => .bad := rfl
@[simp] theorem x_bNot : bNot b fr st = (b fr st).bind fun b st1 => .ok (!b) st1 := rfl
@[simp] theorem x_bOr : bOr b c fr st = (b fr st).bind fun b st1 => if b = true then .ok true st1 else c fr st1 := rfl
@[simp] theorem x_and : eAnd f g fr st = (f fr st).bind fun w st1 => match w with
  | .bl b => if b = true then g fr st1 else .ok (.bl false) st1
  | _ => .bad := rfl
@[simp] theorem x_or : eOr f g fr st = (f fr st).bind fun w st1 => match w with
  | .bl b => if b = true then .ok (.bl true) st1 else g fr st1
  | _ => .bad := rfl
@[simp] theorem x_not : eNot f fr st = (f fr st).bind fun w st1 => match w with
  | .bl b => .ok (.bl (!b)) st1
  | _ => .bad := rfl
@[simp] theorem x_chain {op op' : Op2} : eChain op op' f g h fr st = (f fr st).bind fun x st1 => (g fr st1).bind fun y st2 => (op x y st2).bind fun z st3 => match z with
  | .bl b => if b = true then (h fr st3).bind fun w st4 => op' y w st4 else .ok (.bl false) st3
  | _ => .bad := rfl
@[simp] theorem x_add : oAdd (.int i) (.int j) st = .ok (.int (i + j)) st := rfl
@[simp] theorem x_neg : oNeg (.int i) st = .ok (.int (-i)) st := rfl
theorem x_mul (h : mulOk i j = true) : oMul (.int i) (.int j) st = .ok (.int (i * j)) st := if_pos h
theorem mul_small (h : -(2 ^ 64) < j ∧ j < 2 ^ 64) : mulOk i j = true := by
  unfold mulOk
  rw [Bool.or_eq_true]
  exact .inl (dec_mk (.inr h))
theorem mul_smallL (h : -(2 ^ 64) < i ∧ i < 2 ^ 64) : mulOk i j = true := by
  unfold mulOk
  rw [Bool.or_eq_true]
  exact .inl (dec_mk (.inl h))
@[simp] theorem x_mulR (h : -(2 ^ 64) < j ∧ j < 2 ^ 64) : oMul (.int i) (.int j) st = .ok (.int (i * j)) st := x_mul (mul_small h)
@[simp] theorem x_mulL (h : -(2 ^ 64) < i ∧ i < 2 ^ 64) : oMul (.int i) (.int j) st = .ok (.int (i * j)) st := x_mul (mul_smallL h)
@[simp] theorem x_div (h : 0 < j) (h2 : j.natAbs.log2 < 9000) : oDiv (.int i) (.int j) st = .ok (.int (i / j)) st := if_pos (dec_mk ⟨h, h2⟩)
theorem log_small {j : Int} (h : 0 < j) (h2 : j < 2 ^ 64) : j.natAbs.log2 < 9000 := by
  have : j.natAbs < 2 ^ 64 := by omega
  have := (Nat.log2_lt (n := j.natAbs) (k := 64) (by omega)).mpr this
  omega
@[simp] theorem x_divS (h : 0 < j) (h2 : j < 2 ^ 64) : oDiv (.int i) (.int j) st = .ok (.int (i / j)) st := x_div h (log_small h h2)
@[simp] theorem x_mod (h : 0 < j) : oMod (.int i) (.int j) st = .ok (.int (i % j)) st := if_pos h
@[simp] theorem x_pow (h : 0 ≤ j ∧ j ≤ 1000000 ∧ i.natAbs < 2 ^ 64) : oPow (.int i) (.int j) st = .ok (.int (i ^ j.toNat)) st := if_pos (dec_mk h)
@[simp] theorem x_le : oLe (.int i) (.int j) st = .ok (.bl (decide (i ≤ j))) st := rfl
@[simp] theorem x_gt : oGt (.int i) (.int j) st = .ok (.bl (decide (j < i))) st := rfl
@[simp] theorem x_ge : oGe (.int i) (.int j) st = .ok (.bl (decide (j ≤ i))) st := rfl
@[simp] theorem x_int : oInt [.int i] st = .ok (.int i) st := rfl
@[simp] theorem x_intB {b : Bool} : oInt [.bl b] st = .ok (.int (if b then 1 else 0)) st := rfl
@[simp] theorem x_eqI : oEq (.int i) (.int j) st = .ok (.bl (decide (i = j))) st := by
  show (match eqW st (.int i) (.int j) with | some b => Out.ok (W.bl b) st | none => .bad) = _
  have : eqW st (.int i) (.int j) = some (decide (i = j)) := by
    show (if SeqAt.shaped (.int i) && SeqAt.shaped (.int j) then some (PyData.eqv (.int i) (.int j)) else none) = _
    have z : ∀ i : Int, SeqAt.shaped (.int i) = true := fun i => by rfl
    rw [z, z]
    show some (i == j) = _
    congr 1
  rw [this]
@[simp] theorem x_neI : oNe (.int i) (.int j) st = .ok (.bl (!decide (i = j))) st := by
  show (match eqW st (.int i) (.int j) with | some b => Out.ok (W.bl (!b)) st | none => .bad) = _
  have : eqW st (.int i) (.int j) = some (decide (i = j)) := by
    show (if SeqAt.shaped (.int i) && SeqAt.shaped (.int j) then some (PyData.eqv (.int i) (.int j)) else none) = _
    have z : ∀ i : Int, SeqAt.shaped (.int i) = true := fun i => by rfl
    rw [z, z]
    show some (i == j) = _
    congr 1
  rw [this]
theorem x_tup {ws : List W} (h : ws.length ≤ 1000) : oTup ws st = .ok (.tup ws) st := if_pos (decide_eq_true h)
theorem x_lst {ws : List W} (h : ws.length ≤ 1000) : oLst ws st = .ok (.lst ws) st := if_pos (decide_eq_true h)
theorem x_cell {ws : List W} (h : ws.length ≤ 1000) : oCell ws st = .ok (.cell st.length) (st ++ [.lst ws]) := if_pos (decide_eq_true h)
@[simp] theorem x_pNo : pNo fr st = .ok none st := rfl
@[simp] theorem x_pYes : pYes f fr st = (f fr st).bind fun w st1 => match w with
  | .int i => .ok (some i) st1
  | _ => .bad := rfl
@[simp] theorem x_sl {l h : SemO} : eSl f l h fr st = (f fr st).bind fun x st1 => (l fr st1).bind fun lo st2 => (h fr st2).bind fun hi st3 => oSl x lo hi st3 := rfl
@[simp] theorem x_iSeq : iSeq f fr st = (f fr st).bind fun x st1 => match itW st1 x with
  | some ws => .ok (x, ws) st1
  | none => .bad := rfl
@[simp] theorem x_lst_lst {ws : List W} : lstW st (.lst ws) = some ws := rfl
@[simp] theorem x_lst_ro {ws : List W} : lstW st (.ro ws) = some ws := rfl
@[simp] theorem x_lst_tup {ws : List W} : lstW st (.tup ws) = none := rfl
@[simp] theorem x_tup_tup {ws : List W} : tupW st (.tup ws) = some ws := rfl
@[simp] theorem x_seq_lst {ws : List W} : seqW st (.lst ws) = some ws := rfl
@[simp] theorem x_seq_ro {ws : List W} : seqW st (.ro ws) = some ws := rfl
@[simp] theorem x_seq_tup {ws : List W} : seqW st (.tup ws) = some ws := rfl
@[simp] theorem x_it_lst {ws : List W} : itW st (.lst ws) = some ws := rfl
@[simp] theorem x_it_ro {ws : List W} : itW st (.ro ws) = some ws := rfl
@[simp] theorem x_it_tup {ws : List W} : itW st (.tup ws) = some ws := rfl
@[simp] theorem x_len_tup {ws : List W} : oLen [.tup ws] st = .ok (.int ws.length) st := rfl
@[simp] theorem x_len_lst {ws : List W} : oLen [.lst ws] st = .ok (.int ws.length) st := rfl
@[simp] theorem x_len_ro {ws : List W} : oLen [.ro ws] st = .ok (.int ws.length) st := rfl
@[simp] theorem x_tuple_lst {ws : List W} : oTuple [.lst ws] st = .ok (.tup ws) st := rfl
@[simp] theorem x_tuple_tup {ws : List W} : oTuple [.tup ws] st = .ok (.tup ws) st := rfl
theorem x_ix {ws : List W} (h : seqW st w = some ws) (hn : ∀ x, w ≠ .str x) {m : Nat} (hm : ixN ws.length i = some m) (hu : ws[m]? = some u) : oIx w (.int i) st = .ok u st := by
  have e : (seqW st w).bind (fun ws => atI ws i) = some u := by
    rw [h]; show (ixN ws.length i).bind (fun j => ws[j]?) = _; rw [hm]; exact hu
  cases w <;> first | exact absurd rfl (hn _) | simp only [oIx, e]
theorem ixN_ok {n : Nat} {i : Int} (h : 0 ≤ i) (h2 : i < n) : ixN n i = some i.toNat := by
  unfold ixN; rw [if_pos h, if_pos h2]
theorem x_ixL {ws : List W} (h : 0 ≤ i) (hu : ws[i.toNat]? = some u) : oIx (.lst ws) (.int i) st = .ok u st := by
  have hl : i.toNat < ws.length := by
    rcases Nat.lt_or_ge i.toNat ws.length with q | q
    · exact q
    · rw [List.getElem?_eq_none q] at hu; cases hu
  exact x_ix rfl (fun _ z => by cases z) (ixN_ok h (by omega)) hu
theorem x_ixC {ws : List W} (hc : st[k]? = some (.lst ws)) (h : 0 ≤ i) (hu : ws[i.toNat]? = some u) : oIx (.cell k) (.int i) st = .ok u st := by
  have hl : i.toNat < ws.length := by
    rcases Nat.lt_or_ge i.toNat ws.length with q | q
    · exact q
    · rw [List.getElem?_eq_none q] at hu; cases hu
  exact x_ix (by simp [seqW, lstW, hc]) (fun _ z => by cases z) (ixN_ok h (by omega)) hu
end
theorem leave_same {n : Nat} {w : W} {st : Sto} (h : st.length = n) : leave n w st = .ok w st := if_pos h
theorem mk_rt {m : Nat} {b : SSem} {ws : List W} {st st1 : Sto} {w : W} (h : b (ws.map some ++ List.replicate (m - ws.length) none) st = .rt w st1) (hl : st1.length = st.length) : mkFn m b ws st = .ok w st1 := by
  unfold mkFn mkFnG; rw [h]; exact leave_same hl
/-- new cells that nothing handed back speaks of -/
theorem mk_rt2 {m : Nat} {b : SSem} {ws : List W} {st ex : Sto} {w : W} (h : b (ws.map some ++ List.replicate (m - ws.length) none) st = .rt w (st ++ ex)) (hw : ∀ n f, fz0 n f w = some w) (ho : st.all (oldW st.length) = true) : mkFn m b ws st = .ok w st := by
  unfold mkFn mkFnG; rw [h]
  show leave st.length w (st ++ ex) = _
  unfold leave
  split
  · rename_i e
    have : ex = [] := by
      rw [List.length_append] at e
      exact List.eq_nil_of_length_eq_zero (by omega)
    rw [this, List.append_nil]
  · rw [hw]
    simp only [List.take_left, ho, if_true]
/-! ## comprehensions, loops -/
inductive Both {α β : Type} (R : α → β → Prop) : List α → List β → Prop
  | nil : Both R [] []
  | cons {a : α} {b : β} {l : List α} {m : List β} (h : R a b) (r : Both R l m) : Both R (a :: l) (b :: m)
theorem src_free {x : W} {all : List W} {st : Sto} (h : ∀ k, x ≠ .cell k) (h2 : ∀ i, x ≠ .int i := by intro i e; cases e) : srcOk x all st := by
  cases x <;> first | trivial | exact absurd rfl (h _) | exact absurd rfl (h2 _)
theorem lc_map {x : W} {all : List W} {g : TgF} {t : SemB} {e : Sem} {fr : Fr} {f : W → W} {st : Sto} (hs : srcOk x all st) : ∀ ws : List W, (∀ w ∈ ws, ∃ fr1, g w fr st = some fr1 ∧ t fr1 st = .ok true st ∧ e fr1 st = .ok (f w) st) → lcRun x all g t e fr ws st = .ok (ws.map f) st
  | [], _ => by unfold lcRun; rw [if_pos hs]; rfl
  | w :: r, h => by
    obtain ⟨fr1, h1, h2, h3⟩ := h w List.mem_cons_self
    have ih := lc_map hs r fun u hu => h u (List.mem_cons_of_mem _ hu)
    unfold lcRun
    rw [if_pos hs, h1]
    simp only [h2, h3, ih, List.map_cons]
theorem lc_filter {x : W} {all : List W} {g : TgF} {t : SemB} {e : Sem} {fr : Fr} {p : W → Bool} {f : W → W} {st : Sto} (hs : srcOk x all st) : ∀ ws : List W, (∀ w ∈ ws, ∃ fr1, g w fr st = some fr1 ∧ t fr1 st = .ok (p w) st ∧ (p w = true → e fr1 st = .ok (f w) st)) → lcRun x all g t e fr ws st = .ok ((ws.filter p).map f) st
  | [], _ => by unfold lcRun; rw [if_pos hs]; rfl
  | w :: r, h => by
    obtain ⟨fr1, h1, h2, h3⟩ := h w List.mem_cons_self
    have ih := lc_filter hs r fun u hu => h u (List.mem_cons_of_mem _ hu)
    unfold lcRun
    rw [if_pos hs, h1]
    cases e : p w with
    | true => simp only [h2, e, h3 e, ih, List.filter_cons, if_true, List.map_cons]
    | false => simp only [h2, e, ih, List.filter_cons]; rfl
/-- the store goes on, by an invariant; what comes out is told of each item -/
theorem lc_inv {x : W} {all : List W} {g : TgF} {t : SemB} {e : Sem} {fr : Fr} (I : Sto → Prop) (R : W → W → Prop) (hs : ∀ st, I st → srcOk x all st) : ∀ (ws : List W) (st : Sto), I st → (∀ w ∈ ws, ∀ st, I st → ∃ fr1 y st2, g w fr st = some fr1 ∧ t fr1 st = .ok true st ∧ e fr1 st = .ok y st2 ∧ I st2 ∧ R w y) →
    ∃ ys st', lcRun x all g t e fr ws st = .ok ys st' ∧ I st' ∧ Both R ws ys
  | [], st, hi, _ => ⟨[], st, by unfold lcRun; rw [if_pos (hs st hi)], hi, .nil⟩
  | w :: r, st, hi, h => by
    obtain ⟨fr1, y, st2, h1, h2, h3, h4, h5⟩ := h w List.mem_cons_self st hi
    obtain ⟨ys, st3, e1, e2, e3⟩ := lc_inv I R hs r st2 h4 fun u hu => h u (List.mem_cons_of_mem _ hu)
    refine ⟨y :: ys, st3, ?_, e2, .cons h5 e3⟩
    unfold lcRun
    rw [if_pos (hs st hi), h1]
    simp only [h2, h3, e1]
theorem x_lc {f : SemI} {g : TgF} {own : List Nat} {t : SemB} {e : Sem} {fr : Fr} {st st1 st2 : Sto} {x : W} {all ys : List W} (h : f fr st = .ok (x, all) st1) (h2 : lcRun x all g t e (wipeF fr own) all st1 = .ok ys st2) : eLc f g own t e fr st = .ok (.lst ys) st2 := by
  unfold eLc eLcG; rw [h, Out.bind_ok]; simp only [h2, finL]
/-- a loop by an invariant over the turns -/
theorem for_inv {x : W} {all : List W} {g : TgF} {b : SSem} (P : Nat → Fr → Sto → Prop) (hs : ∀ k fr st, P k fr st → srcOk x all st) (step : ∀ k fr st w, P k fr st → all[k]? = some w → ∃ fr1 fr2 st2, g w fr st = some fr1 ∧ (b fr1 st = .nx fr2 st2 ∨ b fr1 st = .ct fr2 st2) ∧ P (k + 1) fr2 st2) :
    ∀ (m k : Nat) (fr : Fr) (st : Sto), all.length = k + m → P k fr st → ∃ fr' st', forRun x all g b (all.drop k) fr st = .nx fr' st' ∧ P all.length fr' st'
  | 0, k, fr, st, hm, h => ⟨fr, st, by rw [List.drop_eq_nil_of_le (by omega)]; unfold forRun; rw [if_pos (hs k fr st h)], by rw [hm]; exact h⟩
  | m + 1, k, fr, st, hm, h => by
    have hk : k < all.length := by omega
    obtain ⟨fr1, fr2, st2, h1, h2, h3⟩ := step k fr st all[k] h (by simp)
    obtain ⟨fr', st', e1, e2⟩ := for_inv P hs step m (k + 1) fr2 st2 (by omega) h3
    refine ⟨fr', st', ?_, e2⟩
    rw [List.drop_eq_getElem_cons hk]
    unfold forRun
    rw [if_pos (hs k fr st h), h1]
    rcases h2 with h2 | h2 <;> simp only [h2, e1]
theorem x_for {f : SemI} {g : TgF} {b : SSem} {fr : Fr} {st st1 : Sto} {x : W} {all : List W} (h : f fr st = .ok (x, all) st1) (P : Nat → Fr → Sto → Prop) (h0 : P 0 fr st1) (hs : ∀ k fr st, P k fr st → srcOk x all st) (step : ∀ k fr st w, P k fr st → all[k]? = some w → ∃ fr1 fr2 st2, g w fr st = some fr1 ∧ (b fr1 st = .nx fr2 st2 ∨ b fr1 st = .ct fr2 st2) ∧ P (k + 1) fr2 st2) :
    ∃ fr' st', sFor f g b fr st = .nx fr' st' ∧ P all.length fr' st' := by
  obtain ⟨fr', st', e1, e2⟩ := for_inv P hs step all.length 0 fr st1 (by omega) h0
  refine ⟨fr', st', ?_, e2⟩
  unfold sFor; rw [h, Out.stm_ok]
  exact e1
theorem x_rng1 {l : SemL} {fr : Fr} {st st1 : Sto} {j : Int} (h : l fr st = .ok [.int j] st1) (h2 : j ≤ 1000000) (h3 : -1000000 ≤ j) : iRng rg1 l fr st = .ok (.non, rngW 0 1 j.toNat) st1 := by
  unfold iRng rg1
  rw [h, Out.bind_ok]
  have hb : big j = true := dec_mk (by omega)
  have hl : j.toNat ≤ LINE := by unfold LINE; omega
  simp only [hb, if_true, if_pos hl]
/-! ## a row of statements -/
theorem seq_to {s t : SSem} {fr fr1 : Fr} {st st1 : Sto} {o : SOut} (h : s fr st = .nx fr1 st1) (h2 : t fr1 st1 = o) : sSeq s t fr st = o := by
  unfold sSeq; rw [h]; exact h2
theorem asg_to {f : Sem} {i : Nat} {t : SSem} {fr : Fr} {st st1 : Sto} {w : W} {o : SOut} (h : f fr st = .ok w st1) (h2 : t (fr.set i (some w)) st1 = o) : sSeq (sAsg f (gNm i)) t fr st = o := by
  unfold sSeq sAsg; rw [h]; exact h2
/-- if not ..: is passed by -/
theorem if_no {b : SemB} {s u t : SSem} {fr fr1 : Fr} {st st1 st2 : Sto} {o : SOut} (h : b fr st = .ok false st1) (h3 : u fr st1 = .nx fr1 st2) (h2 : t fr1 st2 = o) : sSeq (sIf b s u) t fr st = o := by
  unfold sSeq sIf; rw [h]; simp [h3]; exact h2
@[simp] theorem ty_non_ {st : Sto} : tyW st .non = some "NoneType" := rfl
@[simp] theorem isi_non {st : Sto} {n : String} : oIsi [.non, .ty n] st = if tyN "NoneType" && tyN n then .ok (.bl (subT "NoneType" n)) st else .bad := rfl
@[simp] theorem isi2_non {st : Sto} {n m : String} : oIsi [.non, .tup [.ty n, .ty m]] st = if tyN "NoneType" && (tyN n && tyN m) then .ok (.bl (subT "NoneType" n || subT "NoneType" m)) st else .bad := by
  show (if tyN "NoneType" && [n, m].all tyN then Out.ok (W.bl ([n, m].any (subT "NoneType"))) st else .bad) = _
  simp
@[simp] theorem ty_bl_ {st : Sto} {b : Bool} : tyW st (.bl b) = some "bool" := rfl
@[simp] theorem isi_bl {st : Sto} {b : Bool} {n : String} : oIsi [(.bl b), .ty n] st = if tyN "bool" && tyN n then .ok (.bl (subT "bool" n)) st else .bad := rfl
@[simp] theorem isi2_bl {st : Sto} {b : Bool} {n m : String} : oIsi [(.bl b), .tup [.ty n, .ty m]] st = if tyN "bool" && (tyN n && tyN m) then .ok (.bl (subT "bool" n || subT "bool" m)) st else .bad := by
  show (if tyN "bool" && [n, m].all tyN then Out.ok (W.bl ([n, m].any (subT "bool"))) st else .bad) = _
  simp
@[simp] theorem ty_int_ {st : Sto} {i : Int} : tyW st (.int i) = some "int" := rfl
@[simp] theorem isi_int {st : Sto} {i : Int} {n : String} : oIsi [(.int i), .ty n] st = if tyN "int" && tyN n then .ok (.bl (subT "int" n)) st else .bad := rfl
@[simp] theorem isi2_int {st : Sto} {i : Int} {n m : String} : oIsi [(.int i), .tup [.ty n, .ty m]] st = if tyN "int" && (tyN n && tyN m) then .ok (.bl (subT "int" n || subT "int" m)) st else .bad := by
  show (if tyN "int" && [n, m].all tyN then Out.ok (W.bl ([n, m].any (subT "int"))) st else .bad) = _
  simp
@[simp] theorem ty_str_ {st : Sto} {z : Str} : tyW st (.str z) = some "str" := rfl
@[simp] theorem isi_str {st : Sto} {z : Str} {n : String} : oIsi [(.str z), .ty n] st = if tyN "str" && tyN n then .ok (.bl (subT "str" n)) st else .bad := rfl
@[simp] theorem isi2_str {st : Sto} {z : Str} {n m : String} : oIsi [(.str z), .tup [.ty n, .ty m]] st = if tyN "str" && (tyN n && tyN m) then .ok (.bl (subT "str" n || subT "str" m)) st else .bad := by
  show (if tyN "str" && [n, m].all tyN then Out.ok (W.bl ([n, m].any (subT "str"))) st else .bad) = _
  simp
@[simp] theorem ty_tup_ {st : Sto} {ws : List W} : tyW st (.tup ws) = some "tuple" := rfl
@[simp] theorem isi_tup {st : Sto} {ws : List W} {n : String} : oIsi [(.tup ws), .ty n] st = if tyN "tuple" && tyN n then .ok (.bl (subT "tuple" n)) st else .bad := rfl
@[simp] theorem isi2_tup {st : Sto} {ws : List W} {n m : String} : oIsi [(.tup ws), .tup [.ty n, .ty m]] st = if tyN "tuple" && (tyN n && tyN m) then .ok (.bl (subT "tuple" n || subT "tuple" m)) st else .bad := by
  show (if tyN "tuple" && [n, m].all tyN then Out.ok (W.bl ([n, m].any (subT "tuple"))) st else .bad) = _
  simp
@[simp] theorem ty_lst_ {st : Sto} {ws : List W} : tyW st (.lst ws) = some "list" := rfl
@[simp] theorem isi_lst {st : Sto} {ws : List W} {n : String} : oIsi [(.lst ws), .ty n] st = if tyN "list" && tyN n then .ok (.bl (subT "list" n)) st else .bad := rfl
@[simp] theorem isi2_lst {st : Sto} {ws : List W} {n m : String} : oIsi [(.lst ws), .tup [.ty n, .ty m]] st = if tyN "list" && (tyN n && tyN m) then .ok (.bl (subT "list" n || subT "list" m)) st else .bad := by
  show (if tyN "list" && [n, m].all tyN then Out.ok (W.bl ([n, m].any (subT "list"))) st else .bad) = _
  simp
@[simp] theorem ty_dct_ {st : Sto} {ws : List W} : tyW st (.dct [] ws) = some "dict" := rfl
@[simp] theorem ty_dct_S {st : Sto} {x : Str} {ks ws : List W} : tyW st (.dct (.str x :: ks) ws) = some "dict" := rfl
@[simp] theorem isi_dct {st : Sto} {ws : List W} {n : String} : oIsi [(.dct [] ws), .ty n] st = if tyN "dict" && tyN n then .ok (.bl (subT "dict" n)) st else .bad := rfl
@[simp] theorem isi_dctS {st : Sto} {x : Str} {ks ws : List W} {n : String} : oIsi [(.dct (.str x :: ks) ws), .ty n] st = if tyN "dict" && tyN n then .ok (.bl (subT "dict" n)) st else .bad := rfl
@[simp] theorem isi2_dct {st : Sto} {ws : List W} {n m : String} : oIsi [(.dct [] ws), .tup [.ty n, .ty m]] st = if tyN "dict" && (tyN n && tyN m) then .ok (.bl (subT "dict" n || subT "dict" m)) st else .bad := by
  show (if tyN "dict" && [n, m].all tyN then Out.ok (W.bl ([n, m].any (subT "dict"))) st else .bad) = _
  simp
@[simp] theorem isi2_dctS {st : Sto} {x : Str} {ks ws : List W} {n m : String} : oIsi [(.dct (.str x :: ks) ws), .tup [.ty n, .ty m]] st = if tyN "dict" && (tyN n && tyN m) then .ok (.bl (subT "dict" n || subT "dict" m)) st else .bad := by
  show (if tyN "dict" && [n, m].all tyN then Out.ok (W.bl ([n, m].any (subT "dict"))) st else .bad) = _
  simp
@[simp] theorem tyN_NoneType : tyN "NoneType" = true := by decide +kernel
@[simp] theorem subT_NoneType_bool : subT "NoneType" "bool" = false := by decide +kernel
@[simp] theorem subT_NoneType_int : subT "NoneType" "int" = false := by decide +kernel
@[simp] theorem subT_NoneType_str : subT "NoneType" "str" = false := by decide +kernel
@[simp] theorem subT_NoneType_tuple : subT "NoneType" "tuple" = false := by decide +kernel
@[simp] theorem subT_NoneType_list : subT "NoneType" "list" = false := by decide +kernel
@[simp] theorem subT_NoneType_dict : subT "NoneType" "dict" = false := by decide +kernel
@[simp] theorem tyN_bool : tyN "bool" = true := by decide +kernel
@[simp] theorem subT_bool_bool : subT "bool" "bool" = true := by decide +kernel
@[simp] theorem subT_bool_int : subT "bool" "int" = true := by decide +kernel
@[simp] theorem subT_bool_str : subT "bool" "str" = false := by decide +kernel
@[simp] theorem subT_bool_tuple : subT "bool" "tuple" = false := by decide +kernel
@[simp] theorem subT_bool_list : subT "bool" "list" = false := by decide +kernel
@[simp] theorem subT_bool_dict : subT "bool" "dict" = false := by decide +kernel
@[simp] theorem tyN_int : tyN "int" = true := by decide +kernel
@[simp] theorem subT_int_bool : subT "int" "bool" = false := by decide +kernel
@[simp] theorem subT_int_int : subT "int" "int" = true := by decide +kernel
@[simp] theorem subT_int_str : subT "int" "str" = false := by decide +kernel
@[simp] theorem subT_int_tuple : subT "int" "tuple" = false := by decide +kernel
@[simp] theorem subT_int_list : subT "int" "list" = false := by decide +kernel
@[simp] theorem subT_int_dict : subT "int" "dict" = false := by decide +kernel
@[simp] theorem tyN_str : tyN "str" = true := by decide +kernel
@[simp] theorem subT_str_bool : subT "str" "bool" = false := by decide +kernel
@[simp] theorem subT_str_int : subT "str" "int" = false := by decide +kernel
@[simp] theorem subT_str_str : subT "str" "str" = true := by decide +kernel
@[simp] theorem subT_str_tuple : subT "str" "tuple" = false := by decide +kernel
@[simp] theorem subT_str_list : subT "str" "list" = false := by decide +kernel
@[simp] theorem subT_str_dict : subT "str" "dict" = false := by decide +kernel
@[simp] theorem tyN_tuple : tyN "tuple" = true := by decide +kernel
@[simp] theorem subT_tuple_bool : subT "tuple" "bool" = false := by decide +kernel
@[simp] theorem subT_tuple_int : subT "tuple" "int" = false := by decide +kernel
@[simp] theorem subT_tuple_str : subT "tuple" "str" = false := by decide +kernel
@[simp] theorem subT_tuple_tuple : subT "tuple" "tuple" = true := by decide +kernel
@[simp] theorem subT_tuple_list : subT "tuple" "list" = false := by decide +kernel
@[simp] theorem subT_tuple_dict : subT "tuple" "dict" = false := by decide +kernel
@[simp] theorem tyN_list : tyN "list" = true := by decide +kernel
@[simp] theorem subT_list_bool : subT "list" "bool" = false := by decide +kernel
@[simp] theorem subT_list_int : subT "list" "int" = false := by decide +kernel
@[simp] theorem subT_list_str : subT "list" "str" = false := by decide +kernel
@[simp] theorem subT_list_tuple : subT "list" "tuple" = false := by decide +kernel
@[simp] theorem subT_list_list : subT "list" "list" = true := by decide +kernel
@[simp] theorem subT_list_dict : subT "list" "dict" = false := by decide +kernel
@[simp] theorem tyN_dict : tyN "dict" = true := by decide +kernel
@[simp] theorem subT_dict_bool : subT "dict" "bool" = false := by decide +kernel
@[simp] theorem subT_dict_int : subT "dict" "int" = false := by decide +kernel
@[simp] theorem subT_dict_str : subT "dict" "str" = false := by decide +kernel
@[simp] theorem subT_dict_tuple : subT "dict" "tuple" = false := by decide +kernel
@[simp] theorem subT_dict_list : subT "dict" "list" = false := by decide +kernel
@[simp] theorem subT_dict_dict : subT "dict" "dict" = true := by decide +kernel

@[simp] theorem eq_bl {a b : Bool} {st : Sto} : oEq (.bl a) (.bl b) st = .ok (.bl (decide (a = b))) st := by cases a <;> cases b <;> rfl
@[simp] theorem ne_bl {a b : Bool} {st : Sto} : oNe (.bl a) (.bl b) st = .ok (.bl (!decide (a = b))) st := by cases a <;> cases b <;> rfl
end SL

namespace SLm
open PySem PySem.Spec PyProof.Rows
/-! # dicts whose keys are of several kinds: numbers, texts, None, tuples of such -/
abbrev EMix := NestedKey × Value × Value
def entM (w : World) (x : EMix) : DictEntry := ⟨x.1.hash w, x.2.1, x.2.2⟩
def KOk (h : Heap) (k : NestedKey) (v : Value) : Prop := NestedIs h k v ∧ k.depth ≤ 8
section
variable {P : Program} {w : World} {A : Around} {E : Value → Shared → Prop} {s : Shared}
theorem mix_at {es : Array DictEntry} {xs : List EMix} (he : es.toList = xs.map (entM w)) (i : Nat) : es[i]? = xs[i]?.map (entM w) := by
  rw [← Array.getElem?_toList, he, List.getElem?_map]
theorem mix_eq (hu : A.units + 8 < cLine) {a b : NestedKey} {u v : Value} {Q : Bool → Shared → Prop} (ha : KOk s.heap a u) (hb : KOk s.heap b v) (h : Q (decide (a = b)) s) : wpAny (model P w) A (PySem.eqBool u v) Q E s :=
  eqAt_key a b A s _ _ ha.1 hb.1 (by have := ha.2; have := hb.2; omega) _ _ _ _ (by rw [← NestedKey.decide_eq]; exact h)
theorem mix_tells {key : Value} {k : NestedKey} {stored : List Value} {Q : Bool → Shared → Prop} (hk : KOk s.heap k key) (hs : ∀ v ∈ stored, ∃ j, KOk s.heap j v) (h : Q false s) : wpAny (model P w) A (tableMayTell key stored) Q E s := by
  unfold tableMayTell
  by_cases em : stored.isEmpty = true
  · rw [if_pos em]; exact wpAny_pure h
  · rw [if_neg em]
    refine wpAny_bind (quiet_key k key 8 s hk.1 hk.2 _ _ _ ?_)
    rw [if_neg (by decide)]
    refine wpAny_bind (wpAny_forIn_list _ (fun rest r t => (t = s ∧ r = (none, ())) ∧ ∀ v ∈ rest, v ∈ stored) _ (fun x rest r t hI => ?_) (fun r t hI => ?_) _ _ ⟨⟨rfl, rfl⟩, fun _ h => h⟩)
    · obtain ⟨⟨rfl, rfl⟩, sub⟩ := hI
      obtain ⟨j, hj⟩ := hs x (sub x List.mem_cons_self)
      refine wpAny_bind (quiet_key j x 8 t hj.1 hj.2 _ _ _ ?_)
      rw [if_neg (by decide)]
      exact wpAny_pure ⟨⟨rfl, rfl⟩, fun v hv => sub v (List.mem_cons_of_mem _ hv)⟩
    · obtain ⟨⟨rfl, rfl⟩, _⟩ := hI
      exact wpAny_pure h
/-- where the keys of this hash stand -/
abbrev plM (w : World) (es : Array DictEntry) (k : NestedKey) : List Nat := placesWithHash es.size (fun i => es[i]?.map (·.hash)) (k.hash w)
theorem plM_at {es : Array DictEntry} {xs : List EMix} {k : NestedKey} (he : es.toList = xs.map (entM w)) {i : Nat} (hi : i ∈ plM w es k) : ∃ y, xs[i]? = some y ∧ es[i]? = some (entM w y) ∧ ((entM w y).hash == k.hash w) = true := by
  obtain ⟨_, h2⟩ := List.mem_filter.mp hi
  have h2 : (es[i]?.map (·.hash) == some (k.hash w)) = true := h2
  have e := mix_at he i
  cases q : xs[i]? with
  | none => rw [q] at e; rw [e] at h2; simp at h2
  | some y =>
    rw [q] at e
    rw [e] at h2
    exact ⟨y, rfl, e, by simpa using h2⟩
theorem plM_in {es : Array DictEntry} {xs : List EMix} {k : NestedKey} (he : es.toList = xs.map (entM w)) {i : Nat} {p : Value × Value} (hi : xs[i]? = some (k, p)) : i ∈ plM w es k := by
  have e := mix_at he i
  rw [hi] at e
  have lt : i < es.size := by
    rcases Nat.lt_or_ge i es.size with q | q
    · exact q
    · rw [Array.getElem?_eq_none q] at e; cases e
  refine List.mem_filter.mpr ⟨List.mem_range.mpr lt, ?_⟩
  show (es[i]?.map (·.hash) == some (k.hash w)) = true
  rw [e]
  simp [entM]
theorem plM_nd {es : Array DictEntry} {k : NestedKey} : (plM w es k).Nodup := List.Pairwise.filter _ List.nodup_range
theorem nd_one {xs : List EMix} (hn : (xs.map (·.1)).Nodup) {i j : Nat} {k : NestedKey} {p q : Value × Value} (hi : xs[i]? = some (k, p)) (hj : xs[j]? = some (k, q)) : i = j := by
  have ei : (xs.map (·.1))[i]? = some k := by rw [List.getElem?_map, hi]; rfl
  have ej : (xs.map (·.1))[j]? = some k := by rw [List.getElem?_map, hj]; rfl
  obtain ⟨li, ei⟩ := List.getElem?_eq_some_iff.mp ei
  obtain ⟨lj, ej⟩ := List.getElem?_eq_some_iff.mp ej
  rcases Nat.lt_trichotomy i j with q | q | q
  · exact absurd (ei.trans ej.symm) (List.pairwise_iff_getElem.mp hn _ _ li lj q)
  · exact q
  · exact absurd (ej.trans ei.symm) (List.pairwise_iff_getElem.mp hn _ _ lj li q)
end
section
variable {P : Program} {w : World} {A : Around} {E : Value → Shared → Prop} {s : Shared} {d : Addr} {o : Obj} {es : Array DictEntry} {ep : Nat} {xs : List EMix} {k : NestedKey} {key : Value} {Q : Option Nat → Shared → Prop}
theorem mix_plain (hu : A.units + 8 < cLine) (hkey : KOk s.heap k key) (ho : s.heap.get? d = some o) (hd : o.data = .dict es ep) (he : es.toList = xs.map (entM w)) (his : ∀ x ∈ xs, KOk s.heap x.1 x.2.1)
    (hnone : (∀ (j : Nat) (p : Value × Value), xs[j]? ≠ some (k, p)) → Q none s) (hsome : ∀ (j : Nat) (p : Value × Value), xs[j]? = some (k, p) → Q (some j) s) :
    wpAny (model P w) A (dictWalkPlain d key (k.hash w) es (plM w es k)) Q E s := by
  unfold dictWalkPlain
  refine wpAny_bind (wpAny_forIn_list _ (fun rest b t => (t = s ∧ b = (none, ())) ∧ ∃ pre, plM w es k = pre ++ rest ∧ ∀ i ∈ pre, ∀ p, xs[i]? ≠ some (k, p)) _ (fun x rest b t hI => ?_) (fun b t hI => ?_) _ _ ⟨⟨rfl, rfl⟩, [], rfl, fun _ h => nomatch h⟩)
  · obtain ⟨⟨rfl, rfl⟩, pre, hp, hno⟩ := hI
    obtain ⟨y, hy, hex, hh⟩ := plM_at he (show x ∈ plM w es k by rw [hp]; exact List.mem_append_right _ List.mem_cons_self)
    simp only [hex]
    rw [if_pos hh]
    refine wpAny_bind (wpAny_dictEpoch ho hd (wpAny_bind (mix_eq hu (a := y.1) (b := k) (his y (List.mem_of_getElem? hy)) hkey (wpAny_bind (wpAny_dictEpoch ho hd ?_)))))
    rw [if_neg (by simp)]
    by_cases q : y.1 = k
    · rw [decide_eq_true q, if_pos rfl]
      exact wpAny_bind (wpAny_rule (wpAny_pure (wpAny_pure (hsome x y.2 (by rw [hy, ← q])))))
    · rw [decide_eq_false q, if_neg (by decide)]
      refine wpAny_bind (wpAny_rule (wpAny_pure ⟨⟨rfl, rfl⟩, pre ++ [x], by rw [hp]; simp, fun i hi p e => ?_⟩))
      rcases List.mem_append.mp hi with hi | hi
      · exact hno i hi p e
      · rw [List.mem_singleton.mp hi, hy] at e
        exact q (by rw [Option.some.inj e])
  · obtain ⟨⟨rfl, rfl⟩, pre, hp, hno⟩ := hI
    refine wpAny_pure (hnone fun j p e => hno j ?_ p e)
    have := plM_in he e
    rw [hp, List.append_nil] at this
    exact this
theorem mix_str {x : Str} {t : Tok} (hk : NestedIs s.heap k (.str x t)) : k = .text x := by cases hk; rfl
theorem mix_isStr {h : Heap} {j : NestedKey} {v : Value} {x : Str} (hj : NestedIs h j v) (hv : isExactStrKey v = true) : v.isStr x = true ↔ j = .text x := by
  cases hj with
  | text y u =>
    show (y == x) = true ↔ _
    simp
  | _ => cases hv
theorem mix_find (hu : A.units + 8 < cLine) (hkey : KOk s.heap k key) (ho : s.heap.get? d = some o) (hd : o.data = .dict es ep) (he : es.toList = xs.map (entM w)) (his : ∀ x ∈ xs, KOk s.heap x.1 x.2.1) (hn : (xs.map (·.1)).Nodup)
    (hnone : (∀ (j : Nat) (p : Value × Value), xs[j]? ≠ some (k, p)) → Q none s) (hsome : ∀ (j : Nat) (p : Value × Value), xs[j]? = some (k, p) → Q (some j) s) :
    wpAny (model P w) A (dictFind d key (k.hash w)) Q E s := by
  have hst : ∀ v ∈ (plM w es k).filterMap (fun i => es[i]?.map (·.key)), ∃ j, KOk s.heap j v := fun v hv => by
    obtain ⟨i, hi, e⟩ := List.mem_filterMap.mp hv
    obtain ⟨y, hy, hex, _⟩ := plM_at he hi
    rw [hex] at e
    cases e
    exact ⟨y.1, his y (List.mem_of_getElem? hy)⟩
  have hany : ∀ a, key = .ref a → (es.any fun e => e.key == key && e.hash != k.hash w) ≠ true := fun a ea z => by
    obtain ⟨i, hi, e2⟩ := Array.any_eq_true.mp z
    have q := mix_at he i
    rw [Array.getElem?_eq_getElem hi] at q
    cases hx : xs[i]? with
    | none => rw [hx] at q; cases q
    | some y =>
      rw [hx] at q
      have q : es[i] = entM w y := Option.some.inj q
      rw [q] at e2
      obtain ⟨u1, u2⟩ := Bool.and_eq_true_iff.mp e2
      have u1 : y.2.1 = key := by
        have u1 : (y.2.1 == key) = true := u1
        rw [ea] at u1 ⊢
        exact beq_iff_eq.mp u1
      have := (his y (List.mem_of_getElem? hx)).1
      rw [u1] at this
      have := NestedIs.inj _ _ _ this hkey.1
      have u2 : (y.1.hash w != k.hash w) = true := u2
      rw [this] at u2
      simp at u2
  unfold dictFind
  refine wpAny_holding ?_
  refine wpAny_bind (wpAny_dictEntries ho hd ?_)
  by_cases hs : ∃ x t, key = .str x t ∧ (es.all fun e => isExactStrKey e.key) = true
  · obtain ⟨x, t, rfl, ha⟩ := hs
    have ek := mix_str hkey.1
    subst ek
    dsimp only
    rw [if_pos ha]
    have all : ∀ (i : Nat) (y : EMix), xs[i]? = some y → (y.2.1.isStr x = true ↔ y.1 = .text x) := fun i y hy => by
      have q := mix_at he i
      rw [hy] at q
      obtain ⟨hi, q⟩ := Array.getElem?_eq_some_iff.mp q
      have := Array.all_eq_true.mp ha i hi
      rw [q] at this
      exact mix_isStr (his y (List.mem_of_getElem? hy)).1 this
    unfold foundByValue
    cases hf : es.findIdx? (fun e => e.key.isStr x) with
    | none =>
      refine wpAny_pure (hnone fun j p e => ?_)
      have q := mix_at he j
      rw [e] at q
      obtain ⟨hj, q⟩ := Array.getElem?_eq_some_iff.mp q
      have z := Array.findIdx?_eq_none_iff.mp hf _ (Array.getElem_mem hj)
      rw [q] at z
      have z : p.1.isStr x = false := z
      rw [(all j _ e).mpr rfl] at z
      cases z
    | some i =>
      obtain ⟨hi, z, _⟩ := Array.findIdx?_eq_some_iff_getElem.mp hf
      have q := mix_at he i
      rw [Array.getElem?_eq_getElem hi] at q
      cases hx : xs[i]? with
      | none => rw [hx] at q; cases q
      | some y =>
        rw [hx] at q
        have q : es[i] = entM w y := Option.some.inj q
        have ye : y.1 = .text x := (all i y hx).mp (by rw [q] at z; exact z)
        simp only [Array.getElem?_eq_getElem hi, q]
        refine wpAny_bind (wpAny_dictEpoch ho hd (wpAny_bind (mix_eq hu (a := y.1) (b := .text x) (his y (List.mem_of_getElem? hx)) hkey (wpAny_bind (wpAny_dictEpoch ho hd ?_)))))
        rw [if_neg (by simp), decide_eq_true ye, if_pos rfl]
        exact wpAny_bind (wpAny_rule (wpAny_pure (hsome i y.2 (by rw [hx, ← ye]))))
  · by_cases hb : ((key :: (plM w es k).filterMap fun i => es[i]?.map (·.key)).all carriedByValue) = true
    · cases key <;> dsimp only <;> (try rw [if_neg (fun ha => hs ⟨_, _, rfl, ha⟩)]) <;> rw [if_pos hb] <;> exact mix_plain hu hkey ho hd he his hnone hsome
    · by_cases hone : ((plM w es k).filterMap (fun i => es[i]?.map (·.key)) == [key]) = true <;> cases key <;> (try (exfalso; cases hkey.1; done)) <;> dsimp only <;> (try rw [if_neg (fun ha => hs ⟨_, _, rfl, ha⟩)]) <;> rw [if_neg hb] <;> (try rw [if_neg (hany _ rfl)]) <;> (first | rw [if_pos hone] | rw [if_neg hone]) <;> first | refine wpAny_bind (wpAny_pure ?_) | refine wpAny_bind (mix_tells hkey hst ?_)
      all_goals rw [if_neg (by simp)]
      all_goals refine wpAny_bind (wpAny_forIn_list _ (fun rest b t => t = s ∧ ∃ hit pre, b = (none, hit) ∧ plM w es k = pre ++ rest ∧ ((hit = none ∧ ∀ i ∈ pre, ∀ p, xs[i]? ≠ some (k, p)) ∨ ∃ j p, hit = some j ∧ j ∈ pre ∧ xs[j]? = some (k, p))) _ (fun x rest b t hI => ?_) (fun b t hI => ?_) _ _ ⟨rfl, none, [], rfl, rfl, .inl ⟨rfl, fun _ h => nomatch h⟩⟩)
      all_goals first
        | (obtain ⟨rfl, hit, pre, rfl, hp, hH⟩ := hI
           obtain ⟨y, hy, hex, hh⟩ := plM_at he (show x ∈ plM w es k by rw [hp]; exact List.mem_append_right _ List.mem_cons_self)
           have nd := plM_nd (w := w) (es := es) (k := k)
           rw [hp] at nd
           have xn : x ∉ pre := fun z => (List.nodup_append.mp nd).2.2 x z x List.mem_cons_self rfl
           simp only [hex]
           rw [if_pos hh]
           refine wpAny_bind (wpAny_dictEpoch ho hd (wpAny_bind (mix_eq hu (a := y.1) (b := k) (his y (List.mem_of_getElem? hy)) hkey (wpAny_bind (wpAny_dictEpoch ho hd ?_)))))
           rw [if_neg (by simp)]
           by_cases q : y.1 = k
           · rw [decide_eq_true q]
             rcases hH with ⟨rfl, hno⟩ | ⟨j, p, rfl, hj, ej⟩
             · simp only [if_true, Option.isSome_none, Bool.false_eq_true, if_false]
               refine wpAny_bind (wpAny_rule ?_)
               split
               · exact wpAny_pure (wpAny_pure (hsome x y.2 (by rw [hy, ← q])))
               · exact wpAny_pure ⟨rfl, some x, pre ++ [x], rfl, by rw [hp]; simp, .inr ⟨x, y.2, rfl, List.mem_append_right _ (List.mem_singleton.mpr rfl), by rw [hy, ← q]⟩⟩
             · exact absurd (by rw [← nd_one hn ej (show xs[x]? = some (k, y.2) by rw [hy, ← q])]; exact hj) xn
           · rw [decide_eq_false q]
             simp only [Bool.false_eq_true, if_false, Bool.false_and]
             refine wpAny_bind (wpAny_rule ?_)
             refine wpAny_pure ⟨rfl, hit, pre ++ [x], rfl, by rw [hp]; simp, ?_⟩
             rcases hH with ⟨rfl, hno⟩ | ⟨j, p, rfl, hj, ej⟩
             · refine .inl ⟨rfl, fun i hi p e => ?_⟩
               rcases List.mem_append.mp hi with hi | hi
               · exact hno i hi p e
               · rw [List.mem_singleton.mp hi, hy] at e
                 exact q (by rw [Option.some.inj e])
             · exact .inr ⟨j, p, rfl, List.mem_append_left _ hj, ej⟩)
        | (obtain ⟨rfl, hit, pre, rfl, hp, hH⟩ := hI
           rw [List.append_nil] at hp
           rcases hH with ⟨rfl, hno⟩ | ⟨j, p, rfl, hj, ej⟩
           · exact wpAny_pure (hnone fun j p e => hno j (by rw [← hp]; exact plM_in he e) p e)
           · exact wpAny_pure (hsome j p ej))
end
end SLm

namespace SLm
open PySem PySem.Spec PyProof.Rows
/-! # dicts whose keys are of several kinds: read, written -/
def atM (xs : List EMix) (k : NestedKey) : Option Value := (xs.find? fun x => decide (x.1 = k)).map (·.2.2)
def putM (k : NestedKey) (v : Value) (x : EMix) : EMix := if x.1 = k then (x.1, x.2.1, v) else x
def storedM (xs : List EMix) (k : NestedKey) (key v : Value) : List EMix := if (atM xs k).isSome = true then xs.map (putM k v) else xs ++ [(k, key, v)]
def DictMix (w : World) (h : Heap) (d : Addr) (xs : List EMix) : Prop := ∃ o es ep, h.get? d = some o ∧ o.ExactDict ∧ o.data = .dict es ep ∧ es.toList = xs.map (entM w) ∧ (∀ x ∈ xs, KOk h x.1 x.2.1) ∧ (xs.map (·.1)).Nodup
theorem DictMix.typeIs {w : World} {s : Shared} {d : Addr} {xs : List EMix} (h : DictMix w s.heap d xs) : s.TypeIs (.ref d) "dict" := let ⟨o, _, _, ho, hc, _⟩ := h; ⟨o, ho, hc.1⟩
theorem atM_none {xs : List EMix} {k : NestedKey} (h : ∀ (j : Nat) (p : Value × Value), xs[j]? ≠ some (k, p)) : atM xs k = none := by
  unfold atM
  cases q : xs.find? (fun x => decide (x.1 = k)) with
  | none => rfl
  | some y =>
    obtain ⟨j, hj⟩ := List.getElem?_of_mem (List.mem_of_find?_eq_some q)
    have e : y.1 = k := of_decide_eq_true (by simpa using List.find?_some q)
    exact absurd (by rw [hj, ← e]) (h j y.2)
theorem atM_some {xs : List EMix} (hn : (xs.map (·.1)).Nodup) {k : NestedKey} {j : Nat} {p : Value × Value} (h : xs[j]? = some (k, p)) : atM xs k = some p.2 := by
  unfold atM
  cases q : xs.find? (fun x => decide (x.1 = k)) with
  | none =>
    have := List.find?_eq_none.mp q _ (List.mem_of_getElem? h)
    simp at this
  | some y =>
    obtain ⟨i, hi⟩ := List.getElem?_of_mem (List.mem_of_find?_eq_some q)
    have e : y.1 = k := of_decide_eq_true (by simpa using List.find?_some q)
    have ij := nd_one hn (p := y.2) (show xs[i]? = some (k, y.2) by rw [hi, ← e]) h
    rw [ij, h] at hi
    cases hi; rfl
theorem keys_putM (k : NestedKey) (v : Value) (xs : List EMix) : (xs.map (putM k v)).map (·.1) = xs.map (·.1) := by
  rw [List.map_map]
  refine List.map_congr_left fun x _ => ?_
  show (putM k v x).1 = x.1
  unfold putM; split <;> rfl
theorem modify_putM {w : World} {k : NestedKey} {v : Value} {xs : List EMix} (hn : (xs.map (·.1)).Nodup) {j : Nat} {p : Value × Value} (h : xs[j]? = some (k, p)) : (xs.map (entM w)).modify j (fun e => { e with val := v }) = (xs.map (putM k v)).map (entM w) := by
  refine List.ext_getElem? fun i => ?_
  rw [List.getElem?_modify, List.getElem?_map, List.getElem?_map, List.getElem?_map]
  cases q : xs[i]? with
  | none => simp
  | some y =>
    by_cases e : j = i
    · subst e
      rw [h] at q
      cases q
      simp [entM, putM]
    · have ne : ¬ y.1 = k := fun z => e (nd_one hn h (show xs[i]? = some (k, y.2) by rw [q, ← z]))
      simp [e, putM, ne]
section
variable {P : Program} {w : World} {A : Around} {E : Value → Shared → Prop} {s : Shared} {d : Addr} {xs : List EMix} {k : NestedKey} {key : Value}
theorem KOk.keeps {h h' : Heap} {j : NestedKey} {u : Value} {o : Obj} {es : Array DictEntry} {ep : Nat} (x : KOk h j u) (ho : h.get? d = some o) (hd : o.data = .dict es ep) (hs : Heap.SameBut d h h') : KOk h' j u :=
  ⟨NestedIs.at (fun b ob vs n hb hc => by
    refine (hs.2 b fun e => ?_).trans hb
    subst e
    rw [ho] at hb
    cases hb
    rw [hd] at hc
    cases hc) j _ x.1, x.2⟩
theorem mix_get {Q : Option Value → Shared → Prop} (hu : A.units + 8 < cLine) (hkey : KOk s.heap k key) (hm : DictMix w s.heap d xs) (h : Q (atM xs k) { s with toks := s.toks + k.draws }) : wpAny (model P w) A (dictGet d key) Q E s := by
  obtain ⟨o, es, ep, ho, _, hd, he, his, hn⟩ := hm
  unfold dictGet
  refine wpAny_holding ?_
  refine wpAny_bind (pyHash_key k key A s _ hkey.1 (by have := hkey.2; omega) ?_)
  refine wpAny_bind (mix_find (s := { s with toks := s.toks + k.draws }) hu hkey ho hd he his hn (fun hno => ?_) (fun j p hj => ?_))
  · rw [atM_none hno] at h
    exact wpAny_pure h
  · rw [atM_some hn hj] at h
    refine wpAny_bind (wpAny_dictEntries (s := { s with toks := s.toks + k.draws }) ho hd ?_)
    rw [mix_at he j, hj]
    exact wpAny_pure h
theorem mix_set {v : Value} {Q : Unit → Shared → Prop} (hu : A.units + 8 < cLine) (hkey : KOk s.heap k key) (hm : DictMix w s.heap d xs) (hsz : xs.length ≤ sizeLine)
    (hQ : ∀ h', DictMix w h' d (storedM xs k key v) → Heap.SameBut d s.heap h' → Q () { s with heap := h', toks := s.toks + k.draws }) : wpAny (model P w) A (dictSet d key v) Q E s := by
  obtain ⟨o, es, ep, ho, hc, hd, he, his, hn⟩ := hm
  have sz : es.size = xs.length := by rw [← Array.length_toList, he, List.length_map]
  unfold dictSet
  refine wpAny_holding ?_
  refine wpAny_bind (pyHash_key k key A s _ hkey.1 (by have := hkey.2; omega) ?_)
  unfold dictSetHashed
  refine wpAny_holding ?_
  refine wpAny_bind (mix_find (s := { s with toks := s.toks + k.draws }) hu hkey ho hd he his hn (fun hno => ?_) (fun j p hj => ?_))
  · have sn : storedM xs k key v = xs ++ [(k, key, v)] := by unfold storedM; rw [atM_none hno]; rfl
    have nk : k ∉ xs.map (·.1) := fun z => by
      obtain ⟨y, hy, e⟩ := List.mem_map.mp z
      obtain ⟨j, hj⟩ := List.getElem?_of_mem hy
      exact hno j y.2 (by rw [hj, ← e])
    refine wpAny_bind (wpAny_rule (wpAny_updateDictKeys (hz := by omega) (s := { s with toks := s.toks + k.draws }) ho hd (hQ _ ⟨_, _, ep + 1, Heap.get?_update_self _ ho (Obj.isFreed_of_dict (Obj.data_mapDictKeys hd _)), hc.mapDictKeys _, Obj.data_mapDictKeys hd _, ?_, ?_, ?_⟩ (Heap.SameBut.update ..))))
    · rw [sn, List.map_append, ← he]; simp [entM]
    · rw [sn]
      intro x hx
      rcases List.mem_append.mp hx with hx | hx
      · exact (his x hx).keeps ho hd (Heap.SameBut.update ..)
      · rw [List.mem_singleton.mp hx]
        exact hkey.keeps ho hd (Heap.SameBut.update ..)
    · rw [sn, List.map_append]
      refine List.nodup_append.mpr ⟨hn, by simp, fun a ha b hb e => nk ?_⟩
      have hb : b = k := List.mem_singleton.mp hb
      rw [← hb, ← e]; exact ha
  · have sn : storedM xs k key v = xs.map (putM k v) := by unfold storedM; rw [atM_some hn hj]; rfl
    refine wpAny_bind (wpAny_rule (wpAny_bind (wpAny_updateDict (s := { s with toks := s.toks + k.draws }) ho hd (wpAny_point (hQ _ ⟨_, _, ep, Heap.get?_update_self _ ho (Obj.isFreed_of_dict (Obj.data_mapDict hd _)), hc.mapDict _, Obj.data_mapDict hd _, ?_, ?_, ?_⟩ (Heap.SameBut.update ..))))))
    · rw [sn, ← modify_putM hn hj, ← he]; simp
    · rw [sn]
      intro x hx
      obtain ⟨y, hy, rfl⟩ := List.mem_map.mp hx
      unfold putM
      split <;> exact (his y hy).keeps ho hd (Heap.SameBut.update ..)
    · rw [sn, keys_putM]; exact hn
end
end SLm

namespace SLm
open PySem PySem.Spec PyProof.Rows
section
variable {P : Program} {w : World} {A : Around} {E : Value → Shared → Prop} {s : Shared} {d : Addr} {xs : List EMix} {k : NestedKey} {key : Value}
theorem mix_getItem {v : Value} {Q : Value → Shared → Prop} (hu : A.units + 9 < cLine) (hkey : KOk s.heap k key) (hm : DictMix w s.heap d xs) (hp : atM xs k = some v) (h : Q v { s with toks := s.toks + k.draws }) : wpAny (model P w) A (getItem (.ref d) key) Q E s := by
  have ty := hm.typeIs
  unfold getItem
  refine wpAny_holding ?_
  refine wpAny_bind (wpAny_sequenceKey ty (by decide) ?_)
  refine wpAny_bind (wpAny_callSpecial?_slot (name := Str.ofString "__getitem__") ty slot_dict_getitem (wpAny_call_entry slot_dict_getitem ty entry_dict_getitem ?_ (args_dict_getitem _ _)))
  show wpAny _ _ (dictGet d key >>= _) _ _ s
  refine wpAny_bind (mix_get (by show A.units + 1 + 8 < cLine; omega) hkey hm ?_)
  rw [hp]
  exact wpAny_pure ⟨v, rfl, wpAny_pure h⟩
theorem mix_setItem {v : Value} {Q : Unit → Shared → Prop} (hu : A.units + 9 < cLine) (hkey : KOk s.heap k key) (hm : DictMix w s.heap d xs) (hsz : xs.length ≤ sizeLine)
    (hQ : ∀ h', DictMix w h' d (storedM xs k key v) → Heap.SameBut d s.heap h' → Q () { s with heap := h', toks := s.toks + k.draws }) : wpAny (model P w) A (setItem (.ref d) key v) Q E s := by
  have ty := hm.typeIs
  unfold setItem
  refine wpAny_holding ?_
  refine wpAny_bind (wpAny_sequenceKey ty (by decide) ?_)
  refine wpAny_bind (wpAny_callSpecial?_slot (name := Str.ofString "__setitem__") ty slot_dict_setitem (wpAny_call_entry slot_dict_setitem ty entry_dict_setitem ?_ (args_dict_setitem _ _ _)))
  show wpAny _ _ (Builtin.Dict.notOrdered "__setitem__" ⟨[.ref d, key, v], []⟩ >>= _) _ _ s
  refine wpAny_bind (wpAny_notOrdered_dict ty ?_)
  show wpAny _ _ (dictSet d key v >>= _) _ _ s
  exact wpAny_bind (mix_set (by show A.units + 1 + 8 < cLine; omega) hkey hm hsz fun h' hm' hs' => wpAny_pure ⟨.none, rfl, wpAny_pure (hQ h' hm' hs')⟩)
end
end SLm

namespace SL
open PySem PySem.Spec PyProof.Rows L2
/-! # dicts whose keys are nested tuples -/
/-- the world of the hashes -/
class HW where
  w : World
def valN {α : Type} (l : List (NestedKey × α)) (k : NestedKey) : Option α := (l.find? fun p => decide (p.1 = k)).map (·.2)
def putN {α : Type} (kk : List NestedKey) (xs : List α) (k : NestedKey) (x : α) : List α := (kk.zip xs).map fun p => if p.1 = k then x else p.2
def valX (xs : List NEnt) (k : NestedKey) : Option V := (xs.find? fun x => decide (x.1 = k)).map (·.2.2)
def putX' (k : NestedKey) (v : V) (x : NEnt) : NEnt := if x.1 = k then (x.1, x.2.1, v) else x
/-- behind d[k] = v; the key's tuple at b -/
def storeX (xs : List NEnt) (k : NestedKey) (b : V) (v : V) : List NEnt := if (valX xs k).isSome = true then xs.map (putX' k v) else xs ++ [(k, b, v)]
theorem storeX_len (xs : List NEnt) (k : NestedKey) (b : V) (v : V) : (storeX xs k b v).length ≤ xs.length + 1 := by
  unfold storeX; split <;> simp
section
variable {P : Program} {w : World}
theorem same_val {k : NestedKey} : ∀ {xs : List NEnt} {ys : List SLm.EMix}, Paired SameN xs ys → (∀ v, valX xs k = some v → ∃ p, SLm.atM ys k = some p ∧ RelV v p) ∧ (valX xs k = none → SLm.atM ys k = none)
  | _, _, .nil => ⟨fun v h => (by cases h), fun _ => rfl⟩
  | x :: xs, y :: ys, .cons r t => by
    obtain ⟨i1, i2⟩ := same_val (k := k) t
    unfold valX SLm.atM at i1 i2 ⊢
    by_cases e : x.1 = k
    · have e2 : y.1 = k := by rw [← r.1]; exact e
      rw [List.find?_cons_of_pos (by simpa using e), List.find?_cons_of_pos (by simpa using e2)]
      exact ⟨fun v h => by cases h; exact ⟨y.2.2, rfl, r.2.2⟩, fun h => nomatch h⟩
    · have e2 : ¬ y.1 = k := by rw [← r.1]; exact e
      rw [List.find?_cons_of_neg (by simpa using e), List.find?_cons_of_neg (by simpa using e2)]
      exact ⟨i1, i2⟩
theorem same_map {k : NestedKey} {v : V} {u : Value} (rv : RelV v u) : ∀ {xs : List NEnt} {ys : List SLm.EMix}, Paired SameN xs ys → Paired SameN (xs.map (putX' k v)) (ys.map (SLm.putM k u))
  | _, _, .nil => .nil
  | x :: xs, y :: ys, .cons r t => by
    rw [List.map_cons, List.map_cons]
    refine .cons ?_ (same_map rv t)
    unfold putX' SLm.putM
    by_cases e : x.1 = k
    · rw [if_pos e, if_pos (by rw [← r.1]; exact e)]
      exact ⟨r.1, r.2.1, rv⟩
    · rw [if_neg e, if_neg (by rw [← r.1]; exact e)]
      exact r
theorem same_app : ∀ {xs us : List NEnt} {ys ws : List SLm.EMix}, Paired SameN xs ys → Paired SameN us ws → Paired SameN (xs ++ us) (ys ++ ws)
  | _, _, _, _, .nil, h => h
  | _, _, _, _, .cons r t, h => .cons r (same_app t h)
theorem same_store {k : NestedKey} {b v : V} {c u : Value} (rb : RelV b c) (rv : RelV v u) {xs : List NEnt} {ys : List SLm.EMix} (h : Paired SameN xs ys) : Paired SameN (storeX xs k b v) (SLm.storedM ys k c u) := by
  obtain ⟨i1, i2⟩ := same_val (k := k) h
  unfold storeX SLm.storedM
  cases e : valX xs k with
  | some z =>
    obtain ⟨p, hp, _⟩ := i1 z e
    simp only [hp, Option.isSome_some, if_true]
    exact same_map rv h
  | none =>
    simp only [i2 e, Option.isSome_none, Bool.false_eq_true, if_false]
    exact same_app h (.cons ⟨rfl, rb, rv⟩ .nil)
theorem same_mem : ∀ {xs : List NEnt} {ys : List SLm.EMix}, Paired SameN xs ys → ∀ y ∈ ys, ∃ x ∈ xs, x.1 = y.1 ∧ RelV x.2.1 y.2.1
  | _, _, .nil, y, h => by cases h
  | x :: xs, z :: ys, .cons r t, y, h => by
    rcases List.mem_cons.mp h with e | h
    · exact ⟨x, List.mem_cons_self, by rw [e]; exact r.1, by rw [e]; exact r.2.1⟩
    · obtain ⟨u, hu, e⟩ := same_mem t y h
      exact ⟨u, List.mem_cons_of_mem _ hu, e⟩
end
/-! ## what the heap knows -/
section
variable {P : Program} {w : World} {K : PySem.W.Frag} {mg : Str → Option Value} {F H : Hp} {h : Heap} {μ : List Addr}
mutual
theorem nk_is (ok : HOk P w H h) (l : ∀ a o, F a = some o → H a = some o) : ∀ {y : W} {k : NestedKey} {v : V} {u : Value}, nkW y = some k → Rep K mg F μ y v → RelV v u → NestedIs h k u
  | .non, k, v, u, e, r, ru => by
    cases e
    cases rep_non_inv r
    have : u = .none := ru
    subst this; exact .none
  | .bl b, k, v, u, e, r, ru => by
    cases e
    cases rep_bl_inv r
    have : u = .bool b := ru
    subst this; exact .bool rfl
  | .int i, k, v, u, e, r, ru => by
    cases e
    cases rep_int_inv r
    obtain ⟨t, rfl⟩ := (show ∃ t, u = Value.int i t from ru)
    exact .int _ _
  | .str x, k, v, u, e, r, ru => by
    cases e
    cases rep_str_inv r
    obtain ⟨t, rfl⟩ := (show ∃ t, u = Value.str x t from ru)
    exact .text _ _
  | .tup ws, k, v, u, e, r, ru => by
    unfold nkW at e
    obtain ⟨ks, e1, rfl⟩ := Option.map_eq_some_iff.mp e
    obtain ⟨a, vs, rfl, h1, h2⟩ := rep_tup_inv r
    have : u = .ref a := ru
    subst this
    obtain ⟨_, its, rv, o, ho, hc, n, hd⟩ := ok a _ (l a _ h1)
    exact .tup ho hc hd (by simpa using nks_is ok l e1 h2 rv)
  | .lst _, _, _, _, e, _, _ => by cases e
  | .dct _ _, _, _, _, e, _, _ => by cases e
  | .ins _ _ _, _, _, _, e, _, _ => by cases e
  | .cell _, _, _, _, e, _, _ => by cases e
  | .ro _, _, _, _, e, _, _ => by cases e
  | .ty _, _, _, _, e, _, _ => by cases e
  | .cls _, _, _, _, e, _, _ => by cases e
  | .tpn _, _, _, _, e, _, _ => by cases e
theorem nks_is (ok : HOk P w H h) (l : ∀ a o, F a = some o → H a = some o) : ∀ {ys : List W} {ks : List NestedKey} {vs : List V} {us : List Value}, nkWs ys = some ks → Reps K mg F μ ys vs → Vals vs us → NestedAll h ks us
  | [], ks, vs, us, e, r, rv => by
    cases e
    rw [Reps.nil_iff] at r
    subst r
    cases rv; exact .nil
  | y :: ys, ks, vs, us, e, r, rv => by
    unfold nkWs at e
    cases e1 : nkW y with
    | none => rw [e1] at e; cases e
    | some k =>
      cases e2 : nkWs ys with
      | none => rw [e1, e2] at e; cases e
      | some js =>
        rw [e1, e2] at e; cases e
        obtain ⟨v, t, rfl, r1, r2⟩ := r.cons_inv
        cases rv with
        | cons a b => exact .cons (nk_is ok l e1 r1 a) (nks_is ok l e2 r2 b)
end
theorem nkeyM_nk {y : W} {k : NestedKey} (h : nkeyM y = some k) : nkW y = some k ∧ k.depth ≤ 8 := by
  cases y with
  | tup ws => exact nkey_nk h
  | non => cases h; exact ⟨rfl, by decide⟩
  | bl b => cases h; exact ⟨rfl, by simp [NestedKey.depth]⟩
  | int i => cases h; exact ⟨rfl, by simp [NestedKey.depth]⟩
  | str x => cases h; exact ⟨rfl, by simp [NestedKey.depth]⟩
  | _ => cases h
theorem nkeyM_is (ok : HOk P w H h) (l : ∀ a o, F a = some o → H a = some o) {y : W} {k : NestedKey} {v : V} {u : Value} (e : nkeyM y = some k) (r : Rep K mg F μ y v) (ru : RelV v u) : SLm.KOk h k u :=
  ⟨nk_is ok l (nkeyM_nk e).1 r ru, (nkeyM_nk e).2⟩
theorem kn_keys : ∀ {ks : List W} {xs : List NEnt}, KN K mg F μ ks xs → mapO nkeyM ks = some (xs.map (·.1))
  | [], [], _ => rfl
  | [], _ :: _, h => by have := h.1; simp at this
  | _ :: _, [], h => by have := h.1; simp at this
  | k :: ks, x :: xs, h => by
    have i := kn_keys (ks := ks) (xs := xs) ⟨by simpa using h.1, fun i k x a b => h.2 (i + 1) k x (by simpa using a) (by simpa using b)⟩
    unfold mapO
    rw [(h.2 0 k x rfl rfl).1, i]; rfl
theorem dkn_of (ok : HOk P w H h) (l : ∀ a o, F a = some o → H a = some o) {a : Addr} {ks : List W} {xs : List NEnt} (r : Rd H a (DkN w a xs)) (kn : KN K mg F μ ks xs) :
    (a == sysModules) = false ∧ xs.length ≤ sizeLine ∧ ∃ ys, Paired SameN xs ys ∧ SLm.DictMix w h a ys := by
  have x : ObjOk P w H h a (DkN w a xs) := r.ok ok
  obtain ⟨⟨h1, h2, ys, p, o, es, ep, g1, g2, g3, g4, g5⟩, _⟩ := x
  refine ⟨h1, h2, ys, p, o, es, ep, g1, g2, g3, g4, fun y hy => ?_, g5⟩
  obtain ⟨z, hz, e1, e2⟩ := same_mem p y hy
  obtain ⟨i, hi⟩ := List.getElem?_of_mem hz
  have il : i < ks.length := by rw [kn.1]; exact (List.getElem?_eq_some_iff.mp hi).1
  obtain ⟨n1, n2⟩ := kn.2 i ks[i] z (List.getElem?_eq_getElem il) hi
  rw [← e1]
  exact nkeyM_is (P := P) (w := w) ok l n1 n2 e2
end
end SL

namespace SL
open PySem PySem.Spec PyProof.Rows L2
/-! # dicts with nested keys: read, written, made -/
theorem dkn_stay {wo : World} {a : Addr} {xs : List NEnt} {h1 h2 : Heap} (x : (a == sysModules) = false ∧ xs.length ≤ sizeLine ∧ ∃ ys, Paired SameN xs ys ∧ ∃ o es ep, h1.get? a = some o ∧ o.ExactDict ∧ o.data = .dict es ep ∧ es.toList = ys.map (entN wo) ∧ (ys.map (·.1)).Nodup) (k : ∀ o, h1.get? a = some o → h2.get? a = some o) :
    (a == sysModules) = false ∧ xs.length ≤ sizeLine ∧ ∃ ys, Paired SameN xs ys ∧ ∃ o es ep, h2.get? a = some o ∧ o.ExactDict ∧ o.data = .dict es ep ∧ es.toList = ys.map (entN wo) ∧ (ys.map (·.1)).Nodup := by
  obtain ⟨a1, a2, ys, p, o, es, ep, g1, g⟩ := x
  exact ⟨a1, a2, ys, p, o, es, ep, k _ g1, g⟩
def NGt (P : Program) (w : World) (H : Hp) (a : Addr) (y v : V) : Prop := ∀ h, HOk P w H h → ∀ u, RelV y u → ∃ k ys p, SLm.KOk h k u ∧ SLm.DictMix w h a ys ∧ SLm.atM ys k = some p ∧ RelV v p
def rNGet (P : Program) (w : World) : R2 := fun x y H Q => ∃ a v, x = .ref a ∧ NGt P w H a y v ∧ Q v H
def tNGet (P : Program) (w : World) (td ty : TE) : TE := fun σ H Q => td σ H fun x H1 => ty σ H1 fun y H2 => rNGet P w x y H2 Q
def rSetN (P : Program) (w : World) : TSet := fun o i v H Q => ∃ a xs k, o = .ref a ∧ H a = some (DkN w a xs) ∧ xs.length < sizeLine ∧ (∀ h, HOk P w H h → ∀ u, RelV i u → (a == sysModules) = false ∧ SLm.KOk h k u ∧ ∃ ys, Paired SameN xs ys ∧ SLm.DictMix w h a ys) ∧ Q (upd H a (DkN w a (storeX xs k i v)))
def tDNewN (w : World) : TE := fun _ H Q => ∀ p, H p = none → Q (.ref p) (upd H p (DkN w p []))
section
variable {X : Cx} {o i : Expr} {td ty : TE} {pos : Pos}
theorem nroom (hu : X.A.units + 64 < cLine) : X.A.units + 9 < cLine := by omega
theorem pe_nget (hu : X.A.units + 64 < cLine) (ho : PE X o td) (hi : PE X i ty) (hs : NoSl i) : PE X (.Subscript o i pos) (tNGet X.prog X.w td ty) := by
  refine ⟨fun pins s σ H Q I h => ?_⟩
  refine subD_of PySem.F.slot_dict_getitem.lookup hs (thn (ho.run pins s σ H _ I h) fun u s1 ⟨x, H1, I1, rx, q1⟩ => thn (hi.run pins s1 σ H1 _ I1 q1) fun iv s2 ⟨y, H2, I2, ry, a, v, ex, g, q2⟩ => ?_)
  subst ex
  obtain rfl : u = Value.ref a := rx
  obtain ⟨k, ys, p, hk, dd, hp, rv⟩ := g s2.heap I2.hok iv ry
  exact ⟨dd.typeIs, SLm.mix_getItem (nroom hu) hk dd hp ⟨v, H2, I2.tok _, rv, q2⟩⟩
theorem set_nest (hu : X.A.units + 64 < cLine) : PSet X (rSetN X.prog X.w) := by
  intro pins s σ H o i v ov iv u Q I ro ri rv h
  obtain ⟨a, xs, k, rfl, e, hl, g, q⟩ := h
  cases (show ov = Value.ref a from ro)
  obtain ⟨hs, hk, ys, sm, dd⟩ := g s.heap I.hok iv ri
  have yl : ys.length ≤ sizeLine := by rw [← Paired.length sm]; omega
  refine SLm.mix_setItem (nroom hu) hk dd yl fun h' dd' sb => ?_
  obtain ⟨o, es, ep, ho, g2, g3, g4, _, g5⟩ := dd'
  have sl := storeX_len xs k i v
  exact ⟨_, d_write (ob := DkN X.w a (storeX xs k i v)) I (by rw [e]; exact True.intro) sb ⟨o, ho⟩ ⟨⟨hs, by omega, _, same_store ri rv sm, o, es, ep, ho, g2, g3, g4, g5⟩, ⟨o, ho⟩, fun _ _ x k => dkn_stay x k⟩, q⟩
theorem pe_dnewN : PE X (.Dict [] [] pos) (tDNewN X.w) := ⟨fun pins s σ H Q I h =>
  wpAny_Dict_empty ⟨.ref s.heap.objs.size, _, I.laid (a := s.heap.objs.size) (o := DkN X.w s.heap.objs.size []) (t' := s.toks) (fun _ _ q => Heap.get?_push_of_some _ q) (Nat.le_refl _)
    ⟨⟨beq_eq_false_iff_ne.mpr (Ne.symm (Nat.ne_of_lt I.big)), Nat.zero_le _, [], .nil, _, #[], 0, Heap.get?_push_size _ rfl, ⟨rfl, rfl, rfl⟩, rfl, rfl, List.nodup_nil⟩, ⟨_, Heap.get?_push_size _ rfl⟩, fun _ _ x k => dkn_stay x k⟩, rfl, h _ (I.hok.fresh (Nat.le_refl _))⟩⟩
end
/-! ## by values -/
noncomputable def nctW (w : World) (st : Sto) (x : W) : Option (List W × List W) := match x with
  | .cell k => (match st[k]? with
    | some (.nct _ wo ks ws) => if dec (wo = w) = true then some (ks, ws) else none
    | _ => none)
  | _ => none
noncomputable def oNGet (w : World) : Op2 := fun x y st => match nctW w st x, nkeyM y with
  | some (ks, ws), some j => (match mapO nkeyM ks with
    | some kk => (match valN (kk.zip ws) j with
      | some u => .ok u st
      | none => .bad)
    | none => .bad)
  | _, _ => .bad
noncomputable def uNct (w : World) : Op3 := fun o y u st => match o with
  | .cell n => (match st[n]? with
    | some (.nct false wo ks ws) => if dec (wo = w) = true then (match mapO nkeyM ks, nkeyM y with
      | some kk, some j => if ks.length < LINE then (if (valN (kk.zip ws) j).isSome = true then some (st.set n (.nct false wo ks (putN kk ws j u))) else some (st.set n (.nct false wo (ks ++ [y]) (ws ++ [u])))) else none
      | _, _ => none) else none
    | _ => none)
  | _ => none
def eNDct0 (w : World) : Sem := fun _ st => .ok (.cell st.length) (st ++ [.nct false w [] []])
section
variable {K : PySem.W.Frag} {mg : Str → Option Value} {F : Hp} {μ : List Addr}
theorem valN_at {j : NestedKey} : ∀ {xs : List NEnt} {ws : List W}, Reps K mg F μ ws (xs.map (·.2.2)) → (∀ w, valN ((xs.map (·.1)).zip ws) j = some w → ∃ v, valX xs j = some v ∧ Rep K mg F μ w v) ∧ (valN ((xs.map (·.1)).zip ws) j = none → valX xs j = none)
  | [], ws, _ => ⟨fun w h => (by simp [valN] at h), fun _ => rfl⟩
  | x :: xs, [], r => by
    have := r.length
    simp at this
  | x :: xs, w :: ws, r => by
    obtain ⟨v, t, e, r1, r2⟩ := r.cons_inv
    rw [List.map_cons] at e
    injection e with e1 e2
    subst e1 e2
    obtain ⟨i1, i2⟩ := valN_at (j := j) r2
    rw [List.map_cons, List.zip_cons_cons]
    unfold valN valX at i1 i2 ⊢
    by_cases e : x.1 = j
    · rw [List.find?_cons_of_pos (by simpa using e), List.find?_cons_of_pos (by simpa using e)]
      exact ⟨fun u h => by cases h; exact ⟨_, rfl, r1⟩, fun h => nomatch h⟩
    · rw [List.find?_cons_of_neg (by simpa using e), List.find?_cons_of_neg (by simpa using e)]
      exact ⟨i1, i2⟩
theorem reps_putN {j : NestedKey} {u : W} {v : V} (ru : Rep K mg F μ u v) : ∀ {xs : List NEnt} {ws : List W}, Reps K mg F μ ws (xs.map (·.2.2)) → Reps K mg F μ (putN (xs.map (·.1)) ws j u) ((xs.map (putX' j v)).map (·.2.2))
  | [], ws, _ => by unfold putN; simp; exact .nil
  | x :: xs, [], r => by
    have := r.length
    simp at this
  | x :: xs, w :: ws, r => by
    obtain ⟨v', t, e, r1, r2⟩ := r.cons_inv
    rw [List.map_cons] at e
    injection e with e1 e2
    subst e1 e2
    have ih := reps_putN (j := j) ru r2
    unfold putN at ih ⊢
    rw [List.map_cons, List.zip_cons_cons, List.map_cons, List.map_cons, List.map_cons]
    refine .cons ?_ ih
    unfold putX'
    by_cases e : x.1 = j
    · rw [if_pos e, if_pos e]; exact ru
    · rw [if_neg e, if_neg e]; exact r1
theorem kn_putX {j : NestedKey} {v : V} {ks : List W} {xs : List NEnt} (h : KN K mg F μ ks xs) : KN K mg F μ ks (xs.map (putX' j v)) := by
  refine ⟨by rw [List.length_map]; exact h.1, fun i k x a b => ?_⟩
  rw [List.getElem?_map] at b
  obtain ⟨y, hy, rfl⟩ := Option.map_eq_some_iff.mp b
  have q := h.2 i k y a hy
  unfold putX'
  by_cases e : y.1 = j
  · rw [if_pos e]; exact q
  · rw [if_neg e]; exact q
theorem kn_app {ks : List W} {xs : List NEnt} {y : W} {j : NestedKey} {b v : V} (h : KN K mg F μ ks xs) (e : nkeyM y = some j) (r : Rep K mg F μ y b) : KN K mg F μ (ks ++ [y]) (xs ++ [(j, b, v)]) := by
  refine ⟨by simp [h.1], fun i k x a c => ?_⟩
  rcases Nat.lt_or_ge i ks.length with q | q
  · rw [List.getElem?_append_left q] at a
    rw [List.getElem?_append_left (by rw [← h.1]; exact q)] at c
    exact h.2 i k x a c
  · rw [List.getElem?_append_right q] at a
    rw [List.getElem?_append_right (by rw [← h.1]; exact q), ← h.1] at c
    cases hz : i - ks.length with
    | zero =>
      rw [hz] at a c
      cases a; cases c
      exact ⟨e, r⟩
    | succ m => rw [hz] at a; simp at a
theorem nct_at {w : World} {hid : List Addr} {st : Sto} {H : Hp} {x : W} {v : V} {ks ws : List W} (k : StOk K mg μ st hid H) (h : nctW w st x = some (ks, ws)) (r : Rep K mg (Fz μ st hid H) μ x v) :
    ∃ a xs, v = .ref a ∧ Rd H a (DkN w a xs) ∧ KN K mg (Fz μ st hid H) μ ks xs ∧ Reps K mg (Fz μ st hid H) μ ws (xs.map (·.2.2)) := by
  cases x with
  | cell n =>
    unfold nctW at h
    simp only at h
    split at h
    · rename_i l wo ks' ws' e
      split at h
      · rename_i hw
        cases h
        have hw := dec_of hw
        subst hw
        obtain ⟨a, rfl, e2, xs, d, kn, rr⟩ := k.cell e r
        refine ⟨a, xs, rfl, ?_, kn, rr⟩
        cases l with
        | true => obtain ⟨o, d⟩ := d; exact .inr ⟨o, d⟩
        | false => exact .inl d
      · cases h
    · cases h
  | _ => cases h
end
section
variable {X : Cx} {Wx : Wish} {w : World}
theorem os_nget (hw : X.w = w) : Op2S X (oNGet w) (rNGet X.prog X.w) := by
  subst hw
  intro Wx hid μ st σ H Q x y xv yv k rx ry P
  unfold oNGet at P
  split at P
  · rename_i ks ws j hx hy
    split at P
    · rename_i kk hk
      split at P
      · rename_i u hu
        obtain ⟨a, xs, rfl, rd, kn, rr⟩ := nct_at k hx rx
        have e := kn_keys kn
        rw [hk] at e
        cases e
        obtain ⟨v, hv, rv⟩ := (valN_at rr).1 u hu
        refine ⟨a, v, rfl, fun h ok uu ru => ?_, P μ H _ k .refl rv⟩
        obtain ⟨h1, h2, ys, sm, dd⟩ := dkn_of (P := X.prog) (w := X.w) ok (fun _ _ z => (Fz.sub z).1) rd kn
        have hk2 := nkeyM_is (P := X.prog) (w := X.w) ok (fun _ _ z => (Fz.sub z).1) hy ry ru
        obtain ⟨p, hp, rp⟩ := (same_val sm).1 v hv
        exact ⟨j, ys, p, hk2, dd, hp, rp⟩
      · exact P.elim
    · exact P.elim
  · exact P.elim
theorem ev_nget {k : Nat} {o i : Expr} {f g : Sem} {pos : Pos} (hw : X.w = w) (C : Ctx X Wx k) (ho : EV X Wx o f) (hi : EV X Wx i g) (hs : NoSl i := by intro _ _; rfl) : EV X Wx (.Subscript o i pos) (e2 (oNGet w) f g) :=
  PEm (pe_nget C.room.units ho hi hs) (e2_read (os_nget hw))
theorem ev_ndct0 {pos : Pos} (hw : X.w = w) : EV X Wx (.Dict [] [] pos) (eNDct0 w) := PEm pe_dnewN fun σ H Q ⟨μ, st, hid, fr, S, P⟩ => by
  subst hw
  intro p hp
  obtain ⟨k2, g2⟩ := S.sto.newCell (c := .nct false X.w [] []) (o := DkN X.w p []) hp rfl ⟨[], upd_same, ⟨rfl, fun i k x a _ => (by simp at a)⟩, .nil⟩
  refine P _ _ _ k2 g2 ?_
  unfold Rep
  exact ⟨p, by rw [← S.sto.len]; simp, rfl⟩
theorem os_setN (hw : X.w = w) : Op3S X (uNct w) (rSetN X.prog X.w) := by
  subst hw
  intro hid μ st st' H Q o y u ov yv v k ro ry ru e q
  unfold uNct at e
  split at e
  · rename_i n
    split at e
    · rename_i wo ks ws e1
      split at e
      · rename_i hwo
        have hwo := dec_of hwo
        subst hwo
        split at e
        · rename_i kk j hk hy
          obtain ⟨a, rfl, h1, xs, d, kn, rr⟩ := k.cell e1 ro
          have ek := kn_keys kn
          rw [hk] at ek
          cases ek
          have d : H a = some (DkN X.w a xs) := d
          split at e
          · rename_i hl
            have xl : xs.length < sizeLine := by
              rw [← kn.1, sizeLine_eq]
              unfold LINE at hl
              exact hl
            have vx := valN_at (j := j) rr
            refine ⟨a, xs, j, rfl, d, xl, fun h ok uu ru => ?_, ?_⟩
            · obtain ⟨h1, h2, ys, sm, dd⟩ := dkn_of (P := X.prog) (w := X.w) ok (fun _ _ z => (Fz.sub z).1) (.inl d) kn
              exact ⟨h1, nkeyM_is (P := X.prog) (w := X.w) ok (fun _ _ z => (Fz.sub z).1) hy ry ru, ys, sm, dd⟩
            · unfold storeX
              cases hv : valN ((xs.map (·.1)).zip ws) j with
              | some z =>
                obtain ⟨v', hv2, _⟩ := vx.1 z hv
                rw [hv] at e
                simp only [Option.isSome_some, if_true] at e
                cases e
                simp only [hv2, Option.isSome_some, if_true]
                obtain ⟨k2, g4⟩ := k.setCell (c' := .nct false X.w ks (putN (xs.map (·.1)) ws j u)) (o := DkN X.w a (xs.map (putX' j v))) h1 e1 rfl rfl ⟨_, upd_same, kn_putX kn, reps_putN ru rr⟩ rfl
                exact q _ _ k2 g4
              | none =>
                have hv2 := vx.2 hv
                rw [hv] at e
                simp only [Option.isSome_none, Bool.false_eq_true, if_false] at e
                cases e
                simp only [hv2, Option.isSome_none, Bool.false_eq_true, if_false]
                obtain ⟨k2, g4⟩ := k.setCell (c' := .nct false X.w (ks ++ [y]) (ws ++ [u])) (o := DkN X.w a (xs ++ [(j, yv, v)])) h1 e1 rfl rfl ⟨_, upd_same, kn_app kn hy ry, by rw [List.map_append]; exact rr.append (.cons ru .nil)⟩ rfl
                exact q _ _ k2 g4
          · cases e
        · cases e
      · cases e
    · cases e
  · cases e
end
end SL

namespace L2
open PySem PySem.Spec PyProof.Rows
/-! # walks over a dict with nested keys -/
def ItN (wo : World) (d : Addr) (o : Obj) (xs : List SL.NEnt) : It :=
  ⟨fun i H => H d = some (.frz o (SL.DkN wo d xs)) ∧ i < xs.length, fun i H x H' => H' = H ∧ ∃ k : SL.NEnt, xs[i]? = some k ∧ x = k.2.1, fun i H => H d = some (.frz o (SL.DkN wo d xs)) ∧ xs.length ≤ i⟩
theorem same_at : ∀ {xs : List SL.NEnt} {ys : List SLm.EMix} {i : Nat} {x : SL.NEnt}, Paired SL.SameN xs ys → xs[i]? = some x → ∃ y, ys[i]? = some y ∧ SL.SameN x y
  | _, _, _, _, .nil, h => by simp at h
  | _, _, 0, _, .cons r t, h => by simp at h; subst h; exact ⟨_, rfl, r⟩
  | _, _, i + 1, _, .cons r t, h => by
    obtain ⟨y, hy, e⟩ := same_at (i := i) t (by simpa using h)
    exact ⟨y, by simpa using hy, e⟩
theorem Inv.frzN {X : Cx} {pins : List (Addr × Obj)} {σ : St} {H : Hp} {s : Shared} {d : Addr} {o : Obj} {wo : World} {xs : List SL.NEnt} (I : Inv X pins σ H s) (h : H d = some (.frz o (SL.DkN wo d xs))) :
    (d == sysModules) = false ∧ s.heap.get? d = some o ∧ o.ExactDict ∧ ∃ (es : Array DictEntry) (ep : Nat), o.data = .dict es ep ∧ es.size = xs.length ∧
      ∀ (i : Nat) (k : SL.NEnt), xs[i]? = some k → ∃ en : DictEntry, es[i]? = some en ∧ RelV k.2.1 en.key := by
  obtain ⟨hd, ⟨hs, hz, ys, sm, o', es, ep, ho, hx, hdt, he, _⟩, _⟩ := I.hok d _ h
  rw [hd] at ho
  cases ho
  have l2 : xs.length = ys.length := Paired.length sm
  have l1 : es.size = ys.length := by rw [← Array.length_toList, he, List.length_map]
  refine ⟨hs, hd, hx, es, ep, hdt, by omega, fun i k e => ?_⟩
  obtain ⟨y, hy, e1⟩ := same_at sm e
  refine ⟨SL.entN wo y, ?_, ?_⟩
  · rw [← Array.getElem?_toList, he, List.getElem?_map, hy]; rfl
  · exact e1.2.1
section
variable {P : Program} {w : World} {K : PySem.W.Frag} {tg : Expr} {d : Addr} {o : Obj} {es : Array DictEntry} {ep : Nat}
theorem turn_keysN {wo : World} {xs : List SL.NEnt} (it : Addr) (hod : o.data = .dict es ep) : Turn P w K tg (ItN wo d o xs) [it] it (fun i h => h.IsKeyIter it d i xs.length ep) where
  mem := by simp
  obj := fun i h st b hb => by
    have e : b = it := by simpa using hb
    subst e
    obtain ⟨oi, e, c, dd⟩ := st
    exact ⟨oi, e, fun v z => by rw [dd] at z; cases z⟩
  keep := fun i h h' st k => st.at fun oi e => k it (by simp) oi e
  item := by
    intro X hP hw hK hc i pins s σ H E I hf st hg
    subst hP hw hK
    obtain ⟨hd, hi⟩ := hg
    obtain ⟨f0, f1, f2, f3, f4, f5⟩ := hf it (by simp)
    obtain ⟨hs, hgd, hx, es', ep', hdt, hsz, ent⟩ := I.frzN hd
    obtain ⟨rfl, rfl⟩ := dict_ep hod hdt
    obtain ⟨k, hkv⟩ : ∃ p, xs[i]? = some p := ⟨xs[i], List.getElem?_eq_getElem hi⟩
    obtain ⟨en, hen, hkey⟩ := ent i k hkv
    refine next_key_item st hgd hdt hsz hen fun h' st' sb => ?_
    have I1 : Inv X pins σ H { s with heap := h' } := I.turned (t' := s.toks) (fun b ob hb e => (sb.2 b hb).trans e) f0 f1 f3 f4 f5
    obtain ⟨oi, e, c, dd⟩ := id st'
    exact ⟨en.key, rfl, go_of (s := { s with heap := h' }) e c dd (by decide) ⟨k.2.1, H, I1, hkey, ⟨rfl, k, hkv, rfl⟩, st', fun b hb => (hf b hb).1⟩⟩
  done := by
    intro X hP hw hK hc i pins s σ H E I hf st hg
    subst hP hw hK
    obtain ⟨hd, hi⟩ := hg
    obtain ⟨f0, f1, f2, f3, f4, f5⟩ := hf it (by simp)
    obtain ⟨hs, hgd, hx, es', ep', hdt, hsz, ent⟩ := I.frzN hd
    obtain ⟨rfl, rfl⟩ := dict_ep hod hdt
    exact next_key_end (I.ok.hd hc) st hgd hdt hsz hi fun h' eb => ⟨rfl, I.turned (t' := s.toks) (fun b ob hb e => eb b ob hb e) f0 f1 f3 f4 f5⟩
  self := fun A i s Q E st h => by
    refine wpAny_pyIter_slot st.typeIs F.slot_dict_keyiterator_iter (wpAny_call_entry F.slot_dict_keyiterator_iter st.typeIs F.entry_dict_keyiterator_iter ?_ (F.args_dict_keyiterator_iter_1 _))
    show wpAny _ _ (ret (.ref it)) _ _ s
    exact wpAny_pure ⟨_, rfl, "dict_keyiterator", _, st.typeIs, F.slot_dict_keyiterator_next.lookup, h⟩
end
/-- the dict is locked -/
def iKeysNx (td : TE) : TI := fun σ H R => td σ H fun x H1 => ∃ d o wo xs, x = .ref d ∧ H1 d = some (.frz o (SL.DkN wo d xs)) ∧ R (ItN wo d o xs) H1
theorem pi_keysNA {X : Cx} {tg e : Expr} {td : TE} (he : PE X e td) : PI X tg e (iKeysNx td) := by
  refine ⟨fun pins s σ H R I h => ?_⟩
  refine thn (he.run pins s σ H _ I h) fun u s1 ⟨x, H1, I1, rx, d, o, wo, xs, ex, hd, q⟩ => ?_
  subst ex
  obtain rfl : u = Value.ref d := rx
  obtain ⟨hs, hgd, hx, es, ep, hdt, hsz, ent⟩ := I1.frzN hd
  refine iter_keys hs hgd hx hdt (pi_one (tk := s1.toks) I1 _ (turn_keysN _ hdt) ⟨_, Heap.get?_push_size _ rfl, rfl, ?_⟩ q)
  rw [hsz] <;> rfl
end L2
namespace SL
open PySem PySem.Spec PyProof.Rows L2
/-- the cell n's dict is let go -/
def unlkN (n : Nat) (st : Sto) : Option Sto := match st[n]? with
  | some (.nct true wo ks ws) => some (st.set n (.nct false wo ks ws))
  | _ => none
def unlNS (n : Nat) : SOut → SOut
  | .nx fr st => (match unlkN n st with
    | some st2 => .nx fr st2
    | none => .bad)
  | .bk fr st => (match unlkN n st with
    | some st2 => .bk fr st2
    | none => .bad)
  | .ct fr st => (match unlkN n st with
    | some st2 => .ct fr st2
    | none => .bad)
  | .rt w st => (match unlkN n st with
    | some st2 => .rt w st2
    | none => .bad)
  | _ => .bad
def unlNE (n : Nat) : Out W → Out W
  | .ok w st => (match unlkN n st with
    | some st2 => .ok w st2
    | none => .bad)
  | _ => .bad
/-- while s runs the dict in slot i is locked; one that is locked already stays so -/
def sLockN (i : Nat) (s : SSem) : SSem := fun fr st => match fr[i]? with
  | some (some (.cell n)) => (match st[n]? with
    | some (.nct false wo ks ws) => unlNS n (s fr (st.set n (.nct true wo ks ws)))
    | some (.nct true _ _ _) => s fr st
    | _ => .bad)
  | _ => .bad
def eLockN (i : Nat) (e : Sem) : Sem := fun fr st => match fr[i]? with
  | some (some (.cell n)) => (match st[n]? with
    | some (.nct false wo ks ws) => unlNE n (e fr (st.set n (.nct true wo ks ws)))
    | some (.nct true _ _ _) => e fr st
    | _ => .bad)
  | _ => .bad
/-- the keys of the locked dict in slot i -/
def iKeysN (i : Nat) : SemI := fun fr st => match fr[i]? with
  | some (some (.cell n)) => (match st[n]? with
    | some (.nct true _ ks _) => if ks.length ≤ LINE then .ok (.non, ks) st else .bad
    | _ => .bad)
  | _ => .bad
section
variable {K : PySem.W.Frag} {mg : Str → Option Value} {Wx : Wish} {μ hid : List Addr} {st : Sto} {fr : Fr} {σ : L2.St} {H : Hp}
/-- the state as it is locked -/
theorem SI.lockX9 (S : SI K mg Wx μ st hid fr σ H) {i n : Nat} {wo : World} {ks ws : List W} (hf : fr[i]? = some (some (.cell n))) (hn : st[n]? = some (.nct false wo ks ws)) :
    ∃ (d : Addr) (xs : List NEnt), μ[n]? = some d ∧ d ∉ hid ∧ H d = some (DkN wo d xs) ∧ ∀ od, SI K mg Wx μ (st.set n (.nct true wo ks ws)) hid fr σ (upd H d (.frz od (DkN wo d xs))) ∧ Fz μ (st.set n (.nct true wo ks ws)) hid (upd H d (.frz od (DkN wo d xs))) = Fz μ st hid H := by
  obtain ⟨v, hv, r⟩ := S.loc i _ hf
  obtain ⟨d, rfl, h1, xs, g3, kn, rr⟩ := S.sto.cell hn r
  have g3' : H d = some (DkN wo d xs) := g3
  refine ⟨d, xs, h1, S.sto.hidn n d _ h1 hn rfl, g3', fun od => ?_⟩
  obtain ⟨k2, e, _⟩ := S.sto.setCell0 (c' := .nct true wo ks ws) (o := .frz od (DkN wo d xs)) h1 hn rfl rfl ⟨xs, ⟨od, upd_same⟩, kn, rr⟩
  exact ⟨⟨k2, S.len, fun j w h => by rw [e]; exact S.loc j w h, by rw [e]; exact S.ex⟩, e⟩
/-- .. and let go -/
theorem unlkN_at {n : Nat} {st2 : Sto} {d : Addr} {od : Obj} {u : HO} (k : StOk K mg μ st hid H) (h : unlkN n st = some st2) (hd : μ[n]? = some d) (hH : H d = some (.frz od u)) :
    StOk K mg μ st2 hid (upd H d u) ∧ Fz μ st2 hid (upd H d u) = Fz μ st hid H := by
  unfold unlkN at h
  split at h
  · rename_i wo ks ws hn
    cases h
    obtain ⟨xs, ⟨o, g3⟩, kn, rr⟩ := k.ok n d _ hd hn
    rw [hH] at g3
    cases g3
    obtain ⟨k2, e, _⟩ := k.setCell0 (c' := .nct false wo ks ws) (o := DkN wo d xs) hd hn rfl rfl ⟨xs, upd_same, kn, rr⟩
    exact ⟨k2, e⟩
  · cases h
theorem SI.freeN {μ2 : List Addr} {st2 st3 : Sto} {fr2 : Fr} {σ2 : L2.St} {H2 : Hp} {n : Nat} {d : Addr} {od : Obj} {u : HO} (S2 : SI K mg Wx μ2 st2 hid fr2 σ2 H2) (h : unlkN n st2 = some st3) (hd : μ2[n]? = some d) (hH : H2 d = some (.frz od u)) : SI K mg Wx μ2 st3 hid fr2 σ2 (upd H2 d u) := by
  obtain ⟨k3, e⟩ := unlkN_at S2.sto h hd hH
  exact ⟨k3, S2.len, fun j w h => by rw [e]; exact S2.loc j w h, by rw [e]; exact S2.ex⟩
theorem dkn_nf {wo : World} {d : Addr} {xs : List NEnt} : ∀ o z, DkN wo d xs ≠ .frz o z := fun o z q => by unfold DkN at q; cases q
end
section
variable {X : Cx} {Wx : Wish}
theorem sv_lockN {i : Nat} {st : Stmt} {s : SSem} (h : SV X Wx st s) : SV X Wx st (sLockN i s) := PSm (PSor (ps_lock h) h) fun D σ H ⟨μ, st, hid, fr, S, P⟩ => by
  unfold sLockN at P
  split at P
  · rename_i n hf
    split at P
    · rename_i wo ks ws hn
      obtain ⟨d, xs, h1, h2, h4, h5⟩ := S.lockX9 hf hn
      refine .inl ⟨d, _, h4, True.intro, fun od => ?_⟩
      obtain ⟨S1, e1⟩ := h5 od
      refine ⟨μ, _, hid, fr, S1, ?_⟩
      have at2 : ∀ {μ2 : List Addr} {st2 : Sto} {H2 : Hp}, Grow hid μ (st.set n (.nct true wo ks ws)) (upd H d (.frz od (DkN wo d xs))) μ2 st2 H2 → μ2[n]? = some d ∧ H2 d = some (.frz od (DkN wo d xs)) := fun g => ⟨g.pre.get h1, g.lck _ _ _ upd_same⟩
      cases e : s fr (st.set n (.nct true wo ks ws)) with
      | bad => rw [e] at P; exact P
      | er x f s => rw [e] at P; exact False.elim P
      | nx f2 st2 =>
        rw [e] at P
        intro μ2 σ2 H2 S2 g
        obtain ⟨a1, a2⟩ := at2 g
        refine ⟨a2, ?_⟩
        cases eu : unlkN n st2 with
        | none => simp only [unlNS, eu] at P; exact False.elim P
        | some st3 =>
          simp only [unlNS, eu] at P
          exact P μ2 σ2 _ (S2.freeN eu a1 a2) (grow_lock (n := n) e1 h2 h4 dkn_nf rfl g (unlkN_at S2.sto eu a1 a2).2)
      | bk f2 st2 =>
        rw [e] at P
        intro μ2 σ2 H2 S2 g
        obtain ⟨a1, a2⟩ := at2 g
        refine ⟨a2, ?_⟩
        cases eu : unlkN n st2 with
        | none => simp only [unlNS, eu] at P; exact False.elim P
        | some st3 =>
          simp only [unlNS, eu] at P
          exact P μ2 σ2 _ (S2.freeN eu a1 a2) (grow_lock (n := n) e1 h2 h4 dkn_nf rfl g (unlkN_at S2.sto eu a1 a2).2)
      | ct f2 st2 =>
        rw [e] at P
        intro μ2 σ2 H2 S2 g
        obtain ⟨a1, a2⟩ := at2 g
        refine ⟨a2, ?_⟩
        cases eu : unlkN n st2 with
        | none => simp only [unlNS, eu] at P; exact False.elim P
        | some st3 =>
          simp only [unlNS, eu] at P
          exact P μ2 σ2 _ (S2.freeN eu a1 a2) (grow_lock (n := n) e1 h2 h4 dkn_nf rfl g (unlkN_at S2.sto eu a1 a2).2)
      | rt w st2 =>
        rw [e] at P
        intro μ2 H2 v k2 g r2
        obtain ⟨a1, a2⟩ := at2 g
        refine ⟨a2, ?_⟩
        cases eu : unlkN n st2 with
        | none => simp only [unlNS, eu] at P; exact False.elim P
        | some st3 =>
          simp only [unlNS, eu] at P
          obtain ⟨k3, e3⟩ := unlkN_at k2 eu a1 a2
          exact P μ2 _ v k3 (grow_lock (n := n) e1 h2 h4 dkn_nf rfl g e3) (by rw [e3]; exact r2)
    · exact .inr ⟨μ, st, hid, fr, S, P⟩
    · exact P.elim
  · exact P.elim
theorem ev_lockN {i : Nat} {e : Expr} {f : Sem} (h : EV X Wx e f) : EV X Wx e (eLockN i f) := PEm (PEor (pe_lock h) h) fun σ H Q ⟨μ, st, hid, fr, S, P⟩ => by
  unfold eLockN at P
  split at P
  · rename_i n hf
    split at P
    · rename_i wo ks ws hn
      obtain ⟨d, xs, h1, h2, h4, h5⟩ := S.lockX9 hf hn
      refine .inl ⟨d, _, h4, True.intro, fun od => ?_⟩
      obtain ⟨S1, e1⟩ := h5 od
      refine ⟨μ, _, hid, fr, S1, ?_⟩
      cases e : f fr (st.set n (.nct true wo ks ws)) with
      | bad => rw [e] at P; exact P
      | err x s => rw [e] at P; exact P.elim
      | ok w st2 =>
        rw [e] at P
        intro μ2 H2 v k2 g r2
        have a1 := g.pre.get h1
        have a2 := g.lck _ _ _ (upd_same (H := H) (a := d) (o := .frz od (DkN wo d xs)))
        refine ⟨a2, ?_⟩
        cases eu : unlkN n st2 with
        | none => simp only [unlNE, eu] at P; exact False.elim P
        | some st3 =>
          simp only [unlNE, eu] at P
          obtain ⟨k3, e3⟩ := unlkN_at k2 eu a1 a2
          exact P μ2 _ v k3 (grow_lock (n := n) e1 h2 h4 dkn_nf rfl g e3) (by rw [e3]; exact r2)
    · exact .inr ⟨μ, st, hid, fr, S, P⟩
    · exact P.elim
  · exact P.elim
/-- an iterator over the keys, of whatever world -/
theorem iv_keysN {i : Nat} {x : Str} {tg : Expr} {pos : Pos} (he : EV X Wx (.Name x pos) (eVar i)) : IV X Wx tg (.Name x pos) (iKeysN i) := PIm (pi_keysNA he) fun σ H R ⟨μ, st, hid, fr, S, P⟩ => by
  unfold iKeysN at P
  split at P
  · rename_i n hf
    split at P
    · rename_i wo ks ws hn
      split at P
      · rename_i hl
        refine ⟨μ, st, hid, fr, S, ?_⟩
        have ev : eVar i fr st = .ok (.cell n) st := by unfold eVar; rw [hf]
        rw [ev]
        intro μ1 H1 v k1 g1 r1
        obtain ⟨d, rfl, h1, xs, ⟨o, c3⟩, kn, rr⟩ := k1.cell hn r1
        have hz := kn.1
        refine ⟨d, o, wo, xs, rfl, c3, P μ1 H1 _ k1 g1 ?_⟩
        exact {
          len := le_line hl
          go := fun hid μ st H j k l p q s hj => ⟨q _ _ _ c3, by rw [← hz]; exact hj⟩
          yld := fun hid μ st H j v H' k l p q s hj y => by
            obtain ⟨rfl, e, e1, rfl⟩ := y
            refine ⟨k, .refl, ks[j], List.getElem?_eq_getElem hj, ?_⟩
            exact Rep.mono l p _ _ (kn.2 j ks[j] e (List.getElem?_eq_getElem hj) e1).2
          stop := fun hid μ st H j k l p q s hj => ⟨q _ _ _ c3, by rw [← hz]; exact hj⟩ }
      · exact P.elim
    · exact P.elim
  · exact P.elim
end
end SL

namespace L2
open PySem PySem.Spec PyProof.Rows
/-! # isinstance(x, C) where x may be a dict with keys of several kinds -/
def rIsiN (K : PySem.W.Frag) : List V → Hp → VK → Prop := fun xs H Q => ∃ (d : Addr) (wo : World) (ks : List SL.NEnt) (n : String) (b : Bool), xs = [.ref d, .ty n] ∧ Rd H d (SL.DkN wo d ks) ∧ PySem.W.kitOne K (.type "dict") (.type n) = some b ∧ Q (.bl b) H
theorem call_isiN {X : Cx} : CallR X (.builtin "isinstance") (rIsiN X.K) := by
  intro pins s σ H xs us Q I r h
  obtain ⟨d, wo, ks, n, b, rfl, rd, e, q⟩ := h
  obtain ⟨u1, u2, rfl, r1, r2⟩ := vals2 r
  cases (show u1 = Value.ref d from r1)
  have e2 : u2 = Value.type n := r2
  subst e2
  obtain ⟨⟨_, _, _, _, o, _, _, h1, h2, _⟩, _⟩ := rd.ok I.hok
  exact PySem.W.kia_one PySem.W.kitx_dict I.kIn ⟨o, h1, h2.1⟩ e (fun z => nomatch z) fun tk => ⟨.bl b, H, I.tok tk, rfl, q⟩
end L2
namespace SL
open PySem PySem.Spec PyProof.Rows L2
def rIsiAN (K : PySem.W.Frag) : List V → Hp → VK → Prop := fun vs H Q => rIsiAll K vs H Q ∨ rIsiN K vs H Q
/-- isinstance of data, and of a dict with keys of several kinds -/
def oIsiN : OpN := fun ws st => match ws with
  | [.cell k, .ty n] => (match st[k]? with
    | some (.nct _ _ _ _) => if tyN n = true then .ok (.bl (subT "dict" n)) st else .bad
    | _ => oIsi [.cell k, .ty n] st)
  | _ => oIsi ws st
section
variable {X : Cx}
theorem cr_isiN : CallR X (.builtin "isinstance") (rIsiAN X.K) := cr_isi.or call_isiN
theorem os_isiN : OpNS X oIsiN (rIsiAN X.K) := by
  intro Wx hid μ st σ H Q ws vs k r P
  unfold oIsiN at P
  split at P
  · rename_i j n
    split at P
    · rename_i l wo ks ws' e
      split at P
      · rename_i hn
        obtain ⟨v, z, rfl, r1, r2⟩ := reps2 r
        obtain ⟨a, rfl, _, xs, dd, _, _⟩ := k.cell e r1
        rw [rep_ty_inv r2]
        have rd : Rd H a (DkN wo a xs) := by
          cases l with
          | true => obtain ⟨o, q⟩ := dd; exact .inr ⟨o, q⟩
          | false => exact .inl dd
        exact .inr ⟨a, wo, xs, n, _, rfl, rd, kit_sub (by decide) hn, P μ H _ k .refl rep_bl⟩
      · exact P.elim
    · exact .inl (os_isi _ hid μ st σ H Q _ vs k r P)
  · exact .inl (os_isi _ hid μ st σ H Q _ vs k r P)
@[simp] theorem isiN_data {x : W} {n : String} {st : Sto} (h : ∀ k, x ≠ .cell k) : oIsiN [x, .ty n] st = oIsi [x, .ty n] st := by
  cases x <;> first | rfl | exact absurd rfl (h _)
theorem isiN_nct {k : Nat} {l : Bool} {wo : World} {ks vs : List W} {st : Sto} (h : st[k]? = some (.nct l wo ks vs)) : oIsiN [.cell k, .ty "dict"] st = .ok (.bl true) st := by
  show (match st[k]? with
    | some (.nct _ _ _ _) => if tyN "dict" = true then Out.ok (W.bl (subT "dict" "dict")) st else .bad
    | _ => oIsi [.cell k, .ty "dict"] st) = _
  rw [h]; rfl
end
end SL

namespace SL
open PySem PySem.Spec PyProof.Rows L2
def top (i : Nat) : Stmt := PySem.Challenge.pw_surelabels_k37_what_is_no_reader.main.body.getD i (.Pass ⟨0, 0, 0, 0⟩)
def inCls (st : Stmt) (i : Nat) : Stmt := match st with
  | .ClassDef _ _ _ b _ _ _ _ _ _ _ => b.getD i (.Pass ⟨0, 0, 0, 0⟩)
  | _ => .Pass ⟨0, 0, 0, 0⟩
abbrev s_law_bag : Stmt := top 18
abbrev s_law_is_mark : Stmt := top 22
abbrev s_law_whole : Stmt := top 20
abbrev s_law_is_row : Stmt := top 21
abbrev s_law_due : Stmt := top 23
abbrev s_is_mark : Stmt := top 14
abbrev s_is_integer : Stmt := top 5
abbrev s_is_between_cells : Stmt := top 6
abbrev s_is_row : Stmt := top 8
abbrev s_are_marks : Stmt := top 15
abbrev s_is_between_readers : Stmt := top 12
abbrev s_Reader___init__ : Stmt := inCls (top 16) 0
abbrev s_law_made : Stmt := top 24
abbrev s_law_pick : Stmt := top 19
abbrev s_law : Stmt := top 25
abbrev s_init_BadReader : Stmt := inCls (top 3) 0
def tabL (l : List (Str × Str × Bool)) (a b : Str) : Option Bool := (l.find? fun p => decide (p.1 = a) && decide (p.2.1 = b)).map (·.2.2)
theorem tabL_at {l : List (Str × Str × Bool)} {a b : Str} {r : Bool} (h : tabL l a b = some r) : (a, b, r) ∈ l := by
  unfold tabL at h
  obtain ⟨p, hp, rfl⟩ := Option.map_eq_some_iff.mp h
  have z := List.find?_some hp
  rw [Bool.and_eq_true] at z
  obtain ⟨rfl, rfl⟩ := And.intro (of_decide_eq_true z.1) (of_decide_eq_true z.2)
  exact List.mem_of_find?_eq_some hp
def exL : List (Str × Str × Bool) := [("BadReader", "LabelError", true)]
def exT : ExT := tabL exL
def isL : List (Str × Str × Bool) := [("BadReader", "BadReader", true)]
def isT : ExT := tabL isL
/-! ### what the defs say -/
variable [HW]
noncomputable def B_law_bag : SSem := sSeq (sAsg (e2 oIx (e2 oAdd (eSl (eVar 0) (pYes (eVar 1)) (pYes (e2 oAdd (eVar 1) (eC (.int 1))))) (eN oLst (aCons (eC (.int 0)) (aNil)))) (eC (.int 0))) (gNm 2)) (sSeq (sAsg (e2 oAdd (e2 oAdd (e2 oMod (eN oInt (aCons (eVar 2) (aNil))) (eC (.int 2147483549))) (e2 oMul (eC (.int 41)) (eVar 1))) (eC (.int 1))) (gNm 3)) (sSeq (sIf (bOf (e2 oGe (eVar 2) (e2 oPow (eC (.int 10)) (eC (.int 18))))) (sRet (eN oCell (aCons (eVar 2) (aCons (eVar 3) (aCons (eC (.int 0)) (aNil)))))) (sNil)) (sRet (eN oCell (aCons (eC (.int 0)) (aCons (eVar 3) (aCons (eC (.int 0)) (aNil))))))))
noncomputable def F_law_bag : Fn := mkFnC 4 B_law_bag
noncomputable def B_law_is_mark : SSem := sSeq (sIf (bOr (bNot (bOf (eN oIsi (aCons (eVar 0) (aCons (eC (.ty "str")) (aNil)))))) (bOf (e2 oEq (eVar 0) (eC (.str ""))))) (sRet (eC (.bl false))) (sNil)) (sRet (eOr (e2 oIn (eVar 0) (eN oTup (aCons (eC (.str "start")) (aCons (eC (.str "stop")) (aNil))))) (eAnd (e2 oEq (eN oLen (aCons (eVar 0) (aNil))) (eC (.int 1))) (e2 oIn (eVar 0) (eC (.str "0123456789abcdefghijklmnopqrstuvwxyz"))))))
noncomputable def F_law_is_mark : Fn := mkFn 1 B_law_is_mark
noncomputable def B_law_whole : SSem := sRet (eAnd (eN oIsi (aCons (eVar 0) (aCons (eC (.ty "int")) (aNil)))) (eNot (eN oIsi (aCons (eVar 0) (aCons (eC (.ty "bool")) (aNil))))))
noncomputable def F_law_whole : Fn := mkFn 1 B_law_whole
noncomputable def B_law_is_row : SSem := sSeq (sIf (bOr (bNot (bOf (eN oIsi (aCons (eVar 0) (aCons (eC (.ty "tuple")) (aNil)))))) (bOf (e2 oNe (eN oLen (aCons (eVar 0) (aNil))) (eVar 1)))) (sRet (eC (.bl false))) (sNil)) (sRet (e2 oEq (eN oLen (aCons (eLc (iSeq (eVar 0)) (gNm 2) [2] (bOr (bNot (bOf (eCall F_law_whole (aCons (eVar 2) (aNil))))) (bNot (bOf (eChain oLe oLe (eC (.int 0)) (eVar 2) (eC (.int 1)))))) (eVar 2)) (aNil))) (eC (.int 0))))
noncomputable def F_law_is_row : Fn := mkFn 3 B_law_is_row
noncomputable def B_law_due : SSem := sSeq (sIf (bOr (bNot (bOf (eCall F_law_whole (aCons (eVar 0) (aNil))))) (bNot (bOf (eChain oLe oLe (eC (.int 1)) (eVar 0) (eC (.int 6)))))) (sRet (eC (.str "width"))) (sNil)) (sSeq (sIf (bNot (bOf (eN oIsiN (aCons (eVar 1) (aCons (eC (.ty "dict")) (aNil)))))) (sRet (eC (.str "marks"))) (sNil)) (sSeq (sIf (bOf (e2 oGt (eN oLen (aCons (eLockN 1 (eLc (iKeysN 1) (gNm 2) [2] (bOr (bNot (bOf (eCall F_law_is_row (aCons (eVar 2) (aCons (eVar 0) (aNil)))))) (bNot (bOf (eCall F_law_is_mark (aCons (e2 (oNGet HW.w) (eVar 1) (eVar 2)) (aNil)))))) (eVar 2))) (aNil))) (eC (.int 0)))) (sRet (eC (.str "marks"))) (sNil)) (sRet (eC (.str "")))))
noncomputable def F_law_due : Fn := mkFn 3 B_law_due
noncomputable def B_is_mark : SSem := sSeq (sIf (bNot (bOf (eN oIsi (aCons (eVar 0) (aCons (eC (.ty "str")) (aNil)))))) (sRet (eC (.bl false))) (sNil)) (sRet (eOr (e2 oIn (eVar 0) (eN oTup (aCons (eC (.str "start")) (aCons (eC (.str "stop")) (aNil))))) (eAnd (e2 oEq (eN oLen (aCons (eVar 0) (aNil))) (eC (.int 1))) (e2 oIn (eVar 0) (eC (.str "0123456789abcdefghijklmnopqrstuvwxyz"))))))
noncomputable def F_is_mark : Fn := mkFn 1 B_is_mark
noncomputable def B_is_integer : SSem := sRet (eAnd (eN oIsi (aCons (eVar 0) (aCons (eC (.ty "int")) (aNil)))) (eNot (eN oIsi (aCons (eVar 0) (aCons (eC (.ty "bool")) (aNil))))))
noncomputable def F_is_integer : Fn := mkFn 1 B_is_integer
noncomputable def B_is_between_cells : SSem := sRet (eAnd (eCall F_is_integer (aCons (eVar 0) (aNil))) (eChain oLe oLe (eVar 1) (eVar 0) (eVar 2)))
noncomputable def F_is_between_cells : Fn := mkFn 3 B_is_between_cells
noncomputable def B_is_row : SSem := sRet (eAnd (eN oIsi (aCons (eVar 0) (aCons (eC (.ty "tuple")) (aNil)))) (eN oAll (aCons (eLc (iSeq (eVar 0)) (gNm 1) [1] (tTrue) (eCall F_is_between_cells (aCons (eVar 1) (aCons (eC (.int 0)) (aCons (eC (.int 1)) (aNil)))))) (aNil))))
noncomputable def F_is_row : Fn := mkFn 2 B_is_row
noncomputable def B_are_marks : SSem := sSeq (sIf (bNot (bOf (eN oIsiN (aCons (eVar 0) (aCons (eC (.ty "dict")) (aNil)))))) (sRet (eC (.bl false))) (sNil)) (sSeq (sLockN 0 (sFor (iKeysN 0) (gNm 2) (sIf (bOr (bNot (bOf (eCall F_is_row (aCons (eVar 2) (aNil))))) (bOr (bOf (e2 oNe (eN oLen (aCons (eVar 2) (aNil))) (eVar 1))) (bNot (bOf (eCall F_is_mark (aCons (e2 (oNGet HW.w) (eVar 0) (eVar 2)) (aNil))))))) (sRet (eC (.bl false))) (sNil)))) (sRet (eC (.bl true))))
noncomputable def F_are_marks : Fn := mkFn 3 B_are_marks
noncomputable def B_is_between_readers : SSem := sRet (eAnd (eN oIsi (aCons (eVar 0) (aCons (eC (.ty "int")) (aNil)))) (eAnd (eNot (eN oIsi (aCons (eVar 0) (aCons (eC (.ty "bool")) (aNil))))) (eChain oLe oLe (eVar 1) (eVar 0) (eVar 2))))
noncomputable def F_is_between_readers : Fn := mkFn 3 B_is_between_readers
noncomputable def B_Reader___init__ : SSem := sSeq (sIf (bNot (bOf (eCall F_is_between_readers (aCons (eVar 1) (aCons (eC (.int 1)) (aCons (eC (.int 6)) (aNil))))))) (sRaise "BadReader" ["part"] (aCons (eC (.str "width")) (aNil))) (sNil)) (sSeq (sIf (bNot (bOf (eCall F_are_marks (aCons (eVar 2) (aCons (eVar 1) (aNil)))))) (sRaise "BadReader" ["part"] (aCons (eC (.str "marks")) (aNil))) (sNil)) (sSeq (sFldS ["Reader"] "width" (eVar 1) (eVar 0)) (sFldS ["Reader"] "known" (eDcT (iSeq (eN oSortT (aCons (eLockN 2 (eLc (iKeysN 2) (gNm 3) [3] (tTrue) (eVar 3))) (aNil)))) (gNm 3) [3] tTrue (eVar 3) (e2 (oNGet HW.w) (eVar 2) (eVar 3))) (eVar 0))))
noncomputable def F_Reader___init__ : Fn := mkFnI 4 B_Reader___init__
noncomputable def B_law_made : SSem := sSeq (sTry exT (sSeq (sAsg (eFld ["Reader"] "width" (eMake "Reader" F_Reader___init__ (aCons (eVar 0) (aCons (eVar 1) (aNil))))) (gNm 2)) (sAsg (eC (.str "")) (gNm 2))) [⟨"LabelError", some 3, fun x => sSeq (sAsg (eC (.str "other")) (gNm 2)) (sIf (bOf (eIsX isT x "BadReader")) (sAsg (eXf x "BadReader" "part") (gNm 2)) (sNil))⟩]) (sRet (eVar 2))
noncomputable def F_law_made : Fn := mkFn 4 B_law_made
noncomputable def B_law_pick : SSem := sSeq (sIf (bOf (e2 oGt (e2 oIx (eVar 0) (eC (.int 0))) (eC (.int 0)))) (sSeq (sAsg (e2 oMod (eN oInt (aCons (e2 oIx (eVar 0) (eC (.int 0))) (aNil))) (eVar 1)) (gNm 3)) (sSeq (sSub uLst (e2 oDiv (e2 oIx (eVar 0) (eC (.int 0))) (eVar 1)) (eVar 0) (eC (.int 0))) (sRet (eVar 3)))) (sNil)) (sSeq (sSub uLst (e2 oAdd (e2 oIx (eVar 0) (eC (.int 2))) (eC (.int 1))) (eVar 0) (eC (.int 2))) (sSeq (sAsg (e2 oMod (eN oInt (aCons (e2 oMul (e2 oAdd (e2 oIx (eVar 0) (eC (.int 1))) (e2 oMul (eC (.int 32452843)) (e2 oIx (eVar 0) (eC (.int 2))))) (eC (.int 69621))) (aNil))) (eC (.int 2147483647))) (gNm 2)) (sSeq (sAsg (e2 oMod (eN oInt (aCons (e2 oMul (eVar 2) (e2 oAdd (e2 oDiv (eVar 2) (eC (.int 1021))) (eC (.int 48271)))) (aNil))) (eC (.int 2147483647))) (gNm 2)) (sSeq (sAsg (e2 oMod (eN oInt (aCons (e2 oMul (eVar 2) (e2 oAdd (e2 oDiv (eVar 2) (eC (.int 2027))) (eC (.int 40014)))) (aNil))) (eC (.int 2147483563))) (gNm 2)) (sRet (e2 oMod (eN oInt (aCons (e2 oDiv (eVar 2) (eC (.int 64))) (aNil))) (eVar 1)))))))
noncomputable def F_law_pick : Fn := mkFn 4 B_law_pick
noncomputable def B_law : SSem := sSeq (sAsg (eCall F_law_bag (aCons (eVar 0) (aCons (eC (.int 0)) (aNil)))) (gNm 1)) (sSeq (sAsg (e2 oAdd (eC (.int 1)) (eCall F_law_pick (aCons (eVar 1) (aCons (eC (.int 6)) (aNil))))) (gNm 2)) (sSeq (sAsg (eN oLst (aCons (eC (.str "a")) (aCons (eC (.str "z")) (aCons (eC (.str "0")) (aCons (eC (.str "9")) (aCons (eC (.str "start")) (aCons (eC (.str "stop")) (aNil)))))))) (gNm 3)) (sSeq (sAsg (eNDct0 HW.w) (gNm 4)) (sSeq (sFor (iRng rg1 (aCons (eCall F_law_pick (aCons (eVar 1) (aCons (eC (.int 6)) (aNil)))) (aNil))) (gNm 5) (sSeq (sAsg (eN oTuple (aCons (eLc (iRng rg1 (aCons (eVar 2) (aNil))) (gNm 9) [9] (tTrue) (eCall F_law_pick (aCons (eVar 1) (aCons (eC (.int 2)) (aNil))))) (aNil))) (gNm 7)) (sSub (uNct HW.w) (e2 oIx (eVar 3) (eCall F_law_pick (aCons (eVar 1) (aCons (eC (.int 6)) (aNil))))) (eVar 4) (eVar 7)))) (sSeq (sAsg (eCall F_law_pick (aCons (eVar 1) (aCons (eC (.int 5)) (aNil)))) (gNm 6)) (sSeq (sAsg (e2 oMulX (eN oTup (aCons (eC (.int 1)) (aNil))) (eVar 2)) (gNm 7)) (sSeq (sIf (bOf (e2 oEq (eVar 6) (eC (.int 0)))) (sSeq (sAsg (eN oLst (aCons (e2 oAdd (eVar 7) (eN oTup (aCons (eC (.int 0)) (aNil)))) (aCons (eSl (eVar 7) (pYes (eC (.int 1))) (pNo)) (aCons (e2 oAdd (eSl (eVar 7) (pYes (eC (.int 1))) (pNo)) (eN oTup (aCons (eC (.int 2)) (aNil)))) (aCons (e2 oAdd (eSl (eVar 7) (pYes (eC (.int 1))) (pNo)) (eN oTup (aCons (e1 oNeg (eC (.int 1))) (aNil)))) (aCons (e2 oMulS (eC (.str "1")) (eVar 2)) (aCons (eC .non) (aCons (eC (.int 3)) (aCons (e2 oAdd (eSl (eVar 7) (pYes (eC (.int 1))) (pNo)) (eN oTup (aCons (eC (.str "1")) (aNil)))) (aCons (eN oTup (aCons (eVar 7) (aNil))) (aCons (eC (.bl true)) (aNil)))))))))))) (gNm 8)) (sSeq (sAsg (e2 oAdd (eVar 8) (eN oLst (aCons (e2 oAdd (eSl (eVar 7) (pYes (eC (.int 1))) (pNo)) (eN oTup (aCons (eN oTup (aCons (eC (.int 1)) (aNil))) (aNil)))) (aCons (e2 oAdd (eSl (eVar 7) (pYes (eC (.int 1))) (pNo)) (eN oTup (aCons (eC .non) (aNil)))) (aNil))))) (gNm 8)) (sSub (uNct HW.w) (eC (.str "a")) (eVar 4) (e2 oIx (eVar 8) (eCall F_law_pick (aCons (eVar 1) (aCons (eC (.int 12)) (aNil)))))))) (sNil)) (sSeq (sIf (bOf (e2 oEq (eVar 6) (eC (.int 1)))) (sSub (uNct HW.w) (e2 oIx (eN oLst (aCons (eC (.str "")) (aCons (eC (.str "A")) (aCons (eC (.str "ab")) (aCons (eC .non) (aCons (eC (.int 0)) (aCons (eN oTup (aCons (eC (.str "a")) (aNil))) (aCons (eC (.str "Start")) (aCons (eC (.str " ")) (aCons (eC (.str "-")) (aCons (eC (.bl true)) (aCons (eN oLst (aCons (eC (.str "a")) (aNil))) (aCons (eN oTup (aCons (eN oLst (aCons (eC (.int 0)) (aNil))) (aNil))) (aCons (eC (.dct [] [])) (aCons (eN oLst (aCons (eN oLst (aCons (eN oLst (aNil)) (aNil))) (aNil))) (aNil)))))))))))))))) (eCall F_law_pick (aCons (eVar 1) (aCons (eC (.int 14)) (aNil))))) (eVar 4) (eVar 7)) (sNil)) (sSeq (sIf (bOf (e2 oEq (eVar 6) (eC (.int 2)))) (sAsg (e2 oIx (eN oLst (aCons (eC .non) (aCons (eN oLst (aNil)) (aCons (eN oTup (aNil)) (aCons (eC (.str "marks")) (aCons (eN oLst (aCons (eN oTup (aCons (eVar 7) (aCons (eC (.str "a")) (aNil)))) (aNil))) (aCons (eC (.int 7)) (aNil)))))))) (eCall F_law_pick (aCons (eVar 1) (aCons (eC (.int 6)) (aNil))))) (gNm 4)) (sNil)) (sSeq (sIf (bOf (e2 oEq (eCall F_law_pick (aCons (eVar 1) (aCons (eC (.int 3)) (aNil)))) (eC (.int 0)))) (sAsg (e2 oIx (eN oLst (aCons (eC (.int 0)) (aCons (eC (.int 7)) (aCons (eC (.bl true)) (aCons (eC .non) (aCons (eC (.str "2")) (aCons (eN oLst (aCons (eC (.int 2)) (aNil))) (aCons (e2 oPow (eC (.int 10)) (eC (.int 20))) (aCons (e1 oNeg (eC (.int 1))) (aCons (eVar 2) (aCons (eN oTup (aCons (eN oLst (aNil)) (aNil))) (aCons (eC (.dct [] [])) (aNil))))))))))))) (eCall F_law_pick (aCons (eVar 1) (aCons (eC (.int 11)) (aNil))))) (gNm 2)) (sNil)) (sRet (eAnd (e2 oEq (eCall F_law_made (aCons (eVar 2) (aCons (eVar 4) (aNil)))) (eCall F_law_due (aCons (eVar 2) (aCons (eVar 4) (aNil))))) (e2 oEq (eCall F_law_made (aCons (eC (.int 3)) (aCons (eNDct0 HW.w) (aNil)))) (eC (.str "")))))))))))))))
noncomputable def F_law : Fn := mkFn 10 B_law
structure Txt (P : Program) (K : PySem.W.Frag) (mg : Str → Option Value) (base : Heap) (C_BadReader : Addr) (C_LabelError : Addr) (C_Reader : Addr) : Prop where
  n_all : mg "all" = none
  n_bool : mg "bool" = none
  n_dict : mg "dict" = none
  n_int : mg "int" = none
  n_isinstance : mg "isinstance" = none
  n_len : mg "len" = none
  n_range : mg "range" = none
  n_sorted : mg "sorted" = none
  n_str : mg "str" = none
  n_tuple : mg "tuple" = none
  c_SIGNS : ∃ t, mg "SIGNS" = some (.str "0123456789abcdefghijklmnopqrstuvwxyz" t)
  c_WIDEST : ∃ t, mg "WIDEST" = some (.int 6 t)
  g_BadReader : mg "BadReader" = some (.ref C_BadReader)
  g_LabelError : mg "LabelError" = some (.ref C_LabelError)
  g_Reader : mg "Reader" = some (.ref C_Reader)
  k_Reader : ClsC K C_Reader
  nf_Reader_known : PySem.W.findIn K (.ref C_Reader) "known" = some none
  nf_Reader_width : PySem.W.findIn K (.ref C_Reader) "width" = some none
  E_BadReader : Exc1 P HW.w K mg base "BadReader" "part"
  xf_BadReader : XfC K C_BadReader
  xn_BadReader_part : PySem.W.findIn K (.ref C_BadReader) "part" = some none
  ext : ExTOk K mg exT
  ixt : IxOk K mg isT
section
variable {P : Program} {K : PySem.W.Frag} {mg : Str → Option Value} {base : Heap} {C_BadReader C_LabelError C_Reader : Addr}
theorem sc_law_bag : FnScope ["_law_script", "_law_spot", "_law_number", "_law_low"] ["_law_script", "_law_spot"] (defScope s_law_bag) := ⟨rfl, rfl, rfl, by decide +kernel, rfl, by decide +kernel, by decide +kernel⟩
theorem hb_law_bag (T : Txt P K mg base C_BadReader C_LabelError C_Reader) {qual : Str} {f : Addr} {cdv : Value} {A : Around} {outer : List Env} {s : Shared} {H : Hp} {E : XK} (C : Ctx (cxOf (L2.CX P HW.w) P HW.w K mg base ["_law_script", "_law_spot", "_law_number", "_law_low"] qual (defScope s_law_bag) f cdv A outer s H E) (Wish.of fun c d _ H => E c d H) 0) :
    BV (cxOf (L2.CX P HW.w) P HW.w K mg base ["_law_script", "_law_spot", "_law_number", "_law_low"] qual (defScope s_law_bag) f cdv A outer s H E) (Wish.of fun c d _ H => E c d H) (defBody s_law_bag) B_law_bag :=
  bv_cons (sv_set (i := 2) C.nd (ev_ix ix_seq os_ix (ev_op or_add os_add (ev_sl (ev_var (i := 0)) (ov_yes (ev_var (i := 1))) (ov_yes (ev_op or_add os_add (ev_var (i := 1)) (ev_int)))) (ev_lst (av_cons (ev_int) (av_nil)))) (ev_int) (fun _ _ => rfl))) (bv_cons (sv_set (i := 3) C.nd (ev_op or_add os_add (ev_op or_add os_add (ev_op op_mod os_mod (ev_callTy call_int1 os_int T.n_int (av_cons (ev_var (i := 2)) (av_nil))) (ev_int)) (ev_op or_mul os_mul (ev_int) (ev_var (i := 1)))) (ev_int))) (bv_cons (sv_if (tv_cmp op_ge os_ge (ev_var (i := 2)) (ev_op op_pow os_pow (ev_int) (ev_int)) (nomark _)) (bv_one (sv_ret (ev_lstC (av_cons (ev_var (i := 2)) (av_cons (ev_var (i := 3)) (av_cons (ev_int) (av_nil))))))) (bv_nil)) (bv_one (sv_ret (ev_lstC (av_cons (ev_int) (av_cons (ev_var (i := 3)) (av_cons (ev_int) (av_nil)))))))))
theorem I_law_bag (T : Txt P K mg base C_BadReader C_LabelError C_Reader) {qual : Str} {f : Addr} {fd : FuncData} (F : Fun K "_law_bag" qual s_law_bag f fd) (hx : mg "_law_bag" = some (.ref f)) (hB : Binds K fd ["_law_script", "_law_spot"] []) : FnIs P HW.w K mg base "_law_bag" 1 2 F_law_bag := fn_is lv_leaveC F hx hB sc_law_bag fun _ _ _ _ _ _ C => hb_law_bag T C
theorem sc_law_is_mark : FnScope ["_law_value"] ["_law_value"] (defScope s_law_is_mark) := ⟨rfl, rfl, rfl, by decide +kernel, rfl, by decide +kernel, by decide +kernel⟩
theorem hb_law_is_mark (T : Txt P K mg base C_BadReader C_LabelError C_Reader) {qual : Str} {f : Addr} {cdv : Value} {A : Around} {outer : List Env} {s : Shared} {H : Hp} {E : XK} (C : Ctx (cxOf (L2.CX P HW.w) P HW.w K mg base ["_law_value"] qual (defScope s_law_is_mark) f cdv A outer s H E) (Wish.of fun c d _ H => E c d H) 0) :
    BV (cxOf (L2.CX P HW.w) P HW.w K mg base ["_law_value"] qual (defScope s_law_is_mark) f cdv A outer s H E) (Wish.of fun c d _ H => E c d H) (defBody s_law_is_mark) B_law_is_mark :=
  bv_cons (sv_if (tv_w (wv_or (tv_not (tv_val (ev_callB cr_isi os_isi T.n_isinstance (av_cons (ev_var (i := 0)) (av_cons (ev_ty T.n_str) (av_nil)))))) (wv_or1 (tv_cmp (op_eqD C.room.units) os_eq (ev_var (i := 0)) (ev_str) (nomark _))))) (bv_one (sv_ret (ev_bl))) (bv_nil)) (bv_one (sv_ret (ev_or (ev_cmp (or_in (rm65 C.room)) os_in (ev_var (i := 0)) (ev_tup (av_cons (ev_str) (av_cons (ev_str) (av_nil)))) (by rfl)) (ev_one (ev_and (ev_cmp (op_eqD C.room.units) os_eq (ev_callB cr_len os_len T.n_len (av_cons (ev_var (i := 0)) (av_nil))) (ev_int) (nomark _)) (ev_one (ev_cmp (or_in (rm65 C.room)) os_in (ev_var (i := 0)) (ev_str) (by rfl))))))))
theorem I_law_is_mark (T : Txt P K mg base C_BadReader C_LabelError C_Reader) {qual : Str} {f : Addr} {fd : FuncData} (F : Fun K "_law_is_mark" qual s_law_is_mark f fd) (hx : mg "_law_is_mark" = some (.ref f)) (hB : Binds K fd ["_law_value"] []) : FnIs P HW.w K mg base "_law_is_mark" 1 1 F_law_is_mark := fn_is lv_leave F hx hB sc_law_is_mark fun _ _ _ _ _ _ C => hb_law_is_mark T C
theorem sc_law_whole : FnScope ["_law_value"] ["_law_value"] (defScope s_law_whole) := ⟨rfl, rfl, rfl, by decide +kernel, rfl, by decide +kernel, by decide +kernel⟩
theorem hb_law_whole (T : Txt P K mg base C_BadReader C_LabelError C_Reader) {qual : Str} {f : Addr} {cdv : Value} {A : Around} {outer : List Env} {s : Shared} {H : Hp} {E : XK} (C : Ctx (cxOf (L2.CX P HW.w) P HW.w K mg base ["_law_value"] qual (defScope s_law_whole) f cdv A outer s H E) (Wish.of fun c d _ H => E c d H) 0) :
    BV (cxOf (L2.CX P HW.w) P HW.w K mg base ["_law_value"] qual (defScope s_law_whole) f cdv A outer s H E) (Wish.of fun c d _ H => E c d H) (defBody s_law_whole) B_law_whole :=
  bv_one (sv_ret (ev_and (ev_callB cr_isi os_isi T.n_isinstance (av_cons (ev_var (i := 0)) (av_cons (ev_ty T.n_int) (av_nil)))) (ev_one (ev_not (ev_callB cr_isi os_isi T.n_isinstance (av_cons (ev_var (i := 0)) (av_cons (ev_ty T.n_bool) (av_nil))))))))
theorem I_law_whole (T : Txt P K mg base C_BadReader C_LabelError C_Reader) {qual : Str} {f : Addr} {fd : FuncData} (F : Fun K "_law_whole" qual s_law_whole f fd) (hx : mg "_law_whole" = some (.ref f)) (hB : Binds K fd ["_law_value"] []) : FnIs P HW.w K mg base "_law_whole" 1 1 F_law_whole := fn_is lv_leave F hx hB sc_law_whole fun _ _ _ _ _ _ C => hb_law_whole T C
theorem sc_law_is_row : FnScope ["_law_value", "_law_width", "_law_cell"] ["_law_value", "_law_width"] (defScope s_law_is_row) := ⟨rfl, rfl, rfl, by decide +kernel, rfl, by decide +kernel, by decide +kernel⟩
theorem hb_law_is_row (T : Txt P K mg base C_BadReader C_LabelError C_Reader) (I_law_whole : FnIs P HW.w K mg base "_law_whole" 1 1 F_law_whole) {qual : Str} {f : Addr} {cdv : Value} {A : Around} {outer : List Env} {s : Shared} {H : Hp} {E : XK} (C : Ctx (cxOf (L2.CX P HW.w) P HW.w K mg base ["_law_value", "_law_width", "_law_cell"] qual (defScope s_law_is_row) f cdv A outer s H E) (Wish.of fun c d _ H => E c d H) 1) :
    BV (cxOf (L2.CX P HW.w) P HW.w K mg base ["_law_value", "_law_width", "_law_cell"] qual (defScope s_law_is_row) f cdv A outer s H E) (Wish.of fun c d _ H => E c d H) (defBody s_law_is_row) B_law_is_row :=
  bv_cons (sv_if (tv_w (wv_or (tv_not (tv_val (ev_callB cr_isi os_isi T.n_isinstance (av_cons (ev_var (i := 0)) (av_cons (ev_ty T.n_tuple) (av_nil)))))) (wv_or1 (tv_cmp (op_neD C.room.units) os_ne (ev_callB cr_len os_len T.n_len (av_cons (ev_var (i := 0)) (av_nil))) (ev_var (i := 1)) (nomark _))))) (bv_one (sv_ret (ev_bl))) (bv_nil)) (bv_one (sv_ret (ev_cmp (op_eqD C.room.units) os_eq (ev_callB cr_len os_len T.n_len (av_cons (ev_lcG fin_lst (own := [("_law_cell", 2)]) C.calm C.nd (iv_seq (ev_var (i := 0))) (by show blkC ["_law_value", "_law_width", "_law_cell"] (defScope s_law_is_row) _ _ = true; decide +kernel) (by decide) (fun _ h => nomatch h) (fun _ _ _ _ _ => gv_nm (i := 2) C.nd) (fun _ _ _ _ _ => pt_blk C (fun C => tv_ifs1 (tv_w (wv_or (tv_not (tv_val (ev_callI I_law_whole C (by decide) (av_cons (ev_var (i := 2)) (av_nil)) (arN_cons (arN_nil))))) (wv_or1 (tv_not (tv_chain op_le op_le os_le os_le (ev_int) (ev_var (i := 2)) (ev_int)))))))) (fun s H C1 cl fp => ev_blk C (fun C => ev_var (i := 2)))) (av_nil))) (ev_int) (nomark _))))
theorem I_law_is_row (T : Txt P K mg base C_BadReader C_LabelError C_Reader) (I_law_whole : FnIs P HW.w K mg base "_law_whole" 1 1 F_law_whole) {qual : Str} {f : Addr} {fd : FuncData} (F : Fun K "_law_is_row" qual s_law_is_row f fd) (hx : mg "_law_is_row" = some (.ref f)) (hB : Binds K fd ["_law_value", "_law_width"] []) : FnIs P HW.w K mg base "_law_is_row" 2 2 F_law_is_row := fn_is lv_leave F hx hB sc_law_is_row fun _ _ _ _ _ _ C => hb_law_is_row T I_law_whole C
theorem sc_law_due : FnScope ["_law_width", "_law_marks", "_law_row"] ["_law_width", "_law_marks"] (defScope s_law_due) := ⟨rfl, rfl, rfl, by decide +kernel, rfl, by decide +kernel, by decide +kernel⟩
theorem hb_law_due (T : Txt P K mg base C_BadReader C_LabelError C_Reader) (I_law_is_mark : FnIs P HW.w K mg base "_law_is_mark" 1 1 F_law_is_mark) (I_law_is_row : FnIs P HW.w K mg base "_law_is_row" 2 2 F_law_is_row) (I_law_whole : FnIs P HW.w K mg base "_law_whole" 1 1 F_law_whole) {qual : Str} {f : Addr} {cdv : Value} {A : Around} {outer : List Env} {s : Shared} {H : Hp} {E : XK} (C : Ctx (cxOf (L2.CX P HW.w) P HW.w K mg base ["_law_width", "_law_marks", "_law_row"] qual (defScope s_law_due) f cdv A outer s H E) (Wish.of fun c d _ H => E c d H) 2) :
    BV (cxOf (L2.CX P HW.w) P HW.w K mg base ["_law_width", "_law_marks", "_law_row"] qual (defScope s_law_due) f cdv A outer s H E) (Wish.of fun c d _ H => E c d H) (defBody s_law_due) B_law_due :=
  bv_cons (sv_if (tv_w (wv_or (tv_not (tv_val (ev_callI I_law_whole C (by decide) (av_cons (ev_var (i := 0)) (av_nil)) (arN_cons (arN_nil))))) (wv_or1 (tv_not (tv_chain op_le op_le os_le os_le (ev_int) (ev_var (i := 0)) (ev_int)))))) (bv_one (sv_ret (ev_str))) (bv_nil)) (bv_cons (sv_if (tv_not (tv_val (ev_callB cr_isiN os_isiN T.n_isinstance (av_cons (ev_var (i := 1)) (av_cons (ev_ty T.n_dict) (av_nil)))))) (bv_one (sv_ret (ev_str))) (bv_nil)) (bv_cons (sv_if (tv_cmp op_gt os_gt (ev_callB cr_len os_len T.n_len (av_cons (ev_lockN (ev_lcG fin_lst (own := [("_law_row", 2)]) C.calm C.nd (iv_keysN (ev_var (i := 1))) (by show blkC ["_law_width", "_law_marks", "_law_row"] (defScope s_law_due) _ _ = true; decide +kernel) (by decide) (fun _ h => nomatch h) (fun _ _ _ _ _ => gv_nm (i := 2) C.nd) (fun _ _ _ _ _ => pt_blk C (fun C => tv_ifs1 (tv_w (wv_or (tv_not (tv_val (ev_callI I_law_is_row C (by decide) (av_cons (ev_var (i := 2)) (av_cons (ev_var (i := 0)) (av_nil))) (arN_cons (arN_cons (arN_nil)))))) (wv_or1 (tv_not (tv_val (ev_callI I_law_is_mark C (by decide) (av_cons (ev_nget rfl C (ev_var (i := 1)) (ev_var (i := 2))) (av_nil)) (arN_cons (arN_nil)))))))))) (fun s H C1 cl fp => ev_blk C (fun C => ev_var (i := 2))))) (av_nil))) (ev_int) (nomark _)) (bv_one (sv_ret (ev_str))) (bv_nil)) (bv_one (sv_ret (ev_str)))))
theorem I_law_due (T : Txt P K mg base C_BadReader C_LabelError C_Reader) (I_law_is_mark : FnIs P HW.w K mg base "_law_is_mark" 1 1 F_law_is_mark) (I_law_is_row : FnIs P HW.w K mg base "_law_is_row" 2 2 F_law_is_row) (I_law_whole : FnIs P HW.w K mg base "_law_whole" 1 1 F_law_whole) {qual : Str} {f : Addr} {fd : FuncData} (F : Fun K "_law_due" qual s_law_due f fd) (hx : mg "_law_due" = some (.ref f)) (hB : Binds K fd ["_law_width", "_law_marks"] []) : FnIs P HW.w K mg base "_law_due" 3 2 F_law_due := fn_is lv_leave F hx hB sc_law_due fun _ _ _ _ _ _ C => hb_law_due T I_law_is_mark I_law_is_row I_law_whole C
theorem sc_is_mark : FnScope ["value"] ["value"] (defScope s_is_mark) := ⟨rfl, rfl, rfl, by decide +kernel, rfl, by decide +kernel, by decide +kernel⟩
theorem hb_is_mark (T : Txt P K mg base C_BadReader C_LabelError C_Reader) {qual : Str} {f : Addr} {cdv : Value} {A : Around} {outer : List Env} {s : Shared} {H : Hp} {E : XK} (C : Ctx (cxOf (L2.CX P HW.w) P HW.w K mg base ["value"] qual (defScope s_is_mark) f cdv A outer s H E) (Wish.of fun c d _ H => E c d H) 0) :
    BV (cxOf (L2.CX P HW.w) P HW.w K mg base ["value"] qual (defScope s_is_mark) f cdv A outer s H E) (Wish.of fun c d _ H => E c d H) (defBody s_is_mark) B_is_mark :=
  bv_cons (sv_if (tv_not (tv_val (ev_callB cr_isi os_isi T.n_isinstance (av_cons (ev_var (i := 0)) (av_cons (ev_ty T.n_str) (av_nil)))))) (bv_one (sv_ret (ev_bl))) (bv_nil)) (bv_one (sv_ret (ev_or (ev_cmp (or_in (rm65 C.room)) os_in (ev_var (i := 0)) (ev_tup (av_cons (ev_str) (av_cons (ev_str) (av_nil)))) (by rfl)) (ev_one (ev_and (ev_cmp (op_eqD C.room.units) os_eq (ev_callB cr_len os_len T.n_len (av_cons (ev_var (i := 0)) (av_nil))) (ev_int) (nomark _)) (ev_one (ev_cmp (or_in (rm65 C.room)) os_in (ev_var (i := 0)) (ev_gS T.c_SIGNS) (by rfl))))))))
theorem I_is_mark (T : Txt P K mg base C_BadReader C_LabelError C_Reader) {qual : Str} {f : Addr} {fd : FuncData} (F : Fun K "is_mark" qual s_is_mark f fd) (hx : mg "is_mark" = some (.ref f)) (hB : Binds K fd ["value"] []) : FnIs P HW.w K mg base "is_mark" 1 1 F_is_mark := fn_is lv_leave F hx hB sc_is_mark fun _ _ _ _ _ _ C => hb_is_mark T C
theorem sc_is_integer : FnScope ["value"] ["value"] (defScope s_is_integer) := ⟨rfl, rfl, rfl, by decide +kernel, rfl, by decide +kernel, by decide +kernel⟩
theorem hb_is_integer (T : Txt P K mg base C_BadReader C_LabelError C_Reader) {qual : Str} {f : Addr} {cdv : Value} {A : Around} {outer : List Env} {s : Shared} {H : Hp} {E : XK} (C : Ctx (cxOf (L2.CX P HW.w) P HW.w K mg base ["value"] qual (defScope s_is_integer) f cdv A outer s H E) (Wish.of fun c d _ H => E c d H) 0) :
    BV (cxOf (L2.CX P HW.w) P HW.w K mg base ["value"] qual (defScope s_is_integer) f cdv A outer s H E) (Wish.of fun c d _ H => E c d H) (defBody s_is_integer) B_is_integer :=
  bv_one (sv_ret (ev_and (ev_callB cr_isi os_isi T.n_isinstance (av_cons (ev_var (i := 0)) (av_cons (ev_ty T.n_int) (av_nil)))) (ev_one (ev_not (ev_callB cr_isi os_isi T.n_isinstance (av_cons (ev_var (i := 0)) (av_cons (ev_ty T.n_bool) (av_nil))))))))
theorem I_is_integer (T : Txt P K mg base C_BadReader C_LabelError C_Reader) {qual : Str} {f : Addr} {fd : FuncData} (F : Fun K "is_integer" qual s_is_integer f fd) (hx : mg "is_integer" = some (.ref f)) (hB : Binds K fd ["value"] []) : FnIs P HW.w K mg base "is_integer" 1 1 F_is_integer := fn_is lv_leave F hx hB sc_is_integer fun _ _ _ _ _ _ C => hb_is_integer T C
theorem sc_is_between_cells : FnScope ["value", "low", "high"] ["value", "low", "high"] (defScope s_is_between_cells) := ⟨rfl, rfl, rfl, by decide +kernel, rfl, by decide +kernel, by decide +kernel⟩
theorem hb_is_between_cells (T : Txt P K mg base C_BadReader C_LabelError C_Reader) (I_is_integer : FnIs P HW.w K mg base "is_integer" 1 1 F_is_integer) {qual : Str} {f : Addr} {cdv : Value} {A : Around} {outer : List Env} {s : Shared} {H : Hp} {E : XK} (C : Ctx (cxOf (L2.CX P HW.w) P HW.w K mg base ["value", "low", "high"] qual (defScope s_is_between_cells) f cdv A outer s H E) (Wish.of fun c d _ H => E c d H) 1) :
    BV (cxOf (L2.CX P HW.w) P HW.w K mg base ["value", "low", "high"] qual (defScope s_is_between_cells) f cdv A outer s H E) (Wish.of fun c d _ H => E c d H) (defBody s_is_between_cells) B_is_between_cells :=
  bv_one (sv_ret (ev_and (ev_callI I_is_integer C (by decide) (av_cons (ev_var (i := 0)) (av_nil)) (arN_cons (arN_nil))) (ev_one (ev_chain op_le op_le os_le os_le (ev_var (i := 1)) (ev_var (i := 0)) (ev_var (i := 2))))))
theorem I_is_between_cells (T : Txt P K mg base C_BadReader C_LabelError C_Reader) (I_is_integer : FnIs P HW.w K mg base "is_integer" 1 1 F_is_integer) {qual : Str} {f : Addr} {fd : FuncData} (F : Fun K "is_between" qual s_is_between_cells f fd) (hx : mg "is_between_cells" = some (.ref f)) (hB : Binds K fd ["value", "low", "high"] []) : FnIs P HW.w K mg base "is_between_cells" 2 3 F_is_between_cells := fn_isA lv_leave F hx hB sc_is_between_cells fun _ _ _ _ _ _ C => hb_is_between_cells T I_is_integer C
theorem sc_is_row : FnScope ["thing", "cell"] ["thing"] (defScope s_is_row) := ⟨rfl, rfl, rfl, by decide +kernel, rfl, by decide +kernel, by decide +kernel⟩
theorem hb_is_row (T : Txt P K mg base C_BadReader C_LabelError C_Reader) (I_is_between_cells : FnIs P HW.w K mg base "is_between_cells" 2 3 F_is_between_cells) {qual : Str} {f : Addr} {cdv : Value} {A : Around} {outer : List Env} {s : Shared} {H : Hp} {E : XK} (C : Ctx (cxOf (L2.CX P HW.w) P HW.w K mg base ["thing", "cell"] qual (defScope s_is_row) f cdv A outer s H E) (Wish.of fun c d _ H => E c d H) 2) :
    BV (cxOf (L2.CX P HW.w) P HW.w K mg base ["thing", "cell"] qual (defScope s_is_row) f cdv A outer s H E) (Wish.of fun c d _ H => E c d H) (defBody s_is_row) B_is_row :=
  bv_one (sv_ret (ev_and (ev_callB cr_isi os_isi T.n_isinstance (av_cons (ev_var (i := 0)) (av_cons (ev_ty T.n_tuple) (av_nil)))) (ev_one (ev_callB (cr_all C.calm) os_all T.n_all (av_cons (ev_lcG fin_lst (own := [("cell", 1)]) C.calm C.nd (iv_seq (ev_var (i := 0))) (by show blkC ["thing", "cell"] (defScope s_is_row) _ _ = true; decide +kernel) (by decide) (fun _ h => nomatch h) (fun _ _ _ _ _ => gv_nm (i := 1) C.nd) (fun _ _ _ _ _ => tv_ifs0) (fun s H C1 cl fp => ev_blk C (fun C => ev_callI I_is_between_cells C (by decide) (av_cons (ev_var (i := 1)) (av_cons (ev_int) (av_cons (ev_int) (av_nil)))) (arN_cons (arN_cons (arN_cons (arN_nil))))))) (av_nil))))))
theorem I_is_row (T : Txt P K mg base C_BadReader C_LabelError C_Reader) (I_is_between_cells : FnIs P HW.w K mg base "is_between_cells" 2 3 F_is_between_cells) {qual : Str} {f : Addr} {fd : FuncData} (F : Fun K "is_row" qual s_is_row f fd) (hx : mg "is_row" = some (.ref f)) (hB : Binds K fd ["thing"] []) : FnIs P HW.w K mg base "is_row" 3 1 F_is_row := fn_is lv_leave F hx hB sc_is_row fun _ _ _ _ _ _ C => hb_is_row T I_is_between_cells C
theorem sc_are_marks : FnScope ["value", "width", "row"] ["value", "width"] (defScope s_are_marks) := ⟨rfl, rfl, rfl, by decide +kernel, rfl, by decide +kernel, by decide +kernel⟩
theorem hb_are_marks (T : Txt P K mg base C_BadReader C_LabelError C_Reader) (I_is_mark : FnIs P HW.w K mg base "is_mark" 1 1 F_is_mark) (I_is_row : FnIs P HW.w K mg base "is_row" 3 1 F_is_row) {qual : Str} {f : Addr} {cdv : Value} {A : Around} {outer : List Env} {s : Shared} {H : Hp} {E : XK} (C : Ctx (cxOf (L2.CX P HW.w) P HW.w K mg base ["value", "width", "row"] qual (defScope s_are_marks) f cdv A outer s H E) (Wish.of fun c d _ H => E c d H) 3) :
    BV (cxOf (L2.CX P HW.w) P HW.w K mg base ["value", "width", "row"] qual (defScope s_are_marks) f cdv A outer s H E) (Wish.of fun c d _ H => E c d H) (defBody s_are_marks) B_are_marks :=
  bv_cons (sv_if (tv_not (tv_val (ev_callB cr_isiN os_isiN T.n_isinstance (av_cons (ev_var (i := 0)) (av_cons (ev_ty T.n_dict) (av_nil)))))) (bv_one (sv_ret (ev_bl))) (bv_nil)) (bv_cons (sv_lockN (sv_for C (iv_keysN (ev_var (i := 0))) (gv_nm (i := 2) C.nd) (bv_one (sv_if (tv_w (wv_or (tv_not (tv_val (ev_callI I_is_row C (by decide) (av_cons (ev_var (i := 2)) (av_nil)) (arN_cons (arN_nil))))) (wv_or (tv_cmp (op_neD C.room.units) os_ne (ev_callB cr_len os_len T.n_len (av_cons (ev_var (i := 2)) (av_nil))) (ev_var (i := 1)) (nomark _)) (wv_or1 (tv_not (tv_val (ev_callI I_is_mark C (by decide) (av_cons (ev_nget rfl C (ev_var (i := 0)) (ev_var (i := 2))) (av_nil)) (arN_cons (arN_nil))))))))) (bv_one (sv_ret (ev_bl))) (bv_nil))))) (bv_one (sv_ret (ev_bl))))
theorem I_are_marks (T : Txt P K mg base C_BadReader C_LabelError C_Reader) (I_is_mark : FnIs P HW.w K mg base "is_mark" 1 1 F_is_mark) (I_is_row : FnIs P HW.w K mg base "is_row" 3 1 F_is_row) {qual : Str} {f : Addr} {fd : FuncData} (F : Fun K "are_marks" qual s_are_marks f fd) (hx : mg "are_marks" = some (.ref f)) (hB : Binds K fd ["value", "width"] []) : FnIs P HW.w K mg base "are_marks" 4 2 F_are_marks := fn_is lv_leave F hx hB sc_are_marks fun _ _ _ _ _ _ C => hb_are_marks T I_is_mark I_is_row C
theorem sc_is_between_readers : FnScope ["value", "low", "high"] ["value", "low", "high"] (defScope s_is_between_readers) := ⟨rfl, rfl, rfl, by decide +kernel, rfl, by decide +kernel, by decide +kernel⟩
theorem hb_is_between_readers (T : Txt P K mg base C_BadReader C_LabelError C_Reader) {qual : Str} {f : Addr} {cdv : Value} {A : Around} {outer : List Env} {s : Shared} {H : Hp} {E : XK} (C : Ctx (cxOf (L2.CX P HW.w) P HW.w K mg base ["value", "low", "high"] qual (defScope s_is_between_readers) f cdv A outer s H E) (Wish.of fun c d _ H => E c d H) 0) :
    BV (cxOf (L2.CX P HW.w) P HW.w K mg base ["value", "low", "high"] qual (defScope s_is_between_readers) f cdv A outer s H E) (Wish.of fun c d _ H => E c d H) (defBody s_is_between_readers) B_is_between_readers :=
  bv_one (sv_ret (ev_and (ev_callB cr_isi os_isi T.n_isinstance (av_cons (ev_var (i := 0)) (av_cons (ev_ty T.n_int) (av_nil)))) (ev_and (ev_not (ev_callB cr_isi os_isi T.n_isinstance (av_cons (ev_var (i := 0)) (av_cons (ev_ty T.n_bool) (av_nil))))) (ev_one (ev_chain op_le op_le os_le os_le (ev_var (i := 1)) (ev_var (i := 0)) (ev_var (i := 2)))))))
theorem I_is_between_readers (T : Txt P K mg base C_BadReader C_LabelError C_Reader) {qual : Str} {f : Addr} {fd : FuncData} (F : Fun K "is_between" qual s_is_between_readers f fd) (hx : mg "is_between_readers" = some (.ref f)) (hB : Binds K fd ["value", "low", "high"] []) : FnIs P HW.w K mg base "is_between_readers" 1 3 F_is_between_readers := fn_isA lv_leave F hx hB sc_is_between_readers fun _ _ _ _ _ _ C => hb_is_between_readers T C
theorem sc_Reader___init__ : FnScope ["self", "width", "marks", "row"] ["self", "width", "marks"] (defScope s_Reader___init__) := ⟨rfl, rfl, rfl, by decide +kernel, rfl, by decide +kernel, by decide +kernel⟩
theorem hb_Reader___init__ (T : Txt P K mg base C_BadReader C_LabelError C_Reader) (I_are_marks : FnIs P HW.w K mg base "are_marks" 4 2 F_are_marks) (I_is_between_readers : FnIs P HW.w K mg base "is_between_readers" 1 3 F_is_between_readers) {qual : Str} {f : Addr} {cdv : Value} {A : Around} {outer : List Env} {s : Shared} {H : Hp} {E : XK} (C : Ctx (cxOf (L2.CX P HW.w) P HW.w K mg base ["self", "width", "marks", "row"] qual (defScope s_Reader___init__) f cdv A outer s H E) (Wish.of fun c d _ H => E c d H) 4) :
    BV (cxOf (L2.CX P HW.w) P HW.w K mg base ["self", "width", "marks", "row"] qual (defScope s_Reader___init__) f cdv A outer s H E) (Wish.of fun c d _ H => E c d H) (defBody s_Reader___init__) B_Reader___init__ :=
  bv_cons (sv_if (tv_not (tv_val (ev_callI I_is_between_readers C (by decide) (av_cons (ev_var (i := 1)) (av_cons (ev_int) (av_cons (ev_gI T.c_WIDEST) (av_nil)))) (arN_cons (arN_cons (arN_cons (arN_nil))))))) (bv_one (sv_raise1 C (by decide) T.E_BadReader (av_cons (ev_str) (av_nil)))) (bv_nil)) (bv_cons (sv_if (tv_not (tv_val (ev_callI I_are_marks C (by decide) (av_cons (ev_var (i := 2)) (av_cons (ev_var (i := 1)) (av_nil))) (arN_cons (arN_cons (arN_nil)))))) (bv_one (sv_raise1 C (by decide) T.E_BadReader (av_cons (ev_str) (av_nil)))) (bv_nil)) (bv_cons (sv_fld (fldCons T.g_Reader T.k_Reader.cl T.nf_Reader_width fldNil) (ev_var (i := 1)) (ev_var (i := 0))) (bv_one (sv_fld (fldCons T.g_Reader T.k_Reader.cl T.nf_Reader_known fldNil) (ev_dcT (own := [("row", 3)]) C (iv_seq (ev_callB cr_sortAny os_sortT T.n_sorted (av_cons (ev_lockN (ev_lcG fin_lst (own := [("row", 3)]) C.calm C.nd (iv_keysN (ev_var (i := 2))) (by show blkC ["self", "width", "marks", "row"] (defScope s_Reader___init__) _ _ = true; decide +kernel) (by decide) (fun _ h => nomatch h) (fun _ _ _ _ _ => gv_nm (i := 3) C.nd) (fun _ _ _ _ _ => tv_ifs0) (fun s H C1 cl fp => ev_blk C (fun C => ev_var (i := 3))))) (av_nil)))) (by show blkC ["self", "width", "marks", "row"] (defScope s_Reader___init__) _ _ = true; decide +kernel) (by decide) (fun _ h => nomatch h) (fun _ _ _ _ _ => gv_nm (i := 3) C.nd) (fun _ _ _ _ _ => tv_ifs0) (fun s H C1 cl fp => ev_blk C (fun C => ev_var (i := 3))) (fun s H C1 cl fp => ev_blk C (fun C => ev_nget rfl C (ev_var (i := 2)) (ev_var (i := 3))))) (ev_var (i := 0))))))
theorem MK_Reader (T : Txt P K mg base C_BadReader C_LabelError C_Reader) (I_are_marks : FnIs P HW.w K mg base "are_marks" 4 2 F_are_marks) (I_is_between_readers : FnIs P HW.w K mg base "is_between_readers" 1 3 F_is_between_readers) {f : Addr} {fd : FuncData} (F : Fun K "__init__" "Reader.__init__" s_Reader___init__ f fd) (M : Mk K C_Reader f) (hB : Binds K fd ["self", "width", "marks"] []) : MkIs P HW.w K mg base "Reader" 5 2 F_Reader___init__ := ⟨C_Reader, f, fd, _, M, fn_okI F sc_Reader___init__ rfl rfl fun _ _ _ _ _ _ C => hb_Reader___init__ T I_are_marks I_is_between_readers C, T.g_Reader, hB⟩
theorem sc_law_made : FnScope ["_law_width", "_law_marks", "_law_told", "e"] ["_law_width", "_law_marks"] (defScope s_law_made) := ⟨rfl, rfl, rfl, by decide +kernel, rfl, by decide +kernel, by decide +kernel⟩
theorem hb_law_made (T : Txt P K mg base C_BadReader C_LabelError C_Reader) (MK_Reader : MkIs P HW.w K mg base "Reader" 5 2 F_Reader___init__) {qual : Str} {f : Addr} {cdv : Value} {A : Around} {outer : List Env} {s : Shared} {H : Hp} {E : XK} (C : Ctx (cxOf (L2.CX P HW.w) P HW.w K mg base ["_law_width", "_law_marks", "_law_told", "e"] qual (defScope s_law_made) f cdv A outer s H E) (Wish.of fun c d _ H => E c d H) 6) :
    BV (cxOf (L2.CX P HW.w) P HW.w K mg base ["_law_width", "_law_marks", "_law_told", "e"] qual (defScope s_law_made) f cdv A outer s H E) (Wish.of fun c d _ H => E c d H) (defBody s_law_made) B_law_made :=
  bv_cons (sv_try C T.ext rfl rfl (fun W pl xe C => bv_cons (sv_set (i := 2) C.nd (ev_fld (fldCons T.g_Reader T.k_Reader.cl T.nf_Reader_width fldNil) (ev_makeG lv_leave MK_Reader C (by decide) (av_cons (ev_var (i := 0)) (av_cons (ev_var (i := 1)) (av_nil))) (arN_cons (arN_cons (arN_nil)))))) (bv_one (sv_set (i := 2) C.nd (ev_str)))) (.as (i := 3) rfl (by decide) T.g_LabelError rfl rfl List.not_mem_nil (fun a ob cls d pl x hz hf => bv_cons (sv_set (i := 2) C.nd (ev_str) (hk := lkS (by decide) List.not_mem_nil)) (bv_one (sv_if (tv_val (ev_isX (i := 3) T.ixt T.g_BadReader T.n_isinstance hz hf rfl (Or.inl rfl))) (bv_one (sv_set (i := 2) C.nd (ev_xf (i := 3) T.xf_BadReader T.g_BadReader T.xn_BadReader_part hz hf rfl (Or.inl rfl)) (hk := lkS (by decide) List.not_mem_nil))) (bv_nil)))) (.nil))) (bv_one (sv_ret (ev_var (i := 2))))
theorem I_law_made (T : Txt P K mg base C_BadReader C_LabelError C_Reader) (MK_Reader : MkIs P HW.w K mg base "Reader" 5 2 F_Reader___init__) {qual : Str} {f : Addr} {fd : FuncData} (F : Fun K "_law_made" qual s_law_made f fd) (hx : mg "_law_made" = some (.ref f)) (hB : Binds K fd ["_law_width", "_law_marks"] []) : FnIs P HW.w K mg base "_law_made" 7 2 F_law_made := fn_is lv_leave F hx hB sc_law_made fun _ _ _ _ _ _ C => hb_law_made T MK_Reader C
theorem sc_law_pick : FnScope ["_law_bag_here", "_law_many", "_law_mixed", "_law_digit"] ["_law_bag_here", "_law_many"] (defScope s_law_pick) := ⟨rfl, rfl, rfl, by decide +kernel, rfl, by decide +kernel, by decide +kernel⟩
theorem hb_law_pick (T : Txt P K mg base C_BadReader C_LabelError C_Reader) {qual : Str} {f : Addr} {cdv : Value} {A : Around} {outer : List Env} {s : Shared} {H : Hp} {E : XK} (C : Ctx (cxOf (L2.CX P HW.w) P HW.w K mg base ["_law_bag_here", "_law_many", "_law_mixed", "_law_digit"] qual (defScope s_law_pick) f cdv A outer s H E) (Wish.of fun c d _ H => E c d H) 0) :
    BV (cxOf (L2.CX P HW.w) P HW.w K mg base ["_law_bag_here", "_law_many", "_law_mixed", "_law_digit"] qual (defScope s_law_pick) f cdv A outer s H E) (Wish.of fun c d _ H => E c d H) (defBody s_law_pick) B_law_pick :=
  bv_cons (sv_if (tv_cmp op_gt os_gt (ev_ix ix_seq os_ix (ev_var (i := 0)) (ev_int) (fun _ _ => rfl)) (ev_int) (nomark _)) (bv_cons (sv_set (i := 3) C.nd (ev_op op_mod os_mod (ev_callTy call_int1 os_int T.n_int (av_cons (ev_ix ix_seq os_ix (ev_var (i := 0)) (ev_int) (fun _ _ => rfl)) (av_nil))) (ev_var (i := 1)))) (bv_cons (sv_sub set_list os_setL (ev_op op_fdivW os_div (ev_ix ix_seq os_ix (ev_var (i := 0)) (ev_int) (fun _ _ => rfl)) (ev_var (i := 1))) (ev_var (i := 0)) (ev_int)) (bv_one (sv_ret (ev_var (i := 3)))))) (bv_nil)) (bv_cons (sv_sub set_list os_setL (ev_op or_add os_add (ev_ix ix_seq os_ix (ev_var (i := 0)) (ev_int) (fun _ _ => rfl)) (ev_int)) (ev_var (i := 0)) (ev_int)) (bv_cons (sv_set (i := 2) C.nd (ev_op op_mod os_mod (ev_callTy call_int1 os_int T.n_int (av_cons (ev_op or_mul os_mul (ev_op or_add os_add (ev_ix ix_seq os_ix (ev_var (i := 0)) (ev_int) (fun _ _ => rfl)) (ev_op or_mul os_mul (ev_int) (ev_ix ix_seq os_ix (ev_var (i := 0)) (ev_int) (fun _ _ => rfl)))) (ev_int)) (av_nil))) (ev_int))) (bv_cons (sv_set (i := 2) C.nd (ev_op op_mod os_mod (ev_callTy call_int1 os_int T.n_int (av_cons (ev_op or_mul os_mul (ev_var (i := 2)) (ev_op or_add os_add (ev_op op_fdivW os_div (ev_var (i := 2)) (ev_int)) (ev_int))) (av_nil))) (ev_int))) (bv_cons (sv_set (i := 2) C.nd (ev_op op_mod os_mod (ev_callTy call_int1 os_int T.n_int (av_cons (ev_op or_mul os_mul (ev_var (i := 2)) (ev_op or_add os_add (ev_op op_fdivW os_div (ev_var (i := 2)) (ev_int)) (ev_int))) (av_nil))) (ev_int))) (bv_one (sv_ret (ev_op op_mod os_mod (ev_callTy call_int1 os_int T.n_int (av_cons (ev_op op_fdivW os_div (ev_var (i := 2)) (ev_int)) (av_nil))) (ev_var (i := 1)))))))))
theorem I_law_pick (T : Txt P K mg base C_BadReader C_LabelError C_Reader) {qual : Str} {f : Addr} {fd : FuncData} (F : Fun K "_law_pick" qual s_law_pick f fd) (hx : mg "_law_pick" = some (.ref f)) (hB : Binds K fd ["_law_bag_here", "_law_many"] []) : FnIs P HW.w K mg base "_law_pick" 1 2 F_law_pick := fn_is lv_leave F hx hB sc_law_pick fun _ _ _ _ _ _ C => hb_law_pick T C
theorem sc_law : FnScope ["_law_script", "_law_bag_here", "_law_width", "_law_kinds", "_law_marks", "_law_turn", "_law_choice", "_law_row", "_law_odd", "_law_k"] ["_law_script"] (defScope s_law) := ⟨rfl, rfl, rfl, by decide +kernel, rfl, by decide +kernel, by decide +kernel⟩
theorem hb_law (T : Txt P K mg base C_BadReader C_LabelError C_Reader) (I_law_bag : FnIs P HW.w K mg base "_law_bag" 1 2 F_law_bag) (I_law_due : FnIs P HW.w K mg base "_law_due" 3 2 F_law_due) (I_law_made : FnIs P HW.w K mg base "_law_made" 7 2 F_law_made) (I_law_pick : FnIs P HW.w K mg base "_law_pick" 1 2 F_law_pick) {qual : Str} {f : Addr} {cdv : Value} {A : Around} {outer : List Env} {s : Shared} {H : Hp} {E : XK} (C : Ctx (cxOf (L2.CX P HW.w) P HW.w K mg base ["_law_script", "_law_bag_here", "_law_width", "_law_kinds", "_law_marks", "_law_turn", "_law_choice", "_law_row", "_law_odd", "_law_k"] qual (defScope s_law) f cdv A outer s H E) (Wish.of fun c d _ H => E c d H) 7) :
    BV (cxOf (L2.CX P HW.w) P HW.w K mg base ["_law_script", "_law_bag_here", "_law_width", "_law_kinds", "_law_marks", "_law_turn", "_law_choice", "_law_row", "_law_odd", "_law_k"] qual (defScope s_law) f cdv A outer s H E) (Wish.of fun c d _ H => E c d H) (defBody s_law) B_law :=
  bv_cons (sv_set (i := 1) C.nd (ev_callI I_law_bag C (by decide) (av_cons (ev_var (i := 0)) (av_cons (ev_int) (av_nil))) (arN_cons (arN_cons (arN_nil))))) (bv_cons (sv_set (i := 2) C.nd (ev_op or_add os_add (ev_int) (ev_callI I_law_pick C (by decide) (av_cons (ev_var (i := 1)) (av_cons (ev_int) (av_nil))) (arN_cons (arN_cons (arN_nil)))))) (bv_cons (sv_set (i := 3) C.nd (ev_lst (av_cons (ev_str) (av_cons (ev_str) (av_cons (ev_str) (av_cons (ev_str) (av_cons (ev_str) (av_cons (ev_str) (av_nil))))))))) (bv_cons (sv_set (i := 4) C.nd (ev_ndct0 rfl)) (bv_cons (sv_for C (iv_rng1 T.n_range (av_cons (ev_callI I_law_pick C (by decide) (av_cons (ev_var (i := 1)) (av_cons (ev_int) (av_nil))) (arN_cons (arN_cons (arN_nil)))) (av_nil))) (gv_nm (i := 5) C.nd) (bv_cons (sv_set (i := 7) C.nd (ev_callTy call_tuple_of os_tuple T.n_tuple (av_cons (ev_lcG fin_lst (own := [("_law_k", 9)]) C.calm C.nd (iv_rng1 T.n_range (av_cons (ev_var (i := 2)) (av_nil))) (by show blkC ["_law_script", "_law_bag_here", "_law_width", "_law_kinds", "_law_marks", "_law_turn", "_law_choice", "_law_row", "_law_odd", "_law_k"] (defScope s_law) _ _ = true; decide +kernel) (by decide) (fun _ h => nomatch h) (fun _ _ _ _ _ => gv_nm (i := 9) C.nd) (fun _ _ _ _ _ => tv_ifs0) (fun s H C1 cl fp => ev_blk C (fun C => ev_callI I_law_pick C (by decide) (av_cons (ev_var (i := 1)) (av_cons (ev_int) (av_nil))) (arN_cons (arN_cons (arN_nil)))))) (av_nil)))) (bv_one (sv_sub (set_nest (by have := C.room.un; omega)) (os_setN rfl) (ev_ix ix_seq os_ix (ev_var (i := 3)) (ev_callI I_law_pick C (by decide) (av_cons (ev_var (i := 1)) (av_cons (ev_int) (av_nil))) (arN_cons (arN_cons (arN_nil)))) (fun _ _ => rfl)) (ev_var (i := 4)) (ev_var (i := 7)))))) (bv_cons (sv_set (i := 6) C.nd (ev_callI I_law_pick C (by decide) (av_cons (ev_var (i := 1)) (av_cons (ev_int) (av_nil))) (arN_cons (arN_cons (arN_nil))))) (bv_cons (sv_set (i := 7) C.nd (ev_op or_mulX os_mulX (ev_tup (av_cons (ev_int) (av_nil))) (ev_var (i := 2)))) (bv_cons (sv_if (tv_cmp (op_eqD C.room.units) os_eq (ev_var (i := 6)) (ev_int) (nomark _)) (bv_cons (sv_set (i := 8) C.nd (ev_lst (av_cons (ev_op or_add os_add (ev_var (i := 7)) (ev_tup (av_cons (ev_int) (av_nil)))) (av_cons (ev_sl (ev_var (i := 7)) (ov_yes (ev_int)) (ov_no)) (av_cons (ev_op or_add os_add (ev_sl (ev_var (i := 7)) (ov_yes (ev_int)) (ov_no)) (ev_tup (av_cons (ev_int) (av_nil)))) (av_cons (ev_op or_add os_add (ev_sl (ev_var (i := 7)) (ov_yes (ev_int)) (ov_no)) (ev_tup (av_cons (ev_un un_neg os_neg (ev_int)) (av_nil)))) (av_cons (ev_op op_mulS os_mulS (ev_str) (ev_var (i := 2))) (av_cons (ev_non) (av_cons (ev_int) (av_cons (ev_op or_add os_add (ev_sl (ev_var (i := 7)) (ov_yes (ev_int)) (ov_no)) (ev_tup (av_cons (ev_str) (av_nil)))) (av_cons (ev_tup (av_cons (ev_var (i := 7)) (av_nil))) (av_cons (ev_bl) (av_nil))))))))))))) (bv_cons (sv_set (i := 8) C.nd (ev_op or_add os_add (ev_var (i := 8)) (ev_lst (av_cons (ev_op or_add os_add (ev_sl (ev_var (i := 7)) (ov_yes (ev_int)) (ov_no)) (ev_tup (av_cons (ev_tup (av_cons (ev_int) (av_nil))) (av_nil)))) (av_cons (ev_op or_add os_add (ev_sl (ev_var (i := 7)) (ov_yes (ev_int)) (ov_no)) (ev_tup (av_cons (ev_non) (av_nil)))) (av_nil)))))) (bv_one (sv_sub (set_nest (by have := C.room.un; omega)) (os_setN rfl) (ev_str) (ev_var (i := 4)) (ev_ix ix_seq os_ix (ev_var (i := 8)) (ev_callI I_law_pick C (by decide) (av_cons (ev_var (i := 1)) (av_cons (ev_int) (av_nil))) (arN_cons (arN_cons (arN_nil)))) (fun _ _ => rfl)))))) (bv_nil)) (bv_cons (sv_if (tv_cmp (op_eqD C.room.units) os_eq (ev_var (i := 6)) (ev_int) (nomark _)) (bv_one (sv_sub (set_nest (by have := C.room.un; omega)) (os_setN rfl) (ev_ix ix_seq os_ix (ev_lst (av_cons (ev_str) (av_cons (ev_str) (av_cons (ev_str) (av_cons (ev_non) (av_cons (ev_int) (av_cons (ev_tup (av_cons (ev_str) (av_nil))) (av_cons (ev_str) (av_cons (ev_str) (av_cons (ev_str) (av_cons (ev_bl) (av_cons (ev_lst (av_cons (ev_str) (av_nil))) (av_cons (ev_tup (av_cons (ev_lst (av_cons (ev_int) (av_nil))) (av_nil))) (av_cons (ev_dict0) (av_cons (ev_lst (av_cons (ev_lst (av_cons (ev_lst (av_nil)) (av_nil))) (av_nil))) (av_nil)))))))))))))))) (ev_callI I_law_pick C (by decide) (av_cons (ev_var (i := 1)) (av_cons (ev_int) (av_nil))) (arN_cons (arN_cons (arN_nil)))) (fun _ _ => rfl)) (ev_var (i := 4)) (ev_var (i := 7)))) (bv_nil)) (bv_cons (sv_if (tv_cmp (op_eqD C.room.units) os_eq (ev_var (i := 6)) (ev_int) (nomark _)) (bv_one (sv_set (i := 4) C.nd (ev_ix ix_seq os_ix (ev_lst (av_cons (ev_non) (av_cons (ev_lst (av_nil)) (av_cons (ev_tup (av_nil)) (av_cons (ev_str) (av_cons (ev_lst (av_cons (ev_tup (av_cons (ev_var (i := 7)) (av_cons (ev_str) (av_nil)))) (av_nil))) (av_cons (ev_int) (av_nil)))))))) (ev_callI I_law_pick C (by decide) (av_cons (ev_var (i := 1)) (av_cons (ev_int) (av_nil))) (arN_cons (arN_cons (arN_nil)))) (fun _ _ => rfl)))) (bv_nil)) (bv_cons (sv_if (tv_cmp (op_eqD C.room.units) os_eq (ev_callI I_law_pick C (by decide) (av_cons (ev_var (i := 1)) (av_cons (ev_int) (av_nil))) (arN_cons (arN_cons (arN_nil)))) (ev_int) (nomark _)) (bv_one (sv_set (i := 2) C.nd (ev_ix ix_seq os_ix (ev_lst (av_cons (ev_int) (av_cons (ev_int) (av_cons (ev_bl) (av_cons (ev_non) (av_cons (ev_str) (av_cons (ev_lst (av_cons (ev_int) (av_nil))) (av_cons (ev_op op_pow os_pow (ev_int) (ev_int)) (av_cons (ev_un un_neg os_neg (ev_int)) (av_cons (ev_var (i := 2)) (av_cons (ev_tup (av_cons (ev_lst (av_nil)) (av_nil))) (av_cons (ev_dict0) (av_nil))))))))))))) (ev_callI I_law_pick C (by decide) (av_cons (ev_var (i := 1)) (av_cons (ev_int) (av_nil))) (arN_cons (arN_cons (arN_nil)))) (fun _ _ => rfl)))) (bv_nil)) (bv_one (sv_ret (ev_and (ev_cmp (op_eqD C.room.units) os_eq (ev_callI I_law_made C (by decide) (av_cons (ev_var (i := 2)) (av_cons (ev_var (i := 4)) (av_nil))) (arN_cons (arN_cons (arN_nil)))) (ev_callI I_law_due C (by decide) (av_cons (ev_var (i := 2)) (av_cons (ev_var (i := 4)) (av_nil))) (arN_cons (arN_cons (arN_nil)))) (nomark _)) (ev_one (ev_cmp (op_eqD C.room.units) os_eq (ev_callI I_law_made C (by decide) (av_cons (ev_int) (av_cons (ev_ndct0 rfl) (av_nil))) (arN_cons (arN_cons (arN_nil)))) (ev_str) (nomark _))))))))))))))))
theorem ok_law (T : Txt P K mg base C_BadReader C_LabelError C_Reader) (I_law_bag : FnIs P HW.w K mg base "_law_bag" 1 2 F_law_bag) (I_law_due : FnIs P HW.w K mg base "_law_due" 3 2 F_law_due) (I_law_made : FnIs P HW.w K mg base "_law_made" 7 2 F_law_made) (I_law_pick : FnIs P HW.w K mg base "_law_pick" 1 2 F_law_pick) {f : Addr} {fd : FuncData} (F : Fun K "law" "law" s_law f fd) : FnOk P HW.w K mg base (L2.CX P HW.w) 8 f fd ["_law_script"] (spF K mg 1 F_law) := fn_okG lv_leave F sc_law rfl rfl fun _ _ _ _ _ _ C => hb_law T I_law_bag I_law_due I_law_made I_law_pick C
end
end SL

namespace SL
open PySem PySem.Spec PyProof.Rows L2
section
variable {n : String} {st : Sto}
end
section
variable {ns : List Int} {p b n s v : Int} {r : Sto}
end
def plainW : W → Bool
  | .non | .bl _ | .int _ | .str _ | .tup _ | .lst _ => true
  | .dct [] _ => true
  | .dct (.str _ :: _) _ => true
  | _ => false
@[simp] theorem plain_int {i : Int} : plainW (.int i) = true := by simp only [plainW]
@[simp] theorem plain_non : plainW .non = true := by simp only [plainW]
@[simp] theorem plain_bl {i : Bool} : plainW (.bl i) = true := by simp only [plainW]
@[simp] theorem plain_str {i : Str} : plainW (.str i) = true := by simp only [plainW]
@[simp] theorem plain_tup {i : List W} : plainW (.tup i) = true := by simp only [plainW]
@[simp] theorem plain_lst {i : List W} : plainW (.lst i) = true := by simp only [plainW]
def isI : W → Bool
  | .int _ => true
  | _ => false
def betw (lo hi : Int) : W → Bool
  | .int i => decide (lo ≤ i) && decide (i ≤ hi)
  | _ => false
@[simp] theorem betw_int {lo hi i : Int} : betw lo hi (.int i) = (decide (lo ≤ i) && decide (i ≤ hi)) := rfl
def itemsW : W → List W
  | .tup ws => ws
  | _ => []
def rowW : W → Bool
  | .tup ws => ws.all (betw 0 1)
  | _ => false
@[simp] theorem isint_ok {w : W} {st : Sto} (h : plainW w = true) : F_is_integer [w] st = .ok (.bl (isI w)) st := by
  cases w with
  | dct ks ws =>
    cases ks with
    | nil => exact mk_rt (st1 := st) (by simp [B_is_integer, isI]) rfl
    | cons k ks =>
      cases k with
      | str x => exact mk_rt (st1 := st) (by simp [B_is_integer, isI]) rfl
      | _ => cases h
  | _ => first | (cases h; done) | exact mk_rt (st1 := st) (by simp [B_is_integer, isI]) rfl
@[simp] theorem betw_ok {w : W} {lo hi : Int} {st : Sto} (h : plainW w = true) : F_is_between_cells [w, .int lo, .int hi] st = .ok (.bl (betw lo hi w)) st := by
  refine mk_rt (st1 := st) ?_ rfl
  unfold B_is_between_cells
  cases w with
  | int i =>
    simp [h, isI, betw]
    by_cases z : lo ≤ i <;> simp [z]
  | _ => first | (cases h; done) | simp [h, isI, betw]
theorem bls_map : ∀ (ws : List W) (p : W → Bool), blsW (ws.map fun w => .bl (p w)) = some (ws.map p)
  | [], p => rfl
  | w :: ws, p => by rw [List.map_cons, blsW, bls_map ws p]; rfl
theorem all_id (ws : List W) (p : W → Bool) : (ws.map p).all id = ws.all p := by
  induction ws with
  | nil => rfl
  | cons a l ih => simp [ih]
def okRow (w : W) : Bool := plainW w && (itemsW w).all plainW
@[simp] theorem is_row_ok {w : W} {st : Sto} (h : okRow w = true) : F_is_row [w] st = .ok (.bl (rowW w)) st := by
  unfold okRow at h
  rw [Bool.and_eq_true] at h
  refine mk_rt (st1 := st) ?_ rfl
  unfold B_is_row
  cases w with
  | tup ws =>
    have hz := h.2
    have z : eLc (iSeq (eVar 0)) (gNm 1) [1] (tTrue) (eCall F_is_between_cells (aCons (eVar 1) (aCons (eC (.int 0)) (aCons (eC (.int 1)) (aNil))))) [some (.tup ws), none] st = .ok (.lst (ws.map fun w => .bl (betw 0 1 w))) st := by
      refine x_lc (st1 := st) (x := .tup ws) (all := ws) (by simp) ?_
      refine lc_map (x := .tup ws) trivial ws fun w hw => ⟨_, rfl, rfl, ?_⟩
      have hp := List.all_eq_true.mp hz w hw
      simp [wipeF, hp]
    simp [z]
    simp [oAll, oBls, bls_map, all_id, rowW]
  | dct ks ws =>
    cases ks with
    | nil => simp [rowW]
    | cons k ks =>
      cases k with
      | str x => simp [rowW]
      | _ => exact Bool.noConfusion h.1
  | _ => first | (cases h.1; done) | simp [rowW]
def bits (ns : List Int) : W := .tup (ns.map W.int)
def Bits (ns : List Int) : Prop := ∀ n ∈ ns, n = 0 ∨ n = 1
theorem bits_ok (ns : List Int) : okRow (bits ns) = true := by
  simp [okRow, bits, plainW, itemsW]
@[simp] theorem get_new {st : Sto} {c : Cel} : (st ++ [c])[st.length]? = some c := by simp
@[simp] theorem set_new {st : Sto} {c d : Cel} : (st ++ [c]).set st.length d = st ++ [d] := by simp
theorem take_next {α : Type} {l : List α} {k : Nat} {w : α} (h : l[k]? = some w) : l.take (k + 1) = l.take k ++ [w] := by
  have hk : k < l.length := by
    rcases Nat.lt_or_ge k l.length with q | q
    · exact q
    · rw [List.getElem?_eq_none q] at h; cases h
  rw [List.take_succ, h]; rfl
@[simp] theorem rngW_len {lo c : Int} {n : Nat} : (rngW lo c n).length = n := by simp [rngW]
theorem ix_mem {ws : List W} {i : Int} (h : 0 ≤ i) (h2 : i < ws.length) : ∃ w, w ∈ ws ∧ ∀ st, oIx (.lst ws) (.int i) st = .ok w st := by
  have hk : i.toNat < ws.length := by omega
  exact ⟨ws[i.toNat], List.getElem_mem hk, fun st => x_ixL h (by simp)⟩
abbrev sg (c : Nat) : Str := ⟨#[c]⟩
def SGN : Str := "0123456789abcdefghijklmnopqrstuvwxyz"
def okC (c : Nat) : Prop := c ∈ SGN.cps.toList
@[simp] theorem len_sg {c : Nat} {st : Sto} : oLen [.str (sg c)] st = .ok (.int 1) st := by
  show (if (sg c).length ≤ LINE then Out.ok (W.int ((sg c).length : Nat)) st else .bad) = _
  have e : (sg c).length = 1 := rfl
  rw [e, if_pos (by decide)]; rfl
def bitsL (P : List (List Int)) : List W := P.map bits
theorem ints_map : ∀ is : List Int, intsW (is.map W.int) = some is
  | [] => rfl
  | i :: is => by rw [List.map_cons, intsW, ints_map is]; rfl
@[simp] theorem at_end {st : Sto} {c : Cel} {r : Sto} : (st ++ c :: r)[st.length]? = some c := by simp
@[simp] theorem at_end1 {st : Sto} {c d : Cel} {r : Sto} : (st ++ c :: d :: r)[st.length + 1]? = some d := by
  rw [List.getElem?_append_right (by omega), show st.length + 1 - st.length = 1 by omega]; rfl
@[simp] theorem set_end {st : Sto} {c d : Cel} {r : Sto} : (st ++ c :: r).set st.length d = st ++ d :: r := by simp
@[simp] theorem set_end1 {st : Sto} {c d e : Cel} {r : Sto} : (st ++ c :: d :: r).set (st.length + 1) e = st ++ c :: e :: r := by
  rw [List.set_append_right _ _ (by omega), show st.length + 1 - st.length = 1 by omega]; rfl
theorem tups_bits : ∀ {P : List (List Int)}, tupsI (bitsL P) = some P
  | [] => rfl
  | r :: P => by
    have ih := tups_bits (P := P)
    unfold bitsL at ih ⊢
    rw [List.map_cons]
    show tupsI (.tup (r.map W.int) :: P.map bits) = _
    unfold tupsI
    simp only [ints_map, ih]
theorem cut_from {T : List W} {a : Nat} (h : a ≤ T.length) : cutW T (some (a : Int)) none = T.drop a := by
  unfold cutW
  rw [HT.sIx_nat, HT.sIx_none, Nat.min_eq_left h, List.take_of_length_le (by simp)]
theorem cut_mid {T : List W} {a b : Nat} (h : a ≤ b) (hb : b ≤ T.length) : cutW T (some (a : Int)) (some (b : Int)) = (T.drop a).take (b - a) := by
  unfold cutW
  rw [HT.sIx_nat, HT.sIx_nat, Nat.min_eq_left hb, Nat.min_eq_left (by omega)]
theorem nb {E : Sem} {fr : Fr} {st : Sto} (h : E fr st = .ok (.bl true) st) : bNot (bOf E) fr st = .ok false st := by
  simp only [x_bNot, x_bOf, h, Out.bind_ok]; rfl
theorem lc_fm {α : Type} {x : W} {all : List W} {g : TgF} {t : SemB} {e : Sem} {fr : Fr} {h : α → W} {p : α → Bool} {f : α → W} {st : Sto} (hs : srcOk x all st) : ∀ l : List α, (∀ a ∈ l, ∃ fr1, g (h a) fr st = some fr1 ∧ t fr1 st = .ok (p a) st ∧ (p a = true → e fr1 st = .ok (f a) st)) → lcRun x all g t e fr (l.map h) st = .ok ((l.filter p).map f) st
  | [], _ => by rw [List.map_nil]; unfold lcRun; rw [if_pos hs]; rfl
  | a :: r, q => by
    obtain ⟨fr1, h1, h2, h3⟩ := q a List.mem_cons_self
    have ih := lc_fm hs r fun u hu => q u (List.mem_cons_of_mem _ hu)
    rw [List.map_cons]
    unfold lcRun
    rw [if_pos hs, h1]
    cases e : p a with
    | true => simp only [h2, e, h3 e, ih, List.filter_cons, if_true, List.map_cons]
    | false => simp only [h2, e, ih, List.filter_cons]; rfl
theorem lc_mp {α : Type} {x : W} {all : List W} {g : TgF} {t : SemB} {e : Sem} {fr : Fr} {h : α → W} {f : α → W} {st : Sto} (hs : srcOk x all st) (l : List α) (q : ∀ a ∈ l, ∃ fr1, g (h a) fr st = some fr1 ∧ t fr1 st = .ok true st ∧ e fr1 st = .ok (f a) st) : lcRun x all g t e fr (l.map h) st = .ok (l.map f) st := by
  have z := lc_fm (p := fun _ => true) (f := f) hs l fun a ha => by
    obtain ⟨fr1, h1, h2, h3⟩ := q a ha
    exact ⟨fr1, h1, h2, fun _ => h3⟩
  rw [z, List.filter_eq_self.mpr fun _ _ => rfl]
section
variable {cs : List Nat} {n : Nat} {P : List (List Int)} {s t : List Int} {st : Sto}
end
section
variable {cs : List Nat} {n : Nat} {P : List (List Int)} {s t r : List Int} {st : Sto}
end
section
variable {cs : List Nat} {n : Nat} {P : List (List Int)} {s t r : List Int} {st : Sto}
end
section
variable {ns : List Int} {cs : List Nat} {n : Nat} {P : List (List Int)} {s t : List Int}
end
section
variable {st : Sto} {x y r1 r2 rows : W} {cs cs2 : List Nat} {n n2 : Nat} {P P2 : List (List Int)} {s t s2 t2 : List Int}
end
section
variable {cs : List Nat} {P : List (List Int)} {S : Sto} {m : Nat}
end
section
variable {st : Sto} {x rows : W} {cs : List Nat} {n : Nat} {P : List (List Int)} {s t : List Int}
end
def keyI (l : List Int) : KeyL := l.map Sum.inl
theorem keysW_bits : ∀ l : List Int, keysW (l.map W.int) = some (keyI l)
  | [] => rfl
  | a :: l => by
    rw [List.map_cons]
    unfold keysW
    rw [keysW_bits l]; rfl
theorem keyT_bits (l : List Int) : keyT (bits l) = some (keyI l) := keysW_bits l
theorem keyI_eq : ∀ {a b : List Int}, keyI a = keyI b ↔ a = b
  | [], [] => ⟨fun _ => rfl, fun _ => rfl⟩
  | [], b :: l => ⟨(fun h => by cases h), (fun h => by cases h)⟩
  | a :: l, [] => ⟨(fun h => by cases h), (fun h => by cases h)⟩
  | a :: l, b :: m => by
    constructor
    · intro h
      have h' : (Sum.inl a : Key) :: keyI l = Sum.inl b :: keyI m := h
      injection h' with h1 h2
      rw [Sum.inl.inj h1, keyI_eq.mp h2]
    · intro h; rw [h]
abbrev Wc := List (List Int × W)
def wget (d : Wc) (k : List Int) : Option W := (d.find? fun p => decide (p.1 = k)).map (·.2)
def wC (d : Wc) : Cel := .dct (.ty "T" :: d.map fun p => bits p.1) (d.map (·.2))
theorem mapO_W : ∀ d : Wc, mapO keyT (d.map fun p => bits p.1) = some (d.map fun p => keyI p.1)
  | [] => rfl
  | p :: d => by rw [List.map_cons, mapO, mapO_W d, keyT_bits]; rfl
theorem setW_back {α : Type} {n : Nat} {st : List α} {c d : α} (hn : st[n]? = some c) : (st.set n d).set n c = st := by
  have hlt : n < st.length := (List.getElem?_eq_some_iff.mp hn).1
  rw [List.set_set]
  apply List.ext_getElem?
  intro j
  by_cases e : n = j
  · subst e; rw [List.getElem?_set_self hlt, hn]
  · rw [List.getElem?_set_ne e]
theorem wget_mem {d : Wc} (nd : (d.map (·.1)).Nodup) {p : List Int × W} (h : p ∈ d) : wget d p.1 = some p.2 := by
  induction d with
  | nil => cases h
  | cons q d ih =>
    rw [List.map_cons, List.nodup_cons] at nd
    unfold wget
    rcases List.mem_cons.mp h with rfl | h
    · rw [List.find?_cons_of_pos (by simp)]; rfl
    · have ne : q.1 ≠ p.1 := fun e => nd.1 (by rw [e]; exact List.mem_map_of_mem h)
      rw [List.find?_cons_of_neg (by simpa using ne)]
      exact ih nd.2 h
/-- start, stop or a sign -/
def MkOk (z : Str) : Prop := z = "start" ∨ z = "stop" ∨ ∃ c, okC c ∧ z = sg c
/-- rows of one width with their marks -/
structure KnOk (w : Nat) (d : Wc) : Prop where
  w1 : 1 ≤ w ∧ w ≤ 6
  len : d.length ≤ 100
  row : ∀ p ∈ d, p.1.length = w ∧ Bits p.1
  mark : ∀ p ∈ d, ∃ z, MkOk z ∧ p.2 = .str z
  nd : (d.map (·.1)).Nodup
theorem in_two {z : Str} {st : Sto} : oIn (.str z) (.tup [.str "start", .str "stop"]) st = .ok (.bl (eqF (.str "start") (.str z) || (eqF (.str "stop") (.str z) || false))) st := rfl
theorem is_mark_ok {z : Str} {st : Sto} (h : MkOk z) : F_is_mark [.str z] st = .ok (.bl true) st := by
  refine mk_rt (st1 := st) ?_ rfl
  show B_is_mark [some (.str z)] st = _
  have tp : oTup [.str "start", .str "stop"] st = .ok (.tup [.str "start", .str "stop"]) st := x_tup (by decide)
  unfold B_is_mark
  refine if_no (st1 := st) (st2 := st) (by simp only [x_bNot, x_bOf, x_N, x_aCons, x_aNil, x_var, x_c, fg0, Out.bind_ok, isi_str, tyN_str, Bool.and_self, if_true, subT_str_str, Bool.not_true]) rfl ?_
  rcases h with rfl | rfl | ⟨c, hc, rfl⟩
  · have e : (eqF (.str "start") (.str "start") || (eqF (.str "stop") (.str "start") || false)) = true := by decide +kernel
    simp only [x_ret, x_or, x_2, x_N, x_aCons, x_aNil, x_var, x_c, fg0, Out.bind_ok, tp, in_two, e, if_true, Out.stm_ok]
  · have e : (eqF (.str "start") (.str "stop") || (eqF (.str "stop") (.str "stop") || false)) = true := by decide +kernel
    simp only [x_ret, x_or, x_2, x_N, x_aCons, x_aNil, x_var, x_c, fg0, Out.bind_ok, tp, in_two, e, if_true, Out.stm_ok]
  · have e : oIn (.str (sg c)) (.str "0123456789abcdefghijklmnopqrstuvwxyz") st = .ok (.bl true) st := by
      show Out.ok (W.bl (decide (c ∈ SGN.cps.toList))) st = _
      rw [decide_eq_true (show c ∈ SGN.cps.toList from hc)]
    have l : oLen [.str (sg c)] st = .ok (.int 1) st := rfl
    cases hb : (eqF (.str "start") (.str (sg c)) || (eqF (.str "stop") (.str (sg c)) || false)) with
    | true => simp only [x_ret, x_or, x_2, x_N, x_aCons, x_aNil, x_var, x_c, fg0, Out.bind_ok, tp, in_two, hb, if_true, Out.stm_ok]
    | false => simp only [x_ret, x_or, x_and, x_2, x_N, x_aCons, x_aNil, x_var, x_c, fg0, Out.bind_ok, tp, in_two, hb, Bool.false_eq_true, if_false, l, x_eqI, decide_true, if_true, e, Out.stm_ok]
theorem sortT_bits {L : List (List Int)} {w : Nat} (h1 : 1 ≤ w) (h : ∀ l ∈ L, l.length = w ∧ Bits l) {st : Sto} : oSortT [.lst (L.map bits)] st = .ok (.lst ((sortT L).map bits)) st := by
  show (match (some (L.map bits)).bind tupsI with
    | some L => if dec (∃ (d : Nat) (B : Int), 1 ≤ d ∧ ∀ l ∈ (L : List (List Int)), l.length = d ∧ TS.Bd B l) = true then Out.ok (W.lst ((sortT L).map fun (l : List Int) => W.tup (l.map W.int))) st else .bad
    | none => .bad) = _
  rw [Option.bind_some, show tupsI (L.map bits) = some L from tups_bits]
  have g : ∃ (d : Nat) (B : Int), 1 ≤ d ∧ ∀ l ∈ L, l.length = d ∧ TS.Bd B l := ⟨w, 2, h1, fun l hl => ⟨(h l hl).1, fun m hm => by
    rcases (h l hl).2 m hm with e | e <;> rw [e] <;> omega⟩⟩
  show (if dec _ = true then _ else _) = _
  rw [if_pos (dec_mk g)]
  rfl
/-- the marks by ascending rows -/
def srtW (d : Wc) : Wc := (sortT (d.map (·.1))).map fun r => (r, (wget d r).getD .non)
def rdNs : List Str := ["width", "known"]
def kndW (d : Wc) : W := .dct (.ty "T" :: d.map fun p => bits p.1) (d.map fun p : List Int × W => p.2)
def rdr (w : Nat) (d : Wc) : W := .ins "Reader" rdNs [.int (w : Nat), kndW d]
/-- all values are texts -/
def TxV (d : Wc) : Prop := ∀ p ∈ d, ∃ z, p.2 = .str z
theorem fz_tx {d : Wc} (h : TxV d) (n : Nat) (f : Nat → Option W) : fz0s n f (d.map fun p : List Int × W => p.2) = some (d.map fun p : List Int × W => p.2) := by
  induction d with
  | nil => rfl
  | cons p d ih =>
    obtain ⟨z, hz⟩ := h p List.mem_cons_self
    rw [List.map_cons, fz0s, ih fun q hq => h q (List.mem_cons_of_mem _ hq), hz]; rfl
section
variable {st : Sto} {x rows : W} {cs : List Nat} {n : Nat} {P : List (List Int)} {s t : List Int}
end
section
variable {st : Sto} {x rows : W} {cs : List Nat} {n : Nat} {P : List (List Int)} {s t : List Int}
end
section
variable {ns : List Int} {p b n s v : Int} {r : Sto}
end
def bgW (a b k : Int) : Cel := .lst [.int a, .int b, .int k]
section
variable {a b k v : Int} {r : Sto}
@[simp] theorem bg0 : oIx (.cell 0) (.int 0) (bgW a b k :: r) = .ok (.int a) (bgW a b k :: r) := rfl
@[simp] theorem bg1 : oIx (.cell 0) (.int 1) (bgW a b k :: r) = .ok (.int b) (bgW a b k :: r) := rfl
@[simp] theorem bg2 : oIx (.cell 0) (.int 2) (bgW a b k :: r) = .ok (.int k) (bgW a b k :: r) := rfl
@[simp] theorem bs0 : uLst (.cell 0) (.int 0) (.int v) (bgW a b k :: r) = some (bgW v b k :: r) := rfl
@[simp] theorem bs2 : uLst (.cell 0) (.int 2) (.int v) (bgW a b k :: r) = some (bgW a b v :: r) := rfl
end
def Bag (c : Cel) : Prop := ∃ a b k, c = bgW a b k
theorem bag_old {c : Cel} {n : Nat} (h : Bag c) : oldW n c = true := by
  obtain ⟨a, b, k, rfl⟩ := h; rfl
section
variable {κ : Type} [DecidableEq κ]
end
section
variable {ms : List (List Mv)} {i j a b : Int}
end
section
variable {st : Sto} {n : Nat} {d : Tc}
end
section
variable {ms : List (List Mv)} {x y : List Int} {a : Int} {at_ n : Nat}
end
section
variable {ms : List (List Mv)} {x y : List Int} {a : Int} {at_ n : Nat}
end
section
variable {ms : List (List Mv)} {x y : List Int}
end
section
variable {ms : List (List Mv)} {x y : List Int}
end
section
variable {a c w : W} {S : Sto}
end
/-! ## the bag: a cell at any place -/
section
variable {st : Sto} {n : Nat} {a b k v : Int}
theorem ba0 (h : st[n]? = some (bgW a b k)) : oIx (.cell n) (.int 0) st = .ok (.int a) st := x_ixC h (by decide) rfl
theorem ba1 (h : st[n]? = some (bgW a b k)) : oIx (.cell n) (.int 1) st = .ok (.int b) st := x_ixC h (by decide) rfl
theorem ba2 (h : st[n]? = some (bgW a b k)) : oIx (.cell n) (.int 2) st = .ok (.int k) st := x_ixC h (by decide) rfl
theorem ua0 (h : st[n]? = some (bgW a b k)) : uLst (.cell n) (.int 0) (.int v) st = some (st.set n (bgW v b k)) := by
  rw [x_uLst, h]; rfl
theorem ua2 (h : st[n]? = some (bgW a b k)) : uLst (.cell n) (.int 2) (.int v) st = some (st.set n (bgW a b v)) := by
  rw [x_uLst, h]; rfl
end
theorem pick_at {c : Cel} {n : Nat} {m : Int} (hp : Bag c) (h : 0 < m) (h2 : m.natAbs.log2 < 9000) : ∃ q c', Bag c' ∧ 0 ≤ q ∧ q < m ∧ ∀ st : Sto, st[n]? = some c → F_law_pick [.cell n, .int m] st = .ok (.int q) (st.set n c') := by
  obtain ⟨a, b, k, rfl⟩ := hp
  by_cases ha : 0 < a
  · refine ⟨a % m, bgW (a / m) b k, ⟨_, _, _, rfl⟩, Int.emod_nonneg _ (by omega), Int.emod_lt_of_pos _ h, fun st hs => mk_rt (st1 := st.set n (bgW (a / m) b k)) ?_ (by simp)⟩
    show B_law_pick [some (.cell n), some (.int m), none, none] st = _
    unfold B_law_pick
    simp [ha, x_mod h, x_div h h2, ba0 hs, ua0 hs]
  · generalize hx : ((b + 32452843 * (k + 1)) * 69621) % 2147483647 = x
    generalize hy : (x * (x / 1021 + 48271)) % 2147483647 = y
    generalize hw : (y * (y / 2027 + 40014)) % 2147483563 = z
    have x1 : -(2 ^ 64) < x ∧ x < 2 ^ 64 := by omega
    have y1 : -(2 ^ 64) < y ∧ y < 2 ^ 64 := by
      have := Int.emod_nonneg (x * (x / 1021 + 48271)) (b := 2147483647) (by omega)
      have := Int.emod_lt_of_pos (x * (x / 1021 + 48271)) (b := 2147483647) (by omega)
      omega
    have c1 : mulOk 32452843 (k + 1) = true := by unfold mulOk; rw [Bool.or_eq_true]; exact .inl (dec_mk (.inl (by omega)))
    have c2 : mulOk (b + 32452843 * (k + 1)) 69621 = true := by unfold mulOk; rw [Bool.or_eq_true]; exact .inl (dec_mk (.inr (by omega)))
    refine ⟨(z / 64) % m, bgW a b (k + 1), ⟨_, _, _, rfl⟩, Int.emod_nonneg _ (by omega), Int.emod_lt_of_pos _ h, fun st hs => mk_rt (st1 := st.set n (bgW a b (k + 1))) ?_ (by simp)⟩
    have lt : n < st.length := (List.getElem?_eq_some_iff.mp hs).1
    have hs2 : (st.set n (bgW a b (k + 1)))[n]? = some (bgW a b (k + 1)) := List.getElem?_set_self lt
    show B_law_pick [some (.cell n), some (.int m), none, none] st = _
    unfold B_law_pick
    simp [ha, x_mod h, x_mul c1, x_mul c2, hx, x_mulL x1, hy, x_mulL y1, hw, ba0 hs, ba1 hs, ba2 hs, ua2 hs, ba1 hs2, ba2 hs2]
theorem bag_at (ns : List Int) (j : Nat) (hj : j ≤ 1000) {st : Sto} (ho : ∀ m, st.all (oldW m) = true) : ∃ c, Bag c ∧ F_law_bag [.ro (ns.map W.int), .int (j : Nat)] st = .ok (.cell st.length) (st ++ [c]) := by
  obtain ⟨v, hv⟩ : ∃ v : Int, e2 oIx (e2 oAdd (eSl (eVar 0) (pYes (eVar 1)) (pYes (e2 oAdd (eVar 1) (eC (.int 1))))) (eN oLst (aCons (eC (.int 0)) (aNil)))) (eC (.int 0)) [some (.ro (ns.map W.int)), some (.int (j : Nat)), none, none] st = .ok (.int v) st := by
    have l1 : oLst [.int 0] st = .ok (.lst [.int 0]) st := x_lst (by simp)
    by_cases h : j < ns.length
    · have s1 : oSl (.ro (ns.map W.int)) (some (j : Int)) (some ((j : Int) + 1)) st = .ok (.lst [.int ns[j]]) st := by
        have e : cutW (ns.map W.int) (some (j : Int)) (some ((j : Int) + 1)) = [.int ns[j]] := by
          rw [show ((j : Int) + 1) = ((j + 1 : Nat) : Int) by omega, cut_mid (by omega) (by rw [List.length_map]; omega), show j + 1 - j = 1 by omega, ← List.map_drop, List.drop_eq_getElem_cons h]
          rfl
        rw [← e]; rfl
      have ad : oAdd (.lst [.int ns[j]]) (.lst [.int 0]) st = .ok (.lst [.int ns[j], .int 0]) st := by
        show (if 1 + 1 ≤ LINE then Out.ok (W.lst ([.int ns[j]] ++ [.int 0])) st else .bad) = _
        rw [if_pos (by unfold LINE; omega)]; rfl
      refine ⟨ns[j], ?_⟩
      simp only [x_2, x_sl, x_var, fg0, fg1, x_pYes, x_c, x_N, x_aCons, x_aNil, Out.bind_ok, x_add, s1, l1, ad]
      rfl
    · have s1 : oSl (.ro (ns.map W.int)) (some (j : Int)) (some ((j : Int) + 1)) st = .ok (.lst []) st := by
        have e : cutW (ns.map W.int) (some (j : Int)) (some ((j : Int) + 1)) = [] := by
          unfold cutW
          rw [HT.sIx_nat, List.drop_eq_nil_of_le (by rw [List.length_map]; omega), List.take_nil]
        rw [← e]; rfl
      have ad : oAdd (.lst []) (.lst [.int 0]) st = .ok (.lst [.int 0]) st := by
        show (if 0 + 1 ≤ LINE then Out.ok (W.lst ([] ++ [.int 0])) st else .bad) = _
        rw [if_pos (by unfold LINE; omega)]; rfl
      refine ⟨0, ?_⟩
      simp only [x_2, x_sl, x_var, fg0, fg1, x_pYes, x_c, x_N, x_aCons, x_aNil, Out.bind_ok, x_add, s1, l1, ad]
      rfl
  have c2 : mulOk 41 (j : Int) = true := by unfold mulOk; rw [Bool.or_eq_true]; exact .inl (dec_mk (.inl (by omega)))
  obtain ⟨C, hC, bC⟩ : ∃ C, C = bgW (if v ≥ 1000000000000000000 then v else 0) (v % 2147483549 + 41 * (j : Int) + 1) 0 ∧ Bag C := ⟨_, rfl, _, _, _, rfl⟩
  refine ⟨C, bC, ?_⟩
  have hB : B_law_bag [some (.ro (ns.map W.int)), some (.int (j : Nat)), none, none] st = .rt (.cell st.length) (st ++ [C]) := by
    rw [hC]
    unfold B_law_bag
    refine asg_to hv ?_
    simp only [fs2]
    refine asg_to (w := .int (v % 2147483549 + 41 * (j : Int) + 1)) (st1 := st) ?_ ?_
    · have oi : ∀ st, oInt [.int v] st = .ok (.int v) st := fun st => rfl
      simp only [x_2, x_N, x_aCons, x_aNil, x_var, fg1, fg2, x_c, Out.bind_ok, oi, x_mod (show (0 : Int) < 2147483549 by omega), x_mul c2, x_add]
    simp only [fs3]
    have pw : ∀ st, oPow (.int 10) (.int 18) st = .ok (.int 1000000000000000000) st := fun st => x_pow (by omega)
    have ce : ∀ (x y z : W) st, oCell [x, y, z] st = .ok (.cell st.length) (st ++ [.lst [x, y, z]]) := fun x y z st => x_cell (by simp)
    by_cases e : v ≥ 1000000000000000000
    · simp only [x_seq, x_if, x_bOf, x_ret, x_N, x_aCons, x_aNil, x_2, x_var, fg2, fg3, x_c, Out.bind_ok, pw, x_ge, decide_eq_true e, ce, Out.stm_ok, if_pos e]
      rfl
    · simp only [x_seq, x_if, x_bOf, x_ret, x_N, x_aCons, x_aNil, x_2, x_var, fg2, fg3, x_c, Out.bind_ok, pw, x_ge, decide_eq_false e, ce, Out.stm_ok, if_neg e, x_nil]
      rfl
  unfold F_law_bag mkFnC mkFnG
  show (match B_law_bag [some (.ro (ns.map W.int)), some (.int (j : Nat)), none, none] st with
    | .nx _ st1 => leave st.length .non st1 | .rt w st1 => leaveC st.length w st1 | .er x _ st1 => leaveX st.length x st1 | _ => .bad) = _
  rw [hB]
  show leaveC st.length (.cell st.length) (st ++ [C]) = _
  have lv : C.live = true := by rw [hC]; rfl
  unfold leaveC
  simp only [if_pos (Nat.le_refl st.length), get_new, bag_old bC, lv, List.take_left, ho, and_self, if_true]
/-! ## what is no row of the width -/
theorem ok_tup {l : List W} (h : l.all plainW = true) : okRow (.tup l) = true := by
  unfold okRow itemsW
  rw [plain_tup, h]; rfl
theorem plain_ints (l : List Int) : (l.map W.int).all plainW = true := by
  rw [List.all_map, List.all_eq_true]
  exact fun _ _ => plain_int
theorem plain_snoc {l : List Int} {x : W} (h : plainW x = true) : (l.map W.int ++ [x]).all plainW = true := by
  rw [List.all_append, plain_ints, List.all_cons, h]; rfl
/-- the odd values as the law makes them -/
theorem flat_rep {α : Type} (x : α) : ∀ w : Nat, (List.replicate w [x]).flatten = List.replicate w x
  | 0 => rfl
  | w + 1 => by rw [List.replicate_succ, List.flatten_cons, flat_rep x w, List.replicate_succ]; rfl
theorem add_tup {a b : List W} {st : Sto} (h : a.length + b.length ≤ 1000) : oAdd (.tup a) (.tup b) st = .ok (.tup (a ++ b)) st := by
  show (if a.length + b.length ≤ LINE then Out.ok (W.tup (a ++ b)) st else .bad) = _
  rw [if_pos (by unfold LINE; omega)]
theorem add_lst {a b : List W} {st : Sto} (h : a.length + b.length ≤ 1000) : oAdd (.lst a) (.lst b) st = .ok (.lst (a ++ b)) st := by
  show (if a.length + b.length ≤ LINE then Out.ok (W.lst (a ++ b)) st else .bad) = _
  rw [if_pos (by unfold LINE; omega)]
end SL
namespace SL
open PySem PySem.Spec PyProof.Rows L2
/-! # a dict with keys of several kinds, by its entries -/
section
variable [HW] {st : Sto}
def gdV : List W := [.str "a", .str "z", .str "0", .str "9", .str "start", .str "stop"]
def odV : List W := [.str "", .str "A", .str "ab", .non, .int 0, .tup [.str "a"], .str "Start", .str " ", .str "-", .bl true, .lst [.str "a"], .tup [.lst [.int 0]], .dct [] [], .lst [.lst [.lst []]]]
def mkB : W → Bool
  | .str z => z == "a" || z == "z" || z == "0" || z == "9" || z == "start" || z == "stop"
  | _ => false
abbrev Ents := List (W × W)
def nE (E : Ents) : Cel := .nct false HW.w (E.map (·.1)) (E.map (·.2))
def nL (E : Ents) : Cel := .nct true HW.w (E.map (·.1)) (E.map (·.2))
structure EOk (E : Ents) (kk : List NestedKey) : Prop where
  keys : mapO nkeyM (E.map (·.1)) = some kk
  nd : kk.Nodup
  row : ∀ e ∈ E, okRow e.1 = true
  val : ∀ e ∈ E, e.2 ∈ gdV ++ odV
theorem mapO_cons {α β : Type} {f : α → Option β} {a : α} {l : List α} {bs : List β} (h : mapO f (a :: l) = some bs) : ∃ b r, f a = some b ∧ mapO f l = some r ∧ bs = b :: r := by
  unfold mapO at h
  cases e1 : f a with
  | none => rw [e1] at h; cases h
  | some b =>
    cases e2 : mapO f l with
    | none => rw [e1, e2] at h; cases h
    | some r => rw [e1, e2] at h; cases h; exact ⟨b, r, rfl, rfl, rfl⟩
theorem mapO_mk {α β : Type} {f : α → Option β} {a : α} {l : List α} {b : β} {r : List β} (h1 : f a = some b) (h2 : mapO f l = some r) : mapO f (a :: l) = some (b :: r) := by
  unfold mapO; rw [h1, h2]
theorem mapO_appM {α β : Type} {f : α → Option β} : ∀ {l m : List α} {r s : List β}, mapO f l = some r → mapO f m = some s → mapO f (l ++ m) = some (r ++ s)
  | [], m, r, s, h1, h2 => by cases h1; exact h2
  | a :: l, m, r, s, h1, h2 => by
    obtain ⟨b, t, e1', e2', rfl⟩ := mapO_cons h1
    exact mapO_mk e1' (mapO_appM e2' h2)
theorem keys_len : ∀ {E : Ents} {kk : List NestedKey}, mapO nkeyM (E.map (·.1)) = some kk → kk.length = E.length
  | [], kk, h => by cases h; rfl
  | a :: E, kk, h => by
    obtain ⟨b, t, _, e2', rfl⟩ := mapO_cons h
    rw [List.length_cons, List.length_cons, keys_len e2']
theorem val_mem : ∀ {E : Ents} {kk : List NestedKey}, mapO nkeyM (E.map (·.1)) = some kk → kk.Nodup → ∀ e ∈ E, ∃ j, nkeyM e.1 = some j ∧ j ∈ kk ∧ valN (kk.zip (E.map (·.2))) j = some e.2
  | [], _, _, _, _, h => by cases h
  | a :: E, kk, h, nd, e, he => by
    obtain ⟨b, t, e1', e2', rfl⟩ := mapO_cons h
    have nd' := List.nodup_cons.mp nd
    rw [List.map_cons, List.zip_cons_cons]
    rcases List.mem_cons.mp he with rfl | he
    · refine ⟨b, e1', List.mem_cons_self, ?_⟩
      unfold valN
      rw [List.find?_cons_of_pos (by simp)]; rfl
    · obtain ⟨j, h1, h2, h3⟩ := val_mem e2' nd'.2 e he
      refine ⟨j, h1, List.mem_cons_of_mem _ h2, ?_⟩
      unfold valN at h3 ⊢
      rw [List.find?_cons_of_neg (by
        have : ¬ b = j := fun z => nd'.1 (by rw [z]; exact h2)
        simpa using this)]
      exact h3
theorem val_none : ∀ {E : Ents} {kk : List NestedKey} {j : NestedKey}, kk.length = E.length → valN (kk.zip (E.map (·.2))) j = none → j ∉ kk
  | [], [], _, _, _, h => by cases h
  | [], _ :: _, _, hl, _, _ => by simp at hl
  | _ :: _, [], _, _, _, h => by cases h
  | a :: E, b :: kk, j, hl, hv, h => by
    rw [List.map_cons, List.zip_cons_cons] at hv
    unfold valN at hv
    by_cases q : b = j
    · rw [List.find?_cons_of_pos (by simpa using q)] at hv; cases hv
    · rw [List.find?_cons_of_neg (by simpa using q)] at hv
      rcases List.mem_cons.mp h with z | z
      · exact q z.symm
      · exact val_none (by simpa using hl) hv z
theorem dec_self {p : Prop} (h : p) : dec p = true := dec_mk h
theorem nget_ok {E : Ents} {kk : List NestedKey} (K : EOk E kk) {n : Nat} (hn : st[n]? = some (nE E) ∨ st[n]? = some (nL E)) {e : W × W} (he : e ∈ E) : oNGet HW.w (.cell n) e.1 st = .ok e.2 st := by
  obtain ⟨j, h1, _, h3⟩ := val_mem K.keys K.nd e he
  have hw : nctW HW.w st (.cell n) = some (E.map (·.1), E.map (·.2)) := by
    unfold nctW
    rcases hn with hn | hn
    · simp only [hn, nE]; rw [if_pos (dec_self True.intro)]
    · simp only [hn, nL]; rw [if_pos (dec_self True.intro)]
  unfold oNGet
  rw [hw, h1]
  simp only [K.keys, h3]
theorem put_keys : ∀ {E : Ents} {kk : List NestedKey} {j : NestedKey} {u : W}, kk.length = E.length → ((kk.zip E).map fun p => if p.1 = j then (p.2.1, u) else p.2).map (·.1) = E.map (·.1) ∧ ((kk.zip E).map fun p => if p.1 = j then (p.2.1, u) else p.2).map (·.2) = putN kk (E.map (·.2)) j u
  | [], [], _, _, _ => ⟨rfl, rfl⟩
  | [], _ :: _, _, _, hl => by simp at hl
  | _ :: _, [], _, _, hl => by simp at hl
  | a :: E, b :: kk, j, u, hl => by
    obtain ⟨i1, i2⟩ := put_keys (E := E) (kk := kk) (j := j) (u := u) (by simpa using hl)
    unfold putN at i2 ⊢
    rw [List.zip_cons_cons, List.map_cons, List.map_cons, List.map_cons, List.map_cons, i1, List.map_cons, i2, List.zip_cons_cons, List.map_cons]
    by_cases q : b = j
    · simp [q]
    · simp [q]
theorem set_ok {E : Ents} {kk : List NestedKey} (K : EOk E kk) {n : Nat} (hn : st[n]? = some (nE E)) {y u : W} {j : NestedKey} (hy : nkeyM y = some j) (hr : okRow y = true) (hu : u ∈ gdV ++ odV) (hl : E.length ≤ 100) :
    ∃ E' kk', EOk E' kk' ∧ E'.length ≤ E.length + 1 ∧ uNct HW.w (.cell n) y u st = some (st.set n (nE E')) := by
  have kl := keys_len K.keys
  have ln : (E.map (·.1)).length < LINE := by rw [List.length_map]; unfold LINE; omega
  cases hv : valN (kk.zip (E.map (·.2))) j with
  | some z =>
    obtain ⟨p1, p2⟩ := put_keys (E := E) (kk := kk) (j := j) (u := u) kl
    refine ⟨(kk.zip E).map fun p => if p.1 = j then (p.2.1, u) else p.2, kk, ⟨by rw [p1]; exact K.keys, K.nd, fun e he => ?_, fun e he => ?_⟩, ?_, ?_⟩
    · obtain ⟨p, hp, rfl⟩ := List.mem_map.mp he
      have := K.row p.2 (List.of_mem_zip (a := p.1) (b := p.2) hp).2
      split <;> exact this
    · obtain ⟨p, hp, rfl⟩ := List.mem_map.mp he
      split
      · exact hu
      · exact K.val p.2 (List.of_mem_zip (a := p.1) (b := p.2) hp).2
    · rw [List.length_map, List.length_zip]; omega
    · unfold uNct
      simp only [hn, nE]
      rw [if_pos (dec_self True.intro)]
      simp only [K.keys, hy]
      rw [if_pos ln, hv]
      simp only [Option.isSome_some, if_true]
      rw [← p2, p1]
  | none =>
    refine ⟨E ++ [(y, u)], kk ++ [j], ⟨by rw [List.map_append]; exact mapO_appM K.keys (mapO_mk hy rfl), ?_, fun e he => ?_, fun e he => ?_⟩, by rw [List.length_append]; exact Nat.le_refl _, ?_⟩
    · refine List.nodup_append.mpr ⟨K.nd, by simp, fun a ha b hb e => val_none kl hv ?_⟩
      have hb : b = j := List.mem_singleton.mp hb
      rw [← hb, ← e]; exact ha
    · rcases List.mem_append.mp he with he | he
      · exact K.row e he
      · rw [List.mem_singleton.mp he]; exact hr
    · rcases List.mem_append.mp he with he | he
      · exact K.val e he
      · rw [List.mem_singleton.mp he]; exact hu
    · unfold uNct
      simp only [hn, nE]
      rw [if_pos (dec_self True.intro)]
      simp only [K.keys, hy]
      rw [if_pos ln, hv]
      simp only [Option.isSome_none, Bool.false_eq_true, if_false, List.map_append, List.map_cons, List.map_nil]
theorem keysN_at {i n : Nat} {E : Ents} {fr : Fr} (hf : fr[i]? = some (some (.cell n))) (hn : st[n]? = some (nL E)) (hl : E.length ≤ 1000) : iKeysN i fr st = .ok (.non, E.map (·.1)) st := by
  unfold iKeysN
  simp only [hf, hn, nL]
  rw [if_pos (by rw [List.length_map]; unfold LINE; omega)]
theorem unlkE_at {n : Nat} {E : Ents} (hu : st[n]? = some (nL E)) : unlkN n st = some (st.set n (nE E)) := by
  unfold unlkN
  rw [hu]; rfl
theorem lockE_at {i n : Nat} {E : Ents} {e : Sem} {fr : Fr} {w : W} (hf : fr[i]? = some (some (.cell n))) (hn : st[n]? = some (nE E)) (h : e fr (st.set n (nL E)) = .ok w (st.set n (nL E))) : eLockN i e fr st = .ok w st := by
  have hlt : n < st.length := (List.getElem?_eq_some_iff.mp hn).1
  unfold eLockN
  simp only [hf, hn, nE]
  show unlNE n (e fr (st.set n (nL E))) = _
  rw [h]
  unfold unlNE
  simp only
  rw [unlkE_at (List.getElem?_set_self hlt), setW_back hn]
theorem lockS_nx {i n : Nat} {E : Ents} {s : SSem} {fr fr2 : Fr} (hf : fr[i]? = some (some (.cell n))) (hn : st[n]? = some (nE E)) (h : s fr (st.set n (nL E)) = .nx fr2 (st.set n (nL E))) : sLockN i s fr st = .nx fr2 st := by
  have hlt : n < st.length := (List.getElem?_eq_some_iff.mp hn).1
  unfold sLockN
  simp only [hf, hn, nE]
  show unlNS n (s fr (st.set n (nL E))) = _
  rw [h]
  unfold unlNS
  simp only
  rw [unlkE_at (List.getElem?_set_self hlt), setW_back hn]
theorem lockS_rt {i n : Nat} {E : Ents} {s : SSem} {fr : Fr} {u : W} (hf : fr[i]? = some (some (.cell n))) (hn : st[n]? = some (nE E)) (h : s fr (st.set n (nL E)) = .rt u (st.set n (nL E))) : sLockN i s fr st = .rt u st := by
  have hlt : n < st.length := (List.getElem?_eq_some_iff.mp hn).1
  unfold sLockN
  simp only [hf, hn, nE]
  show unlNS n (s fr (st.set n (nL E))) = _
  rw [h]
  unfold unlNS
  simp only
  rw [unlkE_at (List.getElem?_set_self hlt), setW_back hn]
end

end SL
namespace SL
open PySem PySem.Spec PyProof.Rows L2
/-! ## rows, marks -/
section
variable {st : Sto}
theorem mem_gd {v : W} (h : v ∈ gdV) : ∃ z, v = .str z ∧ MkOk z := by
  simp only [gdV, List.mem_cons, List.not_mem_nil, or_false] at h
  rcases h with rfl | rfl | rfl | rfl | rfl | rfl
  · exact ⟨_, rfl, .inr (.inr ⟨97, by unfold okC; decide +kernel, rfl⟩)⟩
  · exact ⟨_, rfl, .inr (.inr ⟨122, by unfold okC; decide +kernel, rfl⟩)⟩
  · exact ⟨_, rfl, .inr (.inr ⟨48, by unfold okC; decide +kernel, rfl⟩)⟩
  · exact ⟨_, rfl, .inr (.inr ⟨57, by unfold okC; decide +kernel, rfl⟩)⟩
  · exact ⟨_, rfl, .inl rfl⟩
  · exact ⟨_, rfl, .inr (.inl rfl)⟩
theorem mkB_gd : ∀ v ∈ gdV, mkB v = true := by decide +kernel
theorem mkB_od : ∀ v ∈ odV, mkB v = false := by
  intro v hv
  simp only [odV, List.mem_cons, List.not_mem_nil, or_false] at hv
  rcases hv with rfl | rfl | rfl | rfl | rfl | rfl | rfl | rfl | rfl | rfl | rfl | rfl | rfl | rfl <;> first | rfl | decide +kernel
theorem B_mark_od : ∀ v ∈ odV, B_is_mark [some v] st = .rt (.bl false) st := by
  intro v hv
  simp only [odV, List.mem_cons, List.not_mem_nil, or_false] at hv
  rcases hv with rfl | rfl | rfl | rfl | rfl | rfl | rfl | rfl | rfl | rfl | rfl | rfl | rfl | rfl <;> rfl
theorem mark_at {v : W} (h : v ∈ gdV ++ odV) : F_is_mark [v] st = .ok (.bl (mkB v)) st := by
  rcases List.mem_append.mp h with h | h
  · rw [mkB_gd v h]
    obtain ⟨z, rfl, k⟩ := mem_gd h
    exact is_mark_ok k
  · rw [mkB_od v h]
    exact mk_rt (st1 := st) (B_mark_od v h) rfl
theorem eqs37 {a b : Str} (ha : PyData.strOk a = true) (hb : PyData.strOk b = true) : oEq (.str a) (.str b) st = .ok (.bl (a == b)) st := by
  have z : ∀ a : Str, PyData.strOk a = true → SeqAt.shaped (.str a) = true := fun a h => by
    unfold SeqAt.shaped
    have : PyData.canLay0 (.str a) = PyData.strOk a := by simp only [PyData.canLay0]
    rw [this, h]; rfl
  have e : eqW st (.str a) (.str b) = some (a == b) := by
    show (if SeqAt.shaped (.str a) && SeqAt.shaped (.str b) then some (PyData.eqv (.str a) (.str b)) else none) = _
    rw [z a ha, z b hb]; rfl
  show (match eqW st (.str a) (.str b) with | some b => Out.ok (W.bl b) st | none => .bad) = _
  rw [e]
theorem lm_str {z : Str} {r : Bool} (h : PyData.strOk z = true) (ne : (z == "") = false) (hr : (sRet (eOr (e2 oIn (eVar 0) (eN oTup (aCons (eC (.str "start")) (aCons (eC (.str "stop")) (aNil))))) (eAnd (e2 oEq (eN oLen (aCons (eVar 0) (aNil))) (eC (.int 1))) (e2 oIn (eVar 0) (eC (.str "0123456789abcdefghijklmnopqrstuvwxyz")))))) [some (.str z)] st = .rt (.bl r) st) : B_law_is_mark [some (.str z)] st = .rt (.bl r) st := by
  have q := eqs37 (st := st) h (show PyData.strOk "" = true by decide +kernel)
  rw [ne] at q
  unfold B_law_is_mark
  refine if_no (st1 := st) (st2 := st) ?_ rfl hr
  have i : oIsi [.str z, .ty "str"] st = .ok (.bl true) st := rfl
  simp only [x_bOr, x_bNot, x_bOf, x_2, x_N, x_aCons, x_aNil, x_var, x_c, fg0, Out.bind_ok, i, q, Bool.not_true, Bool.false_eq_true, if_false]
theorem lm_emp : B_law_is_mark [some (.str "")] st = .rt (.bl false) st := by
  have q := eqs37 (st := st) (show PyData.strOk "" = true by decide +kernel) (show PyData.strOk "" = true by decide +kernel)
  unfold B_law_is_mark
  have i : oIsi [.str "", .ty "str"] st = .ok (.bl true) st := rfl
  have e : (("" : Str) == "") = true := by decide +kernel
  rw [e] at q
  simp only [x_seq, x_if, x_bOr, x_bNot, x_bOf, x_2, x_N, x_aCons, x_aNil, x_var, x_c, fg0, Out.bind_ok, i, q, Bool.not_true, Bool.false_eq_true, if_false, Out.stm_ok, if_true, x_ret]
theorem B_lmark_od : ∀ v ∈ gdV ++ odV, B_law_is_mark [some v] st = .rt (.bl (mkB v)) st := by
  intro v hv
  simp only [gdV, odV, List.mem_append, List.mem_cons, List.not_mem_nil, or_false] at hv
  rcases hv with (rfl | rfl | rfl | rfl | rfl | rfl) | (rfl | rfl | rfl | rfl | rfl | rfl | rfl | rfl | rfl | rfl | rfl | rfl | rfl | rfl) <;> first | exact lm_emp | rfl | exact lm_str (by decide +kernel) (by decide +kernel) rfl
theorem lmark_at {v : W} (h : v ∈ gdV ++ odV) : F_law_is_mark [v] st = .ok (.bl (mkB v)) st := mk_rt (st1 := st) (B_lmark_od v h) rfl
def rowK (n : Nat) (k : W) : Bool := rowW k && decide ((itemsW k).length = n)
theorem whole_ok {w : W} (h : plainW w = true) : F_law_whole [w] st = .ok (.bl (isI w)) st := by
  cases w with
  | dct ks ws =>
    cases ks with
    | nil => exact mk_rt (st1 := st) (by simp [B_law_whole, isI]) rfl
    | cons k ks =>
      cases k with
      | str x => exact mk_rt (st1 := st) (by simp [B_law_whole, isI]) rfl
      | _ => cases h
  | _ => first | (cases h; done) | exact mk_rt (st1 := st) (by simp [B_law_whole, isI]) rfl
theorem lrow_ok {k : W} {n : Nat} (h : okRow k = true) : F_law_is_row [k, .int (n : Int)] st = .ok (.bl (rowK n k)) st := by
  unfold okRow at h
  rw [Bool.and_eq_true] at h
  obtain ⟨h1, h2⟩ := h
  refine mk_rt (st1 := st) ?_ rfl
  show B_law_is_row [some k, some (.int (n : Int)), none] st = _
  unfold B_law_is_row
  cases k with
  | tup ws =>
    have ln : oLen [.tup ws] st = .ok (.int ws.length) st := x_len_tup
    have it : oIsi [.tup ws, .ty "tuple"] st = .ok (.bl true) st := rfl
    by_cases q : ws.length = n
    · have qi : (ws.length : Int) = n := by omega
      refine if_no (st1 := st) (st2 := st) (by simp only [x_bOr, x_bNot, x_bOf, x_2, x_N, x_aCons, x_aNil, x_var, x_c, fg0, fg1, Out.bind_ok, it, ln, x_neI, qi, decide_true, Bool.not_true, Bool.false_eq_true, if_false]) rfl ?_
      have lc := x_lc (own := [2]) (f := iSeq (eVar 0)) (g := gNm 2) (t := (bOr (bNot (bOf (eCall F_law_whole (aCons (eVar 2) (aNil))))) (bNot (bOf (eChain oLe oLe (eC (.int 0)) (eVar 2) (eC (.int 1))))))) (e := eVar 2) (fr := [some (.tup ws), some (.int (n : Int)), none]) (st := st) (st1 := st) (st2 := st) (x := .tup ws) (all := ws) (ys := (ws.filter fun w => !betw 0 1 w).map id) (by simp) (by
        have := lc_filter (x := .tup ws) (all := ws) (g := gNm 2) (t := (bOr (bNot (bOf (eCall F_law_whole (aCons (eVar 2) (aNil))))) (bNot (bOf (eChain oLe oLe (eC (.int 0)) (eVar 2) (eC (.int 1))))))) (e := eVar 2) (fr := wipeF [some (.tup ws), some (.int (n : Int)), none] [2]) (st := st) (p := fun w => !betw 0 1 w) (f := id) trivial ws (by
          intro w hw
          have pw := List.all_eq_true.mp h2 w hw
          have wo := whole_ok (st := st) pw
          refine ⟨[some (.tup ws), some (.int (n : Int)), some w], rfl, ?_, fun _ => rfl⟩
          cases w with
          | int i =>
            have wo : F_law_whole [.int i] st = .ok (.bl true) st := wo
            simp only [x_bOr, x_bNot, x_bOf, x_call, x_aCons, x_aNil, x_var, fg2, Out.bind_ok, wo]
            by_cases a : (0 : Int) ≤ i
            · by_cases b : i ≤ 1
              · simp [betw, a, b]
              · simp [betw, a, b]
            · simp [betw, a]
          | _ =>
            first
              | (cases pw; done)
              | simp only [x_bOr, x_bNot, x_bOf, x_call, x_aCons, x_aNil, x_var, fg2, Out.bind_ok, wo, isI, Bool.not_false, if_true, betw])
        exact this)
      rw [List.map_id] at lc
      have rk : rowK n (.tup ws) = decide (((ws.filter fun w => !betw 0 1 w).length : Int) = 0) := by
        unfold rowK rowW itemsW
        rw [decide_eq_true q, Bool.and_true, Bool.eq_iff_iff, List.all_eq_true, decide_eq_true_eq]
        constructor
        · intro z
          have : ws.filter (fun w => !betw 0 1 w) = [] := List.filter_eq_nil_iff.mpr fun a ha => by rw [z a ha]; simp
          rw [this]; rfl
        · intro z a ha
          have : ws.filter (fun w => !betw 0 1 w) = [] := List.eq_nil_of_length_eq_zero (by omega)
          have := List.filter_eq_nil_iff.mp this a ha
          simpa using this
      simp only [x_ret, x_2, x_N, x_aCons, x_aNil, lc, Out.bind_ok, x_len_lst, x_c, x_eqI, rk, Out.stm_ok]
    · have qi : ¬ (ws.length : Int) = n := by omega
      have rk : rowK n (.tup ws) = false := by unfold rowK itemsW; rw [decide_eq_false q, Bool.and_false]
      rw [rk]
      simp only [x_seq, x_if, x_bOr, x_bNot, x_bOf, x_2, x_N, x_aCons, x_aNil, x_var, x_c, fg0, fg1, Out.bind_ok, it, ln, x_neI, decide_eq_false qi, x_ret, Bool.not_true, Bool.not_false, Bool.false_eq_true, if_false, if_true, Out.stm_ok]
  | dct ks ws =>
    cases ks with
    | nil => simp [rowK, rowW]
    | cons k ks =>
      cases k with
      | str x => simp [rowK, rowW]
      | _ => cases h1
  | _ => first | (cases h1; done) | simp [rowK, rowW]
end

end SL
namespace SL
open PySem PySem.Spec PyProof.Rows L2
/-! ## are_marks, due -/
/-- a walk that may return -/
theorem for_all37 {x : W} {all : List W} {g : TgF} {b : SSem} {f : SemI} {fr : Fr} {st st1 : Sto} (P : Nat → Fr → Sto → Prop) (O : SOut → Prop) (h : f fr st = .ok (x, all) st1) (h0 : P 0 fr st1) (hs : ∀ k fr st, P k fr st → srcOk x all st)
    (step : ∀ k fr st w, P k fr st → all[k]? = some w → ∃ fr1, g w fr st = some fr1 ∧ ((∃ fr2 st2, b fr1 st = .nx fr2 st2 ∧ P (k + 1) fr2 st2) ∨ (∃ u st2, b fr1 st = .rt u st2 ∧ O (.rt u st2)))) (hend : ∀ fr st, P all.length fr st → O (.nx fr st)) :
    O (sFor f g b fr st) := by
  have key : ∀ (n k : Nat) (fr : Fr) (st : Sto), k + n = all.length → P k fr st → O (forRun x all g b (all.drop k) fr st) := fun n => by
    induction n with
    | zero =>
      intro k fr st hk hq
      rw [List.drop_of_length_le (by omega), forRun, if_pos (hs k fr st hq)]
      rw [Nat.add_zero] at hk
      subst hk
      exact hend fr st hq
    | succ n ih =>
      intro k fr st hk hq
      have hl : k < all.length := by omega
      obtain ⟨fr1, e1, hb⟩ := step k fr st _ hq (List.getElem?_eq_getElem hl)
      rw [List.drop_eq_getElem_cons hl, forRun, if_pos (hs k fr st hq), e1]
      rcases hb with ⟨fr2, st2, e, hp⟩ | ⟨u, st2, e, ho⟩
      · simp only [e]
        exact ih (k + 1) fr2 st2 (by omega) hp
      · simp only [e]
        exact ho
  unfold sFor
  rw [h]
  exact key all.length 0 fr st1 (by omega) h0
section
variable [HW] {st : Sto}
abbrev entB (n : Nat) (e : W × W) : Bool := rowK n e.1 && mkB e.2
theorem isd_nE {n : Nat} {E : Ents} (hn : st[n]? = some (nE E)) : oIsiN [.cell n, .ty "dict"] st = .ok (.bl true) st := isiN_nct hn
theorem are_marks_ok {E : Ents} {kk : List NestedKey} (K : EOk E kk) (hl : E.length ≤ 100) {w n : Nat} (hn : st[n]? = some (nE E)) : F_are_marks [.cell n, .int (w : Int)] st = .ok (.bl (E.all (entB w))) st := by
  have hlt : n < st.length := (List.getElem?_eq_some_iff.mp hn).1
  have hL : (st.set n (nL E))[n]? = some (nL E) := List.getElem?_set_self hlt
  have isd := isd_nE hn
  -- one turn
  have turn : ∀ (e : W × W) (u : Option W), e ∈ E → (sIf (bOr (bNot (bOf (eCall F_is_row (aCons (eVar 2) (aNil))))) (bOr (bOf (e2 oNe (eN oLen (aCons (eVar 2) (aNil))) (eVar 1))) (bNot (bOf (eCall F_is_mark (aCons (e2 (oNGet HW.w) (eVar 0) (eVar 2)) (aNil))))))) (sRet (eC (.bl false))) (sNil)) [some (.cell n), some (.int (w : Int)), some e.1] (st.set n (nL E)) = if entB w e = true then .nx [some (.cell n), some (.int (w : Int)), some e.1] (st.set n (nL E)) else .rt (.bl false) (st.set n (nL E)) := fun e u he => by
    have kr := K.row e he
    have r1 := is_row_ok (st := st.set n (nL E)) kr
    have g := nget_ok (st := st.set n (nL E)) K (.inr hL) he
    have mk := mark_at (st := st.set n (nL E)) (K.val e he)
    unfold entB rowK
    cases hr : rowW e.1 with
    | false =>
      rw [hr] at r1
      simp only [x_if, x_bOr, x_bNot, x_bOf, x_call, x_aCons, x_aNil, x_var, fg2, Out.bind_ok, r1, Bool.not_false, if_true, Bool.false_and, Bool.false_eq_true, if_false, x_ret, x_c, Out.stm_ok]
    | true =>
      rw [hr] at r1
      obtain ⟨us, hu⟩ : ∃ us, e.1 = .tup us := by
        cases h : e.1 with
        | tup us => exact ⟨us, rfl⟩
        | _ => rw [h] at hr; cases hr
      have ol : oLen [e.1] (st.set n (nL E)) = .ok (.int (itemsW e.1).length) (st.set n (nL E)) := by rw [hu]; exact x_len_tup
      have kr := kr
      by_cases q : (itemsW e.1).length = w
      · have qi : ((itemsW e.1).length : Int) = w := by omega
        cases hm : mkB e.2 with
        | true =>
          rw [hm] at mk
          simp only [x_if, x_bOr, x_bNot, x_bOf, x_call, x_2, x_N, x_aCons, x_aNil, x_var, fg0, fg1, fg2, Out.bind_ok, r1, Bool.not_true, Bool.false_eq_true, if_false, ol, x_neI, qi, decide_true, g, mk, Out.stm_ok, x_nil, Bool.true_and, decide_eq_true q, if_true]
        | false =>
          rw [hm] at mk
          simp only [x_if, x_bOr, x_bNot, x_bOf, x_call, x_2, x_N, x_aCons, x_aNil, x_var, fg0, fg1, fg2, Out.bind_ok, r1, Bool.not_true, Bool.not_false, Bool.false_eq_true, if_false, ol, x_neI, qi, decide_true, g, mk, Out.stm_ok, x_nil, Bool.and_false, if_true, x_ret, x_c]
      · have qi : ¬ ((itemsW e.1).length : Int) = w := by omega
        simp only [x_if, x_bOr, x_bNot, x_bOf, x_call, x_2, x_N, x_aCons, x_aNil, x_var, fg0, fg1, fg2, Out.bind_ok, r1, Bool.not_true, Bool.not_false, Bool.false_eq_true, if_false, ol, x_neI, decide_eq_false qi, Out.stm_ok, x_nil, Bool.true_and, Bool.false_and, decide_eq_false q, if_true, x_ret, x_c]
  have loop : ∀ v2, (E.all (entB w) = true ∧ ∃ u, sFor (iKeysN 0) (gNm 2) (sIf (bOr (bNot (bOf (eCall F_is_row (aCons (eVar 2) (aNil))))) (bOr (bOf (e2 oNe (eN oLen (aCons (eVar 2) (aNil))) (eVar 1))) (bNot (bOf (eCall F_is_mark (aCons (e2 (oNGet HW.w) (eVar 0) (eVar 2)) (aNil))))))) (sRet (eC (.bl false))) (sNil)) [some (.cell n), some (.int (w : Int)), v2] (st.set n (nL E)) = .nx [some (.cell n), some (.int (w : Int)), u] (st.set n (nL E))) ∨ (E.all (entB w) = false ∧ sFor (iKeysN 0) (gNm 2) (sIf (bOr (bNot (bOf (eCall F_is_row (aCons (eVar 2) (aNil))))) (bOr (bOf (e2 oNe (eN oLen (aCons (eVar 2) (aNil))) (eVar 1))) (bNot (bOf (eCall F_is_mark (aCons (e2 (oNGet HW.w) (eVar 0) (eVar 2)) (aNil))))))) (sRet (eC (.bl false))) (sNil)) [some (.cell n), some (.int (w : Int)), v2] (st.set n (nL E)) = .rt (.bl false) (st.set n (nL E))) := fun v2 => by
    refine for_all37 (x := .non) (all := E.map (·.1)) (f := iKeysN 0) (g := gNm 2) (b := (sIf (bOr (bNot (bOf (eCall F_is_row (aCons (eVar 2) (aNil))))) (bOr (bOf (e2 oNe (eN oLen (aCons (eVar 2) (aNil))) (eVar 1))) (bNot (bOf (eCall F_is_mark (aCons (e2 (oNGet HW.w) (eVar 0) (eVar 2)) (aNil))))))) (sRet (eC (.bl false))) (sNil))) (fun k fr s => (∃ u, fr = [some (.cell n), some (.int (w : Int)), u]) ∧ s = st.set n (nL E) ∧ (E.take k).all (entB w) = true)
      (fun o => (E.all (entB w) = true ∧ ∃ u, o = .nx [some (.cell n), some (.int (w : Int)), u] (st.set n (nL E))) ∨ (E.all (entB w) = false ∧ o = .rt (.bl false) (st.set n (nL E)))) (keysN_at rfl hL (by omega)) ⟨⟨v2, rfl⟩, rfl, rfl⟩ (fun _ _ _ _ => trivial) ?_ ?_
    · rintro k fr s x ⟨⟨u, rfl⟩, rfl, ha⟩ hx
      rw [List.getElem?_map] at hx
      obtain ⟨e, he, rfl⟩ := Option.map_eq_some_iff.mp hx
      have t := turn e u (List.mem_of_getElem? he)
      refine ⟨[some (.cell n), some (.int (w : Int)), some e.1], rfl, ?_⟩
      cases hb : entB w e with
      | true =>
        rw [hb, if_pos rfl] at t
        refine .inl ⟨_, _, t, ⟨_, rfl⟩, rfl, ?_⟩
        rw [take_next he, List.all_append, ha]
        simp [hb]
      | false =>
        rw [hb, if_neg (by decide)] at t
        refine .inr ⟨_, _, t, .inr ⟨?_, rfl⟩⟩
        cases h : E.all (entB w) with
        | false => rfl
        | true =>
          have := List.all_eq_true.mp h e (List.mem_of_getElem? he)
          rw [hb] at this; cases this
    · rintro fr s ⟨⟨u, rfl⟩, rfl, ha⟩
      rw [List.length_map, List.take_length] at ha
      exact .inl ⟨ha, u, rfl⟩
  refine mk_rt (st1 := st) ?_ rfl
  show B_are_marks [some (.cell n), some (.int (w : Int)), none] st = _
  unfold B_are_marks
  refine if_no (st1 := st) (st2 := st) (by simp only [x_bNot, x_bOf, x_N, x_aCons, x_aNil, x_var, x_c, fg0, Out.bind_ok, isd, Bool.not_true]) rfl ?_
  rcases loop none with ⟨h1, u, h2⟩ | ⟨h1, h2⟩
  · rw [h1]
    refine seq_to (lockS_nx rfl hn h2) rfl
  · rw [h1]
    have z := lockS_rt (i := 0) (fr := [some (.cell n), some (.int (w : Int)), none]) rfl hn h2
    rw [x_seq, z]
end

end SL
namespace SL
open PySem PySem.Spec PyProof.Rows L2
/-! ## Reader -/
section
variable [HW] {st : Sto}
theorem val_fz (n : Nat) (f : Nat → Option W) : ∀ v ∈ gdV ++ odV, fz0 n f v = some v := by
  intro v hv
  simp only [gdV, odV, List.mem_append, List.mem_cons, List.not_mem_nil, or_false] at hv
  rcases hv with (rfl | rfl | rfl | rfl | rfl | rfl) | (rfl | rfl | rfl | rfl | rfl | rfl | rfl | rfl | rfl | rfl | rfl | rfl | rfl | rfl) <;> rfl
theorem vals_fz (n : Nat) (f : Nat → Option W) : ∀ l : List W, (∀ v ∈ l, v ∈ gdV ++ odV) → fz0s n f l = some l
  | [], _ => rfl
  | v :: l, h => by rw [fz0s, val_fz n f v (h v List.mem_cons_self), vals_fz n f l fun u hu => h u (List.mem_cons_of_mem _ hu)]
theorem old_nE {E : Ents} {kk : List NestedKey} (K : EOk E kk) (n : Nat) : oldW n (nE E) = true := by
  show (fz0s n (fun _ => none) (E.map (·.2))).isSome = true
  rw [vals_fz n _ _ fun v hv => by obtain ⟨e, he, rfl⟩ := List.mem_map.mp hv; exact K.val e he]; rfl
theorem nkWs_ints : ∀ l : List Int, nkWs (l.map W.int) = some (l.map NestedKey.num)
  | [] => rfl
  | i :: l => by rw [List.map_cons, nkWs, nkWs_ints l]; rfl
theorem dep_nums : ∀ l : List Int, NestedKey.depthAll (l.map .num) = 0
  | [] => rfl
  | i :: l => by
    show max (NestedKey.depth (.num i)) (NestedKey.depthAll (l.map .num)) = 0
    rw [dep_nums l]; rfl
theorem nkey_bits (r : List Int) : nkeyM (bits r) = some (.tup (r.map .num)) := by
  show nkey (.tup (r.map W.int)) = _
  have e : nkW (.tup (r.map W.int)) = some (.tup (r.map .num)) := by unfold nkW; rw [nkWs_ints]; rfl
  show (match nkW (.tup (r.map W.int)) with
    | some k => if k.depth ≤ 8 then some k else none
    | none => none) = _
  rw [e]
  show (if NestedKey.depthAll (r.map .num) + 1 ≤ 8 then _ else _) = _
  rw [dep_nums, if_pos (by decide)]
theorem ints_bits : ∀ {us : List W}, us.all (betw 0 1) = true → ∃ r : List Int, us = r.map W.int ∧ Bits r
  | [], _ => ⟨[], rfl, fun _ h => nomatch h⟩
  | u :: us, h => by
    rw [List.all_cons, Bool.and_eq_true] at h
    obtain ⟨r, rfl, hb⟩ := ints_bits h.2
    cases u with
    | int i =>
      have b := h.1
      rw [betw_int, Bool.and_eq_true, decide_eq_true_eq, decide_eq_true_eq] at b
      exact ⟨i :: r, rfl, fun n hn => by
        rcases List.mem_cons.mp hn with rfl | hn
        · omega
        · exact hb n hn⟩
    | _ => cases h.1
abbrev dE (d : Wc) : Ents := d.map fun p => (bits p.1, p.2)
theorem good_ents : ∀ {E : Ents} {w : Nat}, E.all (entB w) = true → (∀ e ∈ E, e.2 ∈ gdV ++ odV) → ∃ d : Wc, E = dE d ∧ (∀ p ∈ d, p.1.length = w ∧ Bits p.1) ∧ TxV d
  | [], _, _, _ => ⟨[], rfl, fun _ h => (nomatch h), fun _ h => nomatch h⟩
  | e :: E, w, h, hv => by
    rw [List.all_cons, Bool.and_eq_true] at h
    obtain ⟨d, rfl, h1, h2⟩ := good_ents h.2 fun x hx => hv x (List.mem_cons_of_mem _ hx)
    obtain ⟨k, v⟩ := e
    obtain ⟨a, b⟩ := Bool.and_eq_true_iff.mp h.1
    obtain ⟨c, g⟩ := Bool.and_eq_true_iff.mp (show (rowW k && decide ((itemsW k).length = w)) = true from a)
    have b : mkB v = true := b
    obtain ⟨r, rfl, hb⟩ : ∃ r : List Int, k = bits r ∧ Bits r := by
      cases k with
      | tup us =>
        obtain ⟨r, rfl, hb⟩ := ints_bits c
        exact ⟨r, rfl, hb⟩
      | _ => cases c
    have rl : r.length = w := by
      have := of_decide_eq_true g
      rw [← this]
      show r.length = (r.map W.int).length
      rw [List.length_map]
    obtain ⟨z, rfl⟩ : ∃ z, v = .str z := by
      cases v with
      | str z => exact ⟨z, rfl⟩
      | _ => cases b
    exact ⟨(r, .str z) :: d, rfl, fun p hp => by
      rcases List.mem_cons.mp hp with rfl | hp
      · exact ⟨rl, hb⟩
      · exact h1 p hp, fun p hp => by
      rcases List.mem_cons.mp hp with rfl | hp
      · exact ⟨z, rfl⟩
      · exact h2 p hp⟩
theorem dE_keys : ∀ d : Wc, mapO nkeyM ((dE d).map (·.1)) = some (d.map fun p => .tup (p.1.map .num))
  | [] => rfl
  | p :: d => mapO_mk (nkey_bits p.1) (dE_keys d)
theorem dE_nd {d : Wc} {kk : List NestedKey} (K : EOk (dE d) kk) : (d.map (·.1)).Nodup := by
  have e := K.keys
  rw [dE_keys d] at e
  have e := Option.some.inj e
  have nd := K.nd
  rw [← e] at nd
  rw [show (d.map fun p : List Int × W => NestedKey.tup (p.1.map .num)) = (d.map (·.1)).map fun r => NestedKey.tup (r.map .num) by rw [List.map_map]; rfl] at nd
  have nd := List.nodup_iff_pairwise_ne.mp nd
  rw [List.pairwise_map] at nd
  exact List.nodup_iff_pairwise_ne.mpr (nd.imp fun h e => h (by rw [e]))
theorem betwr_ok {w : W} (h : plainW w = true) : F_is_between_readers [w, .int 1, .int 6] st = .ok (.bl (betw 1 6 w)) st := by
  refine mk_rt (st1 := st) ?_ rfl
  show B_is_between_readers [some w, some (.int 1), some (.int 6)] st = _
  unfold B_is_between_readers
  cases w with
  | int i =>
    by_cases a : (1 : Int) ≤ i
    · by_cases b : i ≤ 6 <;> simp [betw, a, b]
    · simp [betw, a]
  | dct ks ws =>
    cases ks with
    | nil => simp [betw]
    | cons k ks =>
      cases k with
      | str x => simp [betw]
      | _ => cases h
  | _ => first | (cases h; done) | simp [betw]
def bdEr (p : Str) : Exc := ⟨"BadReader", ["part"], [.str p]⟩
theorem init_w {k : Nat} {w m : W} (h : plainW w = true) (b : betw 1 6 w = false) : F_Reader___init__ [.cell k, w, m] st = .err (bdEr "width") st := by
  have bt := betwr_ok (st := st) h
  rw [b] at bt
  have hm : B_Reader___init__ [some (.cell k), some w, some m, none] st = .er (bdEr "width") [some (.cell k), some w, some m, none] st := by
    unfold B_Reader___init__
    simp only [x_seq, x_if, x_bNot, x_bOf, x_call, x_aCons, x_aNil, x_var, x_c, fg1, Out.bind_ok, bt, Bool.not_false, Out.stm_ok, if_true, sRaise]
    rfl
  show (match B_Reader___init__ [some (.cell k), some w, some m, none] st with | .nx _ st1 => Out.ok W.non st1 | .rt w st1 => .ok w st1 | .er x _ st1 => .err x st1 | _ => .bad) = _
  rw [hm]
theorem init_m {k : Nat} {w m : W} (h : plainW w = true) (b : betw 1 6 w = true) (am : F_are_marks [m, w] st = .ok (.bl false) st) : F_Reader___init__ [.cell k, w, m] st = .err (bdEr "marks") st := by
  have bt := betwr_ok (st := st) h
  rw [b] at bt
  have hm : B_Reader___init__ [some (.cell k), some w, some m, none] st = .er (bdEr "marks") [some (.cell k), some w, some m, none] st := by
    unfold B_Reader___init__
    simp only [x_seq, x_if, x_bNot, x_bOf, x_call, x_aCons, x_aNil, x_var, x_c, fg1, fg2, Out.bind_ok, bt, am, Bool.not_false, Bool.not_true, Bool.false_eq_true, if_false, Out.stm_ok, if_true, sRaise, x_nil]
    rfl
  show (match B_Reader___init__ [some (.cell k), some w, some m, none] st with | .nx _ st1 => Out.ok W.non st1 | .rt w st1 => .ok w st1 | .er x _ st1 => .err x st1 | _ => .bad) = _
  rw [hm]
theorem made_er {w m : W} {p : Str} (ho : st.all (oldW st.length) = true) (h : F_Reader___init__ [.cell st.length, w, m] (st ++ [.ins "Reader" [] []]) = .err (bdEr p) (st ++ [.ins "Reader" [] []])) : F_law_made [w, m] st = .ok (.str p) st := by
  have mk : eMake "Reader" F_Reader___init__ (aCons (eVar 0) (aCons (eVar 1) (aNil))) [some w, some m, none, none] st = .err (bdEr p) st := by
    unfold eMake eMakeG
    simp only [x_aCons, x_var, fg0, fg1, x_aNil, Out.bind_ok]
    have h : F_Reader___init__ (.cell st.length :: [w, m]) (st ++ [.ins "Reader" [] []]) = .err (bdEr p) (st ++ [.ins "Reader" [] []]) := h
    rw [h]
    show leaveX st.length (bdEr p) (st ++ [.ins "Reader" [] []]) = _
    unfold leaveX
    rw [if_neg (by simp)]
    have e : ∀ n f, fz0s n f (bdEr p).vs = some [.str p] := fun n f => rfl
    rw [e]
    simp only [List.take_left, ho, if_true]
    rfl
  refine mk_rt (st1 := st) ?_ rfl
  show B_law_made [some w, some m, none, none] st = _
  unfold B_law_made
  have t : exT "BadReader" "LabelError" = some true := by decide +kernel
  have t2 : isT "BadReader" "BadReader" = some true := by decide +kernel
  have e : (sSeq (sAsg (eFld ["Reader"] "width" (eMake "Reader" F_Reader___init__ (aCons (eVar 0) (aCons (eVar 1) (aNil))))) (gNm 2)) (sAsg (eC (.str "")) (gNm 2))) [some w, some m, none, none] st = .er (bdEr p) [some w, some m, none, none] st := by
    have : sAsg (eFld ["Reader"] "width" (eMake "Reader" F_Reader___init__ (aCons (eVar 0) (aCons (eVar 1) (aNil))))) (gNm 2) [some w, some m, none, none] st = .er (bdEr p) [some w, some m, none, none] st := by
      unfold sAsg eFld; rw [mk]; rfl
    rw [x_seq, this]
  have tr : (sTry exT (sSeq (sAsg (eFld ["Reader"] "width" (eMake "Reader" F_Reader___init__ (aCons (eVar 0) (aCons (eVar 1) (aNil))))) (gNm 2)) (sAsg (eC (.str "")) (gNm 2))) [⟨"LabelError", some 3, fun x => sSeq (sAsg (eC (.str "other")) (gNm 2)) (sIf (bOf (eIsX isT x "BadReader")) (sAsg (eXf x "BadReader" "part") (gNm 2)) (sNil))⟩]) [some w, some m, none, none] st = .nx [some w, some m, some (.str p), none] st := by
    unfold sTry
    rw [e]
    simp [bdEr, hRun, t, t2, slOk, clrF, SOut.clr, eXf, eIsX, lkp]
  refine seq_to tr ?_
  simp only [x_ret, x_var, fg2, Out.stm_ok]
end

end SL
namespace SL
open PySem PySem.Spec PyProof.Rows L2
/-! ## a Reader that is made -/
section
variable [HW] {st : Sto}
theorem dcT_ok {d : Wc} {kk : List NestedKey} (K : EOk (dE d) kk) (hl : d.length ≤ 100) {w : Nat} (w1 : 1 ≤ w) (hr : ∀ p ∈ d, p.1.length = w ∧ Bits p.1) {n : Nat} {fr : Fr} {a b : Option W} (hf : fr = [a, b, some (.cell n), none]) (hn : st[n]? = some (nE (dE d))) :
    (eDcT (iSeq (eN oSortT (aCons (eLockN 2 (eLc (iKeysN 2) (gNm 3) [3] (tTrue) (eVar 3))) (aNil)))) (gNm 3) [3] tTrue (eVar 3) (e2 (oNGet HW.w) (eVar 2) (eVar 3))) fr st = .ok (.cell st.length) (st ++ [wC (srtW d)]) := by
  subst hf
  have hlt : n < st.length := (List.getElem?_eq_some_iff.mp hn).1
  have nd := dE_nd K
  have lc : eLockN 2 (eLc (iKeysN 2) (gNm 3) [3] (tTrue) (eVar 3)) [a, b, some (.cell n), none] st = .ok (.lst ((d.map (·.1)).map bits)) st := by
    refine lockE_at rfl hn ?_
    refine x_lc (x := .non) (all := (dE d).map (·.1)) (keysN_at rfl (List.getElem?_set_self hlt) (by rw [List.length_map]; omega)) ?_
    rw [List.map_map, List.map_map]
    exact lc_mp (x := .non) trivial d fun p hp => ⟨[a, b, some (.cell n), some (bits p.1)], rfl, rfl, rfl⟩
  have so := sortT_bits (L := d.map (·.1)) w1 (fun l hl => by
    obtain ⟨p, hp, rfl⟩ := List.mem_map.mp hl
    exact hr p hp) (st := st)
  have pm : (sortT (d.map (·.1))).Perm (d.map (·.1)) := List.mergeSort_perm _ _
  have run := dc_mp (x := .lst ((sortT (d.map (·.1))).map bits)) (all := (sortT (d.map (·.1))).map bits) (g := gNm 3) (t := tTrue) (ek := eVar 3) (ev := e2 (oNGet HW.w) (eVar 2) (eVar 3)) (fr := [a, b, some (.cell n), none]) (h := bits) (kf := bits) (vf := fun r => (wget d r).getD .non) (st := st) (src_free (by intro k e; cases e)) (sortT (d.map (·.1))) (fun r hr => by
    obtain ⟨p, hp, rfl⟩ := List.mem_map.mp (pm.mem_iff.mp hr)
    have g := wget_mem nd hp
    have ng := nget_ok (st := st) K (.inl hn) (e := (bits p.1, p.2)) (List.mem_map.mpr ⟨p, hp, rfl⟩)
    have ng : oNGet HW.w (.cell n) (bits p.1) st = .ok p.2 st := ng
    refine ⟨[a, b, some (.cell n), some (bits p.1)], rfl, rfl, rfl, ?_⟩
    rw [g]
    simp only [x_2, x_var, fg2, fg3, Out.bind_ok, ng]
    rfl)
  have e := x_dcT (f := iSeq (eN oSortT (aCons (eLockN 2 (eLc (iKeysN 2) (gNm 3) [3] (tTrue) (eVar 3))) (aNil)))) (own := [3]) (fr := [a, b, some (.cell n), none]) (st := st) (st1 := st) (x := .lst ((sortT (d.map (·.1))).map bits)) (all := (sortT (d.map (·.1))).map bits) (by simp only [x_iSeq, x_N, x_aCons, lc, x_aNil, Out.bind_ok, so, x_it_lst]) run (kk := (sortT (d.map (·.1))).map keyI) ?_ ?_
  · rw [e, List.map_map, List.map_map]
    unfold wC srtW
    rw [List.map_map, List.map_map]
    rfl
  · rw [List.map_map]
    have := mapO_W (srtW d)
    unfold srtW at this
    rw [List.map_map, List.map_map] at this
    exact this
  · have nd : (sortT (d.map (·.1))).Nodup := pm.nodup_iff.mpr nd
    rw [List.nodup_iff_pairwise_ne] at nd ⊢
    rw [List.pairwise_map]
    exact nd.imp fun hne e => hne (keyI_eq.mp e)
theorem srt_tx37 {d : Wc} (h : TxV d) (nd : (d.map (·.1)).Nodup) : TxV (srtW d) := fun p hp => by
  have pm : (sortT (d.map (·.1))).Perm (d.map (·.1)) := List.mergeSort_perm _ _
  unfold srtW at hp
  obtain ⟨r, hr, rfl⟩ := List.mem_map.mp hp
  obtain ⟨q, hq, rfl⟩ := List.mem_map.mp (pm.mem_iff.mp hr)
  rw [wget_mem nd hq]
  exact h q hq
theorem reader_mk {E : Ents} {kk : List NestedKey} (K : EOk E kk) (hl : E.length ≤ 100) {w n : Nat} (w1 : 1 ≤ w) (w6 : w ≤ 6) (hn : st[n]? = some (nE E)) (good : E.all (entB w) = true) (ho : ∀ m, st.all (oldW m) = true) {f : SemL} {fr : Fr} (hf : f fr st = .ok [.int (w : Int), .cell n] st) :
    ∃ D, eMake "Reader" F_Reader___init__ f fr st = .ok (rdr w D) st := by
  obtain ⟨d, rfl, hr, tx⟩ := good_ents good K.val
  have hld : d.length ≤ 100 := by rw [List.length_map] at hl; exact hl
  have hlt : n < st.length := (List.getElem?_eq_some_iff.mp hn).1
  have hN : ∀ r : Sto, (st ++ r)[n]? = some (nE (dE d)) := fun r => by rw [List.getElem?_append_left hlt]; exact hn
  have nd := dE_nd K
  have am := are_marks_ok (st := st ++ [.ins "Reader" [] []]) K hl (w := w) (hN _)
  rw [good] at am
  have bt := betwr_ok (w := .int (w : Int)) (st := st ++ [.ins "Reader" [] []]) rfl
  have bb : betw 1 6 (.int (w : Int)) = true := by rw [betw_int, decide_eq_true (by omega), decide_eq_true (by omega)]; rfl
  rw [bb] at bt
  have tx2 := srt_tx37 tx nd
  refine ⟨srtW d, ?_⟩
  have main : ∃ fr, B_Reader___init__ [some (.cell st.length), some (.int (w : Int)), some (.cell n), none] (st ++ [.ins "Reader" [] []]) = .nx fr (st ++ [.ins "Reader" rdNs [.int (w : Int), .cell (st.length + 1)], wC (srtW d)]) := by
    unfold B_Reader___init__
    refine ⟨[some (.cell st.length), some (.int (w : Int)), some (.cell n), none], ?_⟩
    refine if_no (st1 := st ++ [.ins "Reader" [] []]) (st2 := st ++ [.ins "Reader" [] []]) (by simp only [x_bNot, x_bOf, x_call, x_aCons, x_aNil, x_var, x_c, fg1, Out.bind_ok, bt, Bool.not_true]) rfl ?_
    refine if_no (st1 := st ++ [.ins "Reader" [] []]) (st2 := st ++ [.ins "Reader" [] []]) (by simp only [x_bNot, x_bOf, x_call, x_aCons, x_aNil, x_var, x_c, fg1, fg2, Out.bind_ok, am, Bool.not_true]) rfl ?_
    have s1 : sFldS ["Reader"] "width" (eVar 1) (eVar 0) [some (.cell st.length), some (.int (w : Int)), some (.cell n), none] (st ++ [.ins "Reader" [] []]) = .nx [some (.cell st.length), some (.int (w : Int)), some (.cell n), none] (st ++ [.ins "Reader" ["width"] [.int (w : Int)]]) := by
      unfold sFldS
      simp only [x_var, fg0, fg1, Out.stm_ok, at_end]
      rw [if_pos ⟨rfl, by decide⟩, set_end]; rfl
    refine seq_to s1 ?_
    have dc := dcT_ok (st := st ++ [.ins "Reader" ["width"] [.int (w : Int)]]) K hld w1 hr (fr := [some (.cell st.length), some (.int (w : Int)), some (.cell n), none]) (a := some (.cell st.length)) (b := some (.int (w : Int))) rfl (hN _)
    have l1 : (st ++ [Cel.ins "Reader" ["width"] [.int (w : Int)]]).length = st.length + 1 := by rw [List.length_append]; rfl
    rw [l1, List.append_assoc] at dc
    unfold sFldS
    rw [dc, Out.stm_ok]
    simp only [x_var, fg0, Out.stm_ok, List.singleton_append, at_end]
    rw [if_pos ⟨rfl, by decide⟩]
    simp
    exact ⟨rfl, rfl⟩
  obtain ⟨fr', hm⟩ := main
  unfold eMake eMakeG
  rw [hf, Out.bind_ok]
  have hi' : F_Reader___init__ (.cell st.length :: [.int (w : Int), .cell n]) (st ++ [.ins "Reader" [] []]) = .ok .non (st ++ [.ins "Reader" rdNs [.int (w : Int), .cell (st.length + 1)], wC (srtW d)]) := by
    show (match B_Reader___init__ [some (.cell st.length), some (.int (w : Int)), some (.cell n), none] (st ++ [.ins "Reader" [] []]) with | .nx _ st1 => Out.ok W.non st1 | .rt w st1 => .ok w st1 | .er x _ st1 => .err x st1 | _ => .bad) = _
    rw [hm]
  rw [hi']
  have ho := ho st.length
  revert tx2
  generalize srtW d = D
  intro tx
  obtain ⟨J, hJ⟩ : ∃ J : Cel, J = .ins "Reader" rdNs [.int (w : Int), .cell (st.length + 1)] := ⟨_, rfl⟩
  rw [← hJ]
  show leave st.length (.cell st.length) (st ++ [J, wC D]) = _
  unfold leave
  rw [if_neg (by simp)]
  have e : fz0 st.length (fzc st.length (st ++ [J, wC D]) ((st ++ [J, wC D]).length + 1)) (.cell st.length) = some (rdr w D) := by
    have hl : (st ++ [J, wC D]).length = st.length + 2 := by rw [List.length_append]; rfl
    rw [hl]
    unfold fz0
    rw [if_neg (Nat.lt_irrefl _)]
    have c1 : ∀ m, fzc st.length (st ++ [J, wC D]) (m + 1) (st.length + 1) = some (kndW D) := fun m => by
      unfold fzc; simp only [at_end1]
      show (fz0s st.length _ (D.map fun p : List Int × W => p.2)).map (W.dct (.ty "T" :: D.map fun p => bits p.1)) = _
      rw [fz_tx tx]; rfl
    rw [show st.length + 2 + 1 = (st.length + 1 + 1) + 1 by omega]
    unfold fzc
    simp only [at_end, hJ]
    rw [hJ] at c1
    have c2 := c1 st.length
    simp only [fz0s, fz0, if_neg (show ¬ st.length + 1 < st.length by omega), c1]
    rfl
  rw [e]
  simp only [List.take_left, ho, if_true]
theorem made_ok {E : Ents} {kk : List NestedKey} (K : EOk E kk) (hl : E.length ≤ 100) {w n : Nat} (w1 : 1 ≤ w) (w6 : w ≤ 6) (hn : st[n]? = some (nE E)) (good : E.all (entB w) = true) (ho : ∀ m, st.all (oldW m) = true) : F_law_made [.int (w : Int), .cell n] st = .ok (.str "") st := by
  obtain ⟨D, mk⟩ := reader_mk K hl w1 w6 hn good ho (f := aCons (eVar 0) (aCons (eVar 1) (aNil))) (fr := [some (.int (w : Int)), some (.cell n), none, none]) (by simp only [x_aCons, x_var, fg0, fg1, x_aNil, Out.bind_ok])
  refine mk_rt (st1 := st) ?_ rfl
  show B_law_made [some (.int (w : Int)), some (.cell n), none, none] st = _
  unfold B_law_made
  have e : (sSeq (sAsg (eFld ["Reader"] "width" (eMake "Reader" F_Reader___init__ (aCons (eVar 0) (aCons (eVar 1) (aNil))))) (gNm 2)) (sAsg (eC (.str "")) (gNm 2))) [some (.int (w : Int)), some (.cell n), none, none] st = .nx [some (.int (w : Int)), some (.cell n), some (.str ""), none] st := by
    refine asg_to (w := .int (w : Int)) (st1 := st) (by unfold eFld; rw [mk]; rfl) ?_
    rfl
  have tr : (sTry exT (sSeq (sAsg (eFld ["Reader"] "width" (eMake "Reader" F_Reader___init__ (aCons (eVar 0) (aCons (eVar 1) (aNil))))) (gNm 2)) (sAsg (eC (.str "")) (gNm 2))) [⟨"LabelError", some 3, fun x => sSeq (sAsg (eC (.str "other")) (gNm 2)) (sIf (bOf (eIsX isT x "BadReader")) (sAsg (eXf x "BadReader" "part") (gNm 2)) (sNil))⟩]) [some (.int (w : Int)), some (.cell n), none, none] st = .nx [some (.int (w : Int)), some (.cell n), some (.str ""), none] st := by
    unfold sTry
    rw [e]
  refine seq_to tr ?_
  simp only [x_ret, x_var, fg2, Out.stm_ok]
end

end SL
namespace SL
open PySem PySem.Spec PyProof.Rows L2
/-! ## what is due -/
section
variable [HW] {st : Sto}
theorem due_w {w m : W} (h : plainW w = true) (b : betw 1 6 w = false) : F_law_due [w, m] st = .ok (.str "width") st := by
  have wo := whole_ok (st := st) h
  refine mk_rt (st1 := st) ?_ rfl
  show B_law_due [some w, some m, none] st = _
  unfold B_law_due
  cases w with
  | int i =>
    have wo : F_law_whole [.int i] st = .ok (.bl true) st := wo
    by_cases a : (1 : Int) ≤ i
    · have c : ¬ i ≤ 6 := fun c => by rw [betw_int, decide_eq_true a, decide_eq_true c] at b; cases b
      simp only [x_seq, x_if, x_bOr, x_bNot, x_bOf, x_call, x_aCons, x_aNil, x_var, fg0, Out.bind_ok, wo]
      simp [a, c]
    · simp only [x_seq, x_if, x_bOr, x_bNot, x_bOf, x_call, x_aCons, x_aNil, x_var, fg0, Out.bind_ok, wo]
      simp [a]
  | _ =>
    first
      | (cases h; done)
      | (simp only [x_seq, x_if, x_bOr, x_bNot, x_bOf, x_call, x_aCons, x_aNil, x_var, fg0, Out.bind_ok, wo, isI, Bool.not_false, if_true, Out.stm_ok, x_ret, x_c])
theorem due_in {w : Nat} {m : W} (w1 : 1 ≤ w) (w6 : w ≤ 6) {o : SOut} (h : (sSeq (sIf (bNot (bOf (eN oIsiN (aCons (eVar 1) (aCons (eC (.ty "dict")) (aNil)))))) (sRet (eC (.str "marks"))) (sNil)) (sSeq (sIf (bOf (e2 oGt (eN oLen (aCons (eLockN 1 (eLc (iKeysN 1) (gNm 2) [2] (bOr (bNot (bOf (eCall F_law_is_row (aCons (eVar 2) (aCons (eVar 0) (aNil)))))) (bNot (bOf (eCall F_law_is_mark (aCons (e2 (oNGet HW.w) (eVar 1) (eVar 2)) (aNil)))))) (eVar 2))) (aNil))) (eC (.int 0)))) (sRet (eC (.str "marks"))) (sNil)) (sRet (eC (.str ""))))) [some (.int (w : Int)), some m, none] st = o) : B_law_due [some (.int (w : Int)), some m, none] st = o := by
  have wo : F_law_whole [.int (w : Int)] st = .ok (.bl true) st := whole_ok rfl
  unfold B_law_due
  refine if_no (st1 := st) (st2 := st) ?_ rfl h
  have a : (1 : Int) ≤ (w : Int) := by omega
  have b : (w : Int) ≤ 6 := by omega
  simp only [x_bOr, x_bNot, x_bOf, x_call, x_aCons, x_aNil, x_var, fg0, Out.bind_ok, wo]
  simp [a, b]
theorem due_o {w : Nat} {m : W} (w1 : 1 ≤ w) (w6 : w ≤ 6) (hm : oIsiN [m, .ty "dict"] st = .ok (.bl false) st) : F_law_due [.int (w : Int), m] st = .ok (.str "marks") st := by
  refine mk_rt (st1 := st) (due_in w1 w6 ?_) rfl
  simp only [x_seq, x_if, x_bNot, x_bOf, x_N, x_aCons, x_aNil, x_var, fg1, x_c, Out.bind_ok, hm, Bool.not_false, if_true, Out.stm_ok, x_ret]
theorem due_c {E : Ents} {kk : List NestedKey} (K : EOk E kk) (hl : E.length ≤ 100) {w n : Nat} (w1 : 1 ≤ w) (w6 : w ≤ 6) (hn : st[n]? = some (nE E)) : F_law_due [.int (w : Int), .cell n] st = .ok (.str (if E.all (entB w) = true then "" else "marks")) st := by
  have hlt : n < st.length := (List.getElem?_eq_some_iff.mp hn).1
  have hL : (st.set n (nL E))[n]? = some (nL E) := List.getElem?_set_self hlt
  have isd := isd_nE hn
  have lc : eLockN 1 (eLc (iKeysN 1) (gNm 2) [2] (bOr (bNot (bOf (eCall F_law_is_row (aCons (eVar 2) (aCons (eVar 0) (aNil)))))) (bNot (bOf (eCall F_law_is_mark (aCons (e2 (oNGet HW.w) (eVar 1) (eVar 2)) (aNil)))))) (eVar 2)) [some (.int (w : Int)), some (.cell n), none] st = .ok (.lst ((E.filter fun e => !entB w e).map (·.1))) st := by
    refine lockE_at rfl hn ?_
    refine x_lc (x := .non) (all := E.map (·.1)) (keysN_at rfl hL (by omega)) ?_
    refine lc_fm (h := fun e : W × W => e.1) (p := fun e => !entB w e) (f := fun e => e.1) (show srcOk .non (E.map (·.1)) _ from trivial) E fun e he => ?_
    have r1 := lrow_ok (st := st.set n (nL E)) (n := w) (K.row e he)
    have g := nget_ok (st := st.set n (nL E)) K (.inr hL) he
    have mk := lmark_at (st := st.set n (nL E)) (K.val e he)
    refine ⟨[some (.int (w : Int)), some (.cell n), some e.1], rfl, ?_, fun _ => rfl⟩
    unfold entB
    cases hr : rowK w e.1 with
    | false =>
      rw [hr] at r1
      simp only [x_bOr, x_bNot, x_bOf, x_call, x_aCons, x_aNil, x_var, fg0, fg2, Out.bind_ok, r1, Bool.not_false, if_true, Bool.false_and]
    | true =>
      rw [hr] at r1
      simp only [x_bOr, x_bNot, x_bOf, x_call, x_2, x_aCons, x_aNil, x_var, fg0, fg1, fg2, Out.bind_ok, r1, Bool.not_true, Bool.false_eq_true, if_false, g, mk, Bool.true_and]
  refine mk_rt (st1 := st) (due_in w1 w6 ?_) rfl
  refine if_no (st1 := st) (st2 := st) (by simp only [x_bNot, x_bOf, x_N, x_aCons, x_aNil, x_var, fg1, x_c, Out.bind_ok, isd, Bool.not_true]) rfl ?_
  cases hg : E.all (entB w) with
  | true =>
    have e0 : E.filter (fun e => !entB w e) = [] := List.filter_eq_nil_iff.mpr fun e he => by rw [List.all_eq_true.mp hg e he]; simp
    rw [e0] at lc
    refine if_no (st1 := st) (st2 := st) (by simp only [x_bOf, x_2, x_N, x_aCons, lc, x_aNil, Out.bind_ok, x_len_lst, x_c, x_gt]; rfl) rfl ?_
    simp only [x_ret, x_c, Out.stm_ok]
    rfl
  | false =>
    have e0 : 0 < (E.filter fun e => !entB w e).length := by
      rcases Nat.eq_zero_or_pos (E.filter fun e => !entB w e).length with z | z
      · have z := List.eq_nil_of_length_eq_zero z
        have : E.all (entB w) = true := List.all_eq_true.mpr fun e he => by
          have := List.filter_eq_nil_iff.mp z e he
          simpa using this
        rw [hg] at this; cases this
      · exact z
    have gt : decide ((((E.filter fun e => !entB w e).length : Nat) : Int) > 0) = true := decide_eq_true (by omega)
    have gt2 : oGt (.int (((E.filter fun e => !entB w e).map (·.1)).length : Nat)) (.int 0) st = .ok (.bl true) st := by
      rw [List.length_map]
      show oGt _ _ st = _
      rw [x_gt]
      rw [show decide ((0 : Int) < (((E.filter fun e => !entB w e).length : Nat) : Int)) = true from decide_eq_true (by omega)]
    simp only [x_seq, x_if, x_bOf, x_2, x_N, x_aCons, lc, x_aNil, Out.bind_ok, x_len_lst, x_c, gt2, Out.stm_ok, if_true, x_ret]
    rfl
theorem are_oth {w : Int} {m : W} (hm : oIsiN [m, .ty "dict"] st = .ok (.bl false) st) : F_are_marks [m, .int w] st = .ok (.bl false) st := by
  refine mk_rt (st1 := st) ?_ rfl
  show B_are_marks [some m, some (.int w), none] st = _
  unfold B_are_marks
  simp only [x_seq, x_if, x_bNot, x_bOf, x_N, x_aCons, x_aNil, x_var, fg0, x_c, Out.bind_ok, hm, Bool.not_false, if_true, Out.stm_ok, x_ret]
theorem both37 {w2 m : W} (hw : plainW w2 = true) (hm : (∃ E kk n, EOk E kk ∧ E.length ≤ 100 ∧ m = .cell n ∧ st[n]? = some (nE E)) ∨ ∀ S, oIsiN [m, .ty "dict"] S = .ok (.bl false) S) (ho : ∀ m, st.all (oldW m) = true) : ∃ a : Str, PyData.strOk a = true ∧ F_law_made [w2, m] st = .ok (.str a) st ∧ F_law_due [w2, m] st = .ok (.str a) st := by
  cases hb : betw 1 6 w2 with
  | false => exact ⟨"width", by decide +kernel, made_er (ho _) (init_w hw hb), due_w hw hb⟩
  | true =>
    obtain ⟨w, rfl, w1, w6⟩ : ∃ w : Nat, w2 = .int (w : Int) ∧ 1 ≤ w ∧ w ≤ 6 := by
      cases w2 with
      | int i =>
        rw [betw_int, Bool.and_eq_true, decide_eq_true_eq, decide_eq_true_eq] at hb
        exact ⟨i.toNat, by congr 1; omega, by omega, by omega⟩
      | _ => cases hb
    rcases hm with ⟨E, kk, n, K, hl, rfl, hn⟩ | hm
    · have hlt : n < st.length := (List.getElem?_eq_some_iff.mp hn).1
      have dc := due_c K hl w1 w6 hn
      cases hg : E.all (entB w) with
      | true =>
        rw [hg] at dc
        exact ⟨"", by decide +kernel, made_ok K hl w1 w6 hn hg ho, dc⟩
      | false =>
        rw [hg] at dc
        have am := are_marks_ok (st := st ++ [.ins "Reader" [] []]) K hl (w := w) (n := n) (by rw [List.getElem?_append_left hlt]; exact hn)
        rw [hg] at am
        exact ⟨"marks", by decide +kernel, made_er (ho _) (init_m rfl hb am), dc⟩
    · exact ⟨"marks", by decide +kernel, made_er (ho _) (init_m rfl hb (are_oth (hm _))), due_o w1 w6 (hm _)⟩
end

end SL
namespace SL
open PySem PySem.Spec PyProof.Rows L2
/-! # the law -/
section
variable [HW] {st : Sto}
theorem mulX6 {w : Nat} {x : W} (h : w ≤ 6) : oMulX (.tup [x]) (.int (w : Nat)) st = .ok (.tup (List.replicate w x)) st := by
  show (if [x] = [] then Out.bad else if dec (-1000 ≤ ((w : Nat) : Int) ∧ ((w : Nat) : Int) ≤ 1000 ∧ [x].length ≤ 1000) = true then Out.ok (W.tup (List.replicate ((w : Nat) : Int).toNat [x]).flatten) st else .bad) = _
  rw [if_neg (by simp), if_pos (dec_mk ⟨by omega, by omega, by simp⟩), Int.toNat_natCast, flat_rep]
def ons (w : Nat) : List Int := List.replicate w 1
theorem ons_len (w : Nat) : (ons w).length = w := List.length_replicate
theorem rep_ons (w : Nat) : W.tup (List.replicate w (.int 1)) = bits (ons w) := by unfold bits ons; rw [List.map_replicate]
theorem cut_ons {w : Nat} (h : 1 ≤ w) : oSl (bits (ons w)) (some 1) none st = .ok (.tup (((ons w).drop 1).map W.int)) st := by
  have e : cutW ((ons w).map W.int) (some ((1 : Nat) : Int)) none = ((ons w).drop 1).map W.int := by
    rw [cut_from (by rw [List.length_map, ons_len]; exact h), List.map_drop]
  show Out.ok (W.tup (cutW ((ons w).map W.int) (some 1) none)) st = _
  have e : cutW ((ons w).map W.int) (some 1) none = ((ons w).drop 1).map W.int := e
  rw [e]
/-- keys of tuples -/
theorem nkWs_of : ∀ {us : List W}, (∀ u ∈ us, ∃ k, nkW u = some k ∧ k.depth ≤ 2) → ∃ ks, nkWs us = some ks ∧ NestedKey.depthAll ks ≤ 2
  | [], _ => ⟨[], rfl, Nat.zero_le _⟩
  | u :: us, h => by
    obtain ⟨k, h1, h2⟩ := h u List.mem_cons_self
    obtain ⟨ks, h3, h4⟩ := nkWs_of fun v hv => h v (List.mem_cons_of_mem _ hv)
    exact ⟨k :: ks, by rw [nkWs, h1, h3], Nat.max_le.mpr ⟨h2, h4⟩⟩
theorem nkey_tup {us : List W} (h : ∀ u ∈ us, ∃ k, nkW u = some k ∧ k.depth ≤ 2) : ∃ j, nkeyM (.tup us) = some j := by
  obtain ⟨ks, h1, h2⟩ := nkWs_of h
  have e : nkW (.tup us) = some (.tup ks) := by unfold nkW; rw [h1]; rfl
  refine ⟨.tup ks, ?_⟩
  show (match nkW (.tup us) with
    | some k => if k.depth ≤ 8 then some k else none
    | none => none) = _
  rw [e]
  show (if NestedKey.depthAll ks + 1 ≤ 8 then _ else _) = _
  rw [if_pos (by omega)]
theorem nk_int (i : Int) : ∃ k, nkW (.int i) = some k ∧ k.depth ≤ 2 := ⟨.num i, rfl, by simp [NestedKey.depth]⟩
theorem nk_snoc {r : List Int} {x : W} (h : ∃ k, nkW x = some k ∧ k.depth ≤ 2) : ∃ j, nkeyM (.tup (r.map W.int ++ [x])) = some j := nkey_tup fun u hu => by
  rcases List.mem_append.mp hu with hu | hu
  · obtain ⟨i, _, rfl⟩ := List.mem_map.mp hu
    exact nk_int i
  · rw [List.mem_singleton.mp hu]; exact h
theorem row_snoc {r : List Int} {x : W} (h : plainW x = true) : okRow (.tup (r.map W.int ++ [x])) = true := ok_tup (plain_snoc h)
def odK (w : Nat) : List W := [.tup ((ons w).map W.int ++ [.int 0]), .tup (((ons w).drop 1).map W.int), .tup (((ons w).drop 1).map W.int ++ [.int 2]), .tup (((ons w).drop 1).map W.int ++ [.int (-1)]), .str (Txt.mul "1" (w : Nat)), .non, .int 3, .tup (((ons w).drop 1).map W.int ++ [.str "1"]), .tup [bits (ons w)], .bl true, .tup (((ons w).drop 1).map W.int ++ [.tup [.int 1]]), .tup (((ons w).drop 1).map W.int ++ [.non])]
theorem odK_ok {w : Nat} : ∀ y ∈ odK w, okRow y = true ∧ ∃ j, nkeyM y = some j := by
  intro y hy
  simp only [odK, List.mem_cons, List.not_mem_nil, or_false] at hy
  rcases hy with rfl | rfl | rfl | rfl | rfl | rfl | rfl | rfl | rfl | rfl | rfl | rfl
  · exact ⟨row_snoc rfl, nk_snoc (nk_int 0)⟩
  · exact ⟨bits_ok _, _, nkey_bits _⟩
  · exact ⟨row_snoc rfl, nk_snoc (nk_int 2)⟩
  · exact ⟨row_snoc rfl, nk_snoc (nk_int (-1))⟩
  · exact ⟨rfl, _, rfl⟩
  · exact ⟨rfl, _, rfl⟩
  · exact ⟨rfl, _, rfl⟩
  · exact ⟨row_snoc rfl, nk_snoc ⟨_, rfl, by simp [NestedKey.depth]⟩⟩
  · refine ⟨rfl, nkey_tup fun u hu => ?_⟩
    rw [List.mem_singleton.mp hu]
    exact ⟨.tup ((ons w).map .num), by unfold bits nkW; rw [nkWs_ints]; rfl, by
      show NestedKey.depthAll ((ons w).map .num) + 1 ≤ 2
      rw [dep_nums]; decide⟩
  · exact ⟨rfl, _, rfl⟩
  · exact ⟨row_snoc rfl, nk_snoc ⟨.tup [.num 1], rfl, by simp [NestedKey.depth, NestedKey.depthAll]⟩⟩
  · exact ⟨row_snoc rfl, nk_snoc ⟨.none, rfl, by simp [NestedKey.depth]⟩⟩
def othV (w : Nat) : List W := [.non, .lst [], .tup [], .str "marks", .lst [.tup [bits (ons w), .str "a"]], .int 7]
theorem oth_ok {w : Nat} : ∀ m ∈ othV w, ∀ S, oIsiN [m, .ty "dict"] S = .ok (.bl false) S := by
  intro m hm S
  simp only [othV, List.mem_cons, List.not_mem_nil, or_false] at hm
  rcases hm with rfl | rfl | rfl | rfl | rfl | rfl <;> rfl
def widV (w : Nat) : List W := [.int 0, .int 7, .bl true, .non, .str "2", .lst [.int 2], .int (10 ^ 20), .int (-1), .int (w : Nat), .tup [.lst []], .dct [] []]
theorem wid_ok {w : Nat} : ∀ m ∈ widV w, plainW m = true := by
  intro m hm
  simp only [widV, List.mem_cons, List.not_mem_nil, or_false] at hm
  rcases hm with rfl | rfl | rfl | rfl | rfl | rfl | rfl | rfl | rfl | rfl | rfl <;> rfl
/-- bag and dict -/
theorem old2 {c : Cel} {E : Ents} {kk : List NestedKey} (hp : Bag c) (K : EOk E kk) (n : Nat) : List.all [c, nE E] (oldW n) = true := by
  simp [bag_old hp, old_nE K]
abbrev f37 (S : W) (w : Nat) (v2 m : W) (v5 v6 v7 v8 : Option W) : Fr := [some S, some (.cell 0), some v2, some (.lst [.str "a", .str "z", .str "0", .str "9", .str "start", .str "stop"]), some m, v5, v6, v7, v8, none]
theorem pick0 {c : Cel} {m : Int} {rest : Sto} (hp : Bag c) (h : 0 < m) (h2 : m ≤ 100) : ∃ q c', Bag c' ∧ 0 ≤ q ∧ q < m ∧ ∀ rest : Sto, F_law_pick [.cell 0, .int m] (c :: rest) = .ok (.int q) (c' :: rest) := by
  obtain ⟨q, c', p, a, b, e⟩ := pick_at (n := 0) (m := m) hp h (log_small h (by omega))
  exact ⟨q, c', p, a, b, fun rest => e (c :: rest) rfl⟩
theorem drawn37 {c : Cel} {S : W} {w : Nat} (hp : Bag c) (w6 : w ≤ 6) : ∃ c' E kk v5 v7, Bag c' ∧ EOk E kk ∧ E.length ≤ 6 ∧ (sFor (iRng rg1 (aCons (eCall F_law_pick (aCons (eVar 1) (aCons (eC (.int 6)) (aNil)))) (aNil))) (gNm 5) (sSeq (sAsg (eN oTuple (aCons (eLc (iRng rg1 (aCons (eVar 2) (aNil))) (gNm 9) [9] (tTrue) (eCall F_law_pick (aCons (eVar 1) (aCons (eC (.int 2)) (aNil))))) (aNil))) (gNm 7)) (sSub (uNct HW.w) (e2 oIx (eVar 3) (eCall F_law_pick (aCons (eVar 1) (aCons (eC (.int 6)) (aNil))))) (eVar 4) (eVar 7)))) (f37 S w (.int (w : Int)) (.cell 1) none none none none) [c, nE []] = .nx (f37 S w (.int (w : Int)) (.cell 1) v5 none v7 none) [c', nE E] := by
  obtain ⟨t, c1, p1, t0, t6, e1⟩ := pick0 (rest := []) (m := 6) hp (by decide) (by decide)
  obtain ⟨k, rfl⟩ : ∃ k : Nat, t = (k : Int) := ⟨t.toNat, by omega⟩
  have it : (iRng rg1 (aCons (eCall F_law_pick (aCons (eVar 1) (aCons (eC (.int 6)) (aNil)))) (aNil))) (f37 S w (.int (w : Int)) (.cell 1) none none none none) [c, nE []] = .ok (.non, rngW 0 1 k) [c1, nE []] := by
    have := x_rng1 (l := aCons (eCall F_law_pick (aCons (eVar 1) (aCons (eC (.int 6)) (aNil)))) (aNil)) (fr := f37 S w (.int (w : Int)) (.cell 1) none none none none) (st := [c, nE []]) (st1 := [c1, nE []]) (j := (k : Int)) (by simp only [x_aCons, x_call, x_var, fg1, x_c, x_aNil, Out.bind_ok, e1]) (by omega) (by omega)
    rw [Int.toNat_natCast] at this
    exact this
  have rl : (rngW 0 1 k).length = k := by unfold rngW; simp
  obtain ⟨fr', st', ef, v5, v7, c', E, kk, rfl, rfl, p', K, hl⟩ := x_for it (g := gNm 5) (b := (sSeq (sAsg (eN oTuple (aCons (eLc (iRng rg1 (aCons (eVar 2) (aNil))) (gNm 9) [9] (tTrue) (eCall F_law_pick (aCons (eVar 1) (aCons (eC (.int 2)) (aNil))))) (aNil))) (gNm 7)) (sSub (uNct HW.w) (e2 oIx (eVar 3) (eCall F_law_pick (aCons (eVar 1) (aCons (eC (.int 6)) (aNil))))) (eVar 4) (eVar 7)))) (fun i fr s => ∃ v5 v7 c E kk, fr = f37 S w (.int (w : Int)) (.cell 1) v5 none v7 none ∧ s = [c, nE E] ∧ Bag c ∧ EOk E kk ∧ E.length ≤ i)
    ⟨none, none, c1, [], [], rfl, rfl, p1, ⟨rfl, List.nodup_nil, fun _ h => (nomatch h), fun _ h => nomatch h⟩, Nat.le_refl _⟩ (fun _ _ _ _ => trivial) (by
      rintro i fr s u ⟨v5, v7, c, E, kk, rfl, rfl, hc, K, hl⟩ hu
      have ik : i < k := by
        have := (List.getElem?_eq_some_iff.mp hu).1
        rw [rl] at this; exact this
      obtain ⟨ys, s2, e2', ⟨c2, rfl, p2⟩, bb⟩ := lc_inv (x := .non) (all := rngW 0 1 w) (g := gNm 9) (t := tTrue) (e := (eCall F_law_pick (aCons (eVar 1) (aCons (eC (.int 2)) (aNil))))) (fr := wipeF (f37 S w (.int (w : Int)) (.cell 1) (some u) none v7 none) [9]) (fun s => ∃ c, s = [c, nE E] ∧ Bag c) (fun (_ : W) y => ∃ b : Int, y = .int b ∧ (b = 0 ∨ b = 1)) (fun _ _ => trivial) (rngW 0 1 w) [c, nE E] ⟨c, rfl, hc⟩ (by
        rintro x _ s ⟨c, rfl, hc⟩
        obtain ⟨q, c', p, a, b, e⟩ := pick0 (rest := []) (m := 2) hc (by decide) (by decide)
        refine ⟨[some S, some (.cell 0), some (.int (w : Int)), some (.lst [.str "a", .str "z", .str "0", .str "9", .str "start", .str "stop"]), some (.cell 1), some u, none, v7, none, some x], .int q, [c', nE E], rfl, rfl, ?_, ⟨c', rfl, p⟩, q, rfl, by omega⟩
        simp only [x_call, x_aCons, x_var, fg1, x_c, x_aNil, Out.bind_ok, e])
      obtain ⟨r, rfl, hb, rl2⟩ : ∃ r : List Int, ys = r.map W.int ∧ Bits r ∧ r.length = w := by
        have key : ∀ {l ys : List W}, Both (fun (_ : W) y => ∃ b : Int, y = .int b ∧ (b = 0 ∨ b = 1)) l ys → ∃ r : List Int, ys = r.map W.int ∧ Bits r ∧ r.length = l.length := by
          intro l ys h
          induction h with
          | nil => exact ⟨[], rfl, (fun _ h => nomatch h), rfl⟩
          | cons h _ ih =>
            obtain ⟨b, rfl, hb⟩ := h
            obtain ⟨r, rfl, h1, h2⟩ := ih
            exact ⟨b :: r, rfl, fun n hn => by
              rcases List.mem_cons.mp hn with rfl | hn
              · exact hb
              · exact h1 n hn, by rw [List.length_cons, List.length_cons, h2]⟩
        obtain ⟨r, a, b, c⟩ := key bb
        refine ⟨r, a, b, ?_⟩
        rw [c]; unfold rngW; simp
      have lc := x_lc (own := [9]) (fr := f37 S w (.int (w : Int)) (.cell 1) (some u) none v7 none) (st := [c, nE E]) (st1 := [c, nE E]) (f := iRng rg1 (aCons (eVar 2) (aNil))) (g := gNm 9) (t := tTrue) (by
        have := x_rng1 (l := aCons (eVar 2) (aNil)) (fr := f37 S w (.int (w : Int)) (.cell 1) (some u) none v7 none) (st := [c, nE E]) (st1 := [c, nE E]) (j := (w : Int)) rfl (by omega) (by omega)
        rw [Int.toNat_natCast] at this
        exact this) e2'
      have tp : oTuple [.lst (r.map W.int)] [c2, nE E] = .ok (bits r) [c2, nE E] := rfl
      obtain ⟨q, c3, p3, q0, q6, e3'⟩ := pick0 (rest := []) (m := 6) p2 (by decide) (by decide)
      obtain ⟨v, hv, e4⟩ := ix_mem (ws := gdV) q0 (by simpa [gdV] using q6)
      obtain ⟨E', kk', K', hl', set⟩ := set_ok (st := [c3, nE E]) K (n := 1) rfl (nkey_bits r) (bits_ok r) (List.mem_append_left _ hv) (by omega)
      refine ⟨f37 S w (.int (w : Int)) (.cell 1) (some u) none v7 none, f37 S w (.int (w : Int)) (.cell 1) (some u) none (some (bits r)) none, [c3, nE E'], rfl, .inl ?_, _, _, c3, E', kk', rfl, rfl, p3, K', by omega⟩
      refine asg_to (w := bits r) (st1 := [c2, nE E]) (by simp only [x_N, x_aCons]; rw [lc]; simp only [Out.bind_ok, x_aNil, tp]) ?_
      simp only [fs7]
      have e4 : oIx (.lst [.str "a", .str "z", .str "0", .str "9", .str "start", .str "stop"]) (.int q) [c3, nE E] = .ok v [c3, nE E] := e4 _
      unfold sSub
      simp only [x_2, x_var, fg3, x_call, x_aCons, fg1, x_c, x_aNil, Out.bind_ok, e3', e4, Out.stm_ok, fg4, fg7, set]
      rfl)
  rw [rl] at hl
  exact ⟨c', E, kk, v5, v7, p', K, by omega, ef⟩
end

end SL
namespace SL
open PySem PySem.Spec PyProof.Rows L2
section
variable [HW]
theorem mulS37 {w : Nat} {st : Sto} (h : w ≤ 6) : oMulS (.str "1") (.int (w : Nat)) st = .ok (.str (Txt.mul "1" (w : Nat))) st := by
  show (if dec ((("1" : Str)).length = 1 ∧ 0 ≤ ((w : Nat) : Int) ∧ ((w : Nat) : Int) ≤ 1000) = true then Out.ok (W.str (Txt.mul "1" (w : Nat))) st else .bad) = _
  rw [if_pos (dec_mk ⟨rfl, by omega, by omega⟩)]
theorem spoil0 {c : Cel} {S0 : W} {w : Nat} {v5 : Option W} {E : Ents} {kk : List NestedKey} {q : Int} (hp : Bag c) (K : EOk E kk) (hl : E.length ≤ 6) (w1 : 1 ≤ w) (w6 : w ≤ 6) : ∃ c' E' kk' v8, Bag c' ∧ EOk E' kk' ∧ E'.length ≤ 7 ∧ (sIf (bOf (e2 oEq (eVar 6) (eC (.int 0)))) (sSeq (sAsg (eN oLst (aCons (e2 oAdd (eVar 7) (eN oTup (aCons (eC (.int 0)) (aNil)))) (aCons (eSl (eVar 7) (pYes (eC (.int 1))) (pNo)) (aCons (e2 oAdd (eSl (eVar 7) (pYes (eC (.int 1))) (pNo)) (eN oTup (aCons (eC (.int 2)) (aNil)))) (aCons (e2 oAdd (eSl (eVar 7) (pYes (eC (.int 1))) (pNo)) (eN oTup (aCons (e1 oNeg (eC (.int 1))) (aNil)))) (aCons (e2 oMulS (eC (.str "1")) (eVar 2)) (aCons (eC .non) (aCons (eC (.int 3)) (aCons (e2 oAdd (eSl (eVar 7) (pYes (eC (.int 1))) (pNo)) (eN oTup (aCons (eC (.str "1")) (aNil)))) (aCons (eN oTup (aCons (eVar 7) (aNil))) (aCons (eC (.bl true)) (aNil)))))))))))) (gNm 8)) (sSeq (sAsg (e2 oAdd (eVar 8) (eN oLst (aCons (e2 oAdd (eSl (eVar 7) (pYes (eC (.int 1))) (pNo)) (eN oTup (aCons (eN oTup (aCons (eC (.int 1)) (aNil))) (aNil)))) (aCons (e2 oAdd (eSl (eVar 7) (pYes (eC (.int 1))) (pNo)) (eN oTup (aCons (eC .non) (aNil)))) (aNil))))) (gNm 8)) (sSub (uNct HW.w) (eC (.str "a")) (eVar 4) (e2 oIx (eVar 8) (eCall F_law_pick (aCons (eVar 1) (aCons (eC (.int 12)) (aNil)))))))) (sNil)) (f37 S0 w (.int (w : Int)) (.cell 1) v5 (some (.int q)) (some (bits (ons w))) none) [c, nE E] = .nx (f37 S0 w (.int (w : Int)) (.cell 1) v5 (some (.int q)) (some (bits (ons w))) v8) [c', nE E'] := by
  have ct : bOf (e2 oEq (eVar 6) (eC (.int 0))) (f37 S0 w (.int (w : Int)) (.cell 1) v5 (some (.int q)) (some (bits (ons w))) none) [c, nE E] = .ok (decide (q = 0)) [c, nE E] := by simp only [x_bOf, x_2, x_var, fg6, x_c, Out.bind_ok, x_eqI]
  by_cases hq : q = 0
  · rw [decide_eq_true hq] at ct
    obtain ⟨t, c1, p1, t0, t12, e1'⟩ := pick0 (rest := []) (m := 12) hp (by decide) (by decide)
    obtain ⟨y, hy, e2'⟩ := ix_mem (ws := odK w) t0 (by simpa [odK] using t12)
    obtain ⟨hr, j, hj⟩ := odK_ok y hy
    obtain ⟨E', kk', K', hl', set⟩ := set_ok (st := [c1, nE E]) K (n := 1) (u := .str "a") rfl hj hr (by simp [gdV]) (by omega)
    refine ⟨c1, E', kk', some (.lst (odK w)), p1, K', by omega, ?_⟩
    have ol := ons_len w
    have a1 : ∀ x S, oAdd (bits (ons w)) (.tup [x]) S = .ok (.tup ((ons w).map W.int ++ [x])) S := fun x S => add_tup (by rw [List.length_map, ol]; simp; omega)
    have a2 : ∀ x S, oAdd (.tup (((ons w).drop 1).map W.int)) (.tup [x]) S = .ok (.tup (((ons w).drop 1).map W.int ++ [x])) S := fun x S => add_tup (by rw [List.length_map, List.length_drop, ol]; simp; omega)
    have t1 : ∀ x S, oTup [x] S = .ok (.tup [x]) S := fun x S => rfl
    have mu : ∀ S, oMulS (.str "1") (.int (w : Int)) S = .ok (.str (Txt.mul "1" (w : Nat))) S := fun S => mulS37 w6
    have l10 : ∀ a b c d e f g h i j S, oLst [a, b, c, d, e, f, g, h, i, j] S = .ok (.lst [a, b, c, d, e, f, g, h, i, j]) S := fun a b c d e f g h i j S => rfl
    have l2 : ∀ a b S, oLst [a, b] S = .ok (.lst [a, b]) S := fun a b S => rfl
    have ng : ∀ fr S, e1 oNeg (eC (.int 1)) fr S = .ok (.int (-1)) S := fun fr S => rfl
    have sl1 : ∀ S, eSl (eVar 7) (pYes (eC (.int 1))) (pNo) (f37 S0 w (.int (w : Int)) (.cell 1) v5 (some (.int q)) (some (bits (ons w))) none) S = .ok (.tup (((ons w).drop 1).map W.int)) S := fun S => cut_ons w1
    have sl2 : ∀ u S, eSl (eVar 7) (pYes (eC (.int 1))) (pNo) (f37 S0 w (.int (w : Int)) (.cell 1) v5 (some (.int q)) (some (bits (ons w))) (some u)) S = .ok (.tup (((ons w).drop 1).map W.int)) S := fun u S => cut_ons w1
    rw [x_if, ct, Out.stm_ok, if_pos rfl]
    refine asg_to (w := .lst [.tup ((ons w).map W.int ++ [.int 0]), .tup (((ons w).drop 1).map W.int), .tup (((ons w).drop 1).map W.int ++ [.int 2]), .tup (((ons w).drop 1).map W.int ++ [.int (-1)]), .str (Txt.mul "1" (w : Nat)), .non, .int 3, .tup (((ons w).drop 1).map W.int ++ [.str "1"]), .tup [bits (ons w)], .bl true]) (st1 := [c, nE E]) (by simp only [x_N, x_aCons, x_2, x_var, fg7, fg2, x_c, x_aNil, Out.bind_ok, t1, a1, sl1, a2, ng, mu, l10]) ?_
    simp only [fs8]
    refine asg_to (w := .lst (odK w)) (st1 := [c, nE E]) (by
      have al : ∀ a b S, oAdd (.lst [.tup ((ons w).map W.int ++ [.int 0]), .tup (((ons w).drop 1).map W.int), .tup (((ons w).drop 1).map W.int ++ [.int 2]), .tup (((ons w).drop 1).map W.int ++ [.int (-1)]), .str (Txt.mul "1" (w : Nat)), .non, .int 3, .tup (((ons w).drop 1).map W.int ++ [.str "1"]), .tup [bits (ons w)], .bl true]) (.lst [a, b]) S = .ok (.lst ([.tup ((ons w).map W.int ++ [.int 0]), .tup (((ons w).drop 1).map W.int), .tup (((ons w).drop 1).map W.int ++ [.int 2]), .tup (((ons w).drop 1).map W.int ++ [.int (-1)]), .str (Txt.mul "1" (w : Nat)), .non, .int 3, .tup (((ons w).drop 1).map W.int ++ [.str "1"]), .tup [bits (ons w)], .bl true] ++ [a, b])) S := fun a b S => add_lst (by simp)
      simp only [x_N, x_aCons, x_2, x_var, fg8, x_c, x_aNil, Out.bind_ok, t1, sl2, a2, l2, al]
      rfl) ?_
    simp only [fs8]
    have e2' : oIx (.lst (odK w)) (.int t) [c1, nE E] = .ok y [c1, nE E] := e2' _
    unfold sSub
    simp only [x_2, x_var, fg4, fg8, x_call, x_aCons, fg1, x_c, x_aNil, Out.bind_ok, e1', e2', Out.stm_ok, set]
    rfl
  · rw [decide_eq_false hq] at ct
    refine ⟨c, E, kk, none, hp, K, by omega, ?_⟩
    rw [x_if, ct, Out.stm_ok, if_neg (by decide)]
    rfl
theorem spoil1 {c : Cel} {S0 : W} {w : Nat} {v5 v8 : Option W} {E : Ents} {kk : List NestedKey} {q : Int} (hp : Bag c) (K : EOk E kk) (hl : E.length ≤ 7) : ∃ c' E' kk', Bag c' ∧ EOk E' kk' ∧ E'.length ≤ 8 ∧ (sIf (bOf (e2 oEq (eVar 6) (eC (.int 1)))) (sSub (uNct HW.w) (e2 oIx (eN oLst (aCons (eC (.str "")) (aCons (eC (.str "A")) (aCons (eC (.str "ab")) (aCons (eC .non) (aCons (eC (.int 0)) (aCons (eN oTup (aCons (eC (.str "a")) (aNil))) (aCons (eC (.str "Start")) (aCons (eC (.str " ")) (aCons (eC (.str "-")) (aCons (eC (.bl true)) (aCons (eN oLst (aCons (eC (.str "a")) (aNil))) (aCons (eN oTup (aCons (eN oLst (aCons (eC (.int 0)) (aNil))) (aNil))) (aCons (eC (.dct [] [])) (aCons (eN oLst (aCons (eN oLst (aCons (eN oLst (aNil)) (aNil))) (aNil))) (aNil)))))))))))))))) (eCall F_law_pick (aCons (eVar 1) (aCons (eC (.int 14)) (aNil))))) (eVar 4) (eVar 7)) (sNil)) (f37 S0 w (.int (w : Int)) (.cell 1) v5 (some (.int q)) (some (bits (ons w))) v8) [c, nE E] = .nx (f37 S0 w (.int (w : Int)) (.cell 1) v5 (some (.int q)) (some (bits (ons w))) v8) [c', nE E'] := by
  have ct : bOf (e2 oEq (eVar 6) (eC (.int 1))) (f37 S0 w (.int (w : Int)) (.cell 1) v5 (some (.int q)) (some (bits (ons w))) v8) [c, nE E] = .ok (decide (q = 1)) [c, nE E] := by simp only [x_bOf, x_2, x_var, fg6, x_c, Out.bind_ok, x_eqI]
  by_cases hq : q = 1
  · rw [decide_eq_true hq] at ct
    obtain ⟨t, c1, p1, t0, t14, e1'⟩ := pick0 (rest := []) (m := 14) hp (by decide) (by decide)
    obtain ⟨v, hv, e2'⟩ := ix_mem (ws := odV) t0 (by simpa [odV] using t14)
    obtain ⟨E', kk', K', hl', set⟩ := set_ok (st := [c1, nE E]) K (n := 1) (u := v) rfl (nkey_bits (ons w)) (bits_ok _) (List.mem_append_right _ hv) (by omega)
    refine ⟨c1, E', kk', p1, K', by omega, ?_⟩
    rw [x_if, ct, Out.stm_ok, if_pos rfl]
    have e2' : oIx (.lst odV) (.int t) [c1, nE E] = .ok v [c1, nE E] := e2' _
    have ol : (eN oLst (aCons (eC (.str "")) (aCons (eC (.str "A")) (aCons (eC (.str "ab")) (aCons (eC .non) (aCons (eC (.int 0)) (aCons (eN oTup (aCons (eC (.str "a")) (aNil))) (aCons (eC (.str "Start")) (aCons (eC (.str " ")) (aCons (eC (.str "-")) (aCons (eC (.bl true)) (aCons (eN oLst (aCons (eC (.str "a")) (aNil))) (aCons (eN oTup (aCons (eN oLst (aCons (eC (.int 0)) (aNil))) (aNil))) (aCons (eC (.dct [] [])) (aCons (eN oLst (aCons (eN oLst (aCons (eN oLst (aNil)) (aNil))) (aNil))) (aNil)))))))))))))))) (f37 S0 w (.int (w : Int)) (.cell 1) v5 (some (.int q)) (some (bits (ons w))) v8) [c, nE E] = .ok (.lst odV) [c, nE E] := rfl
    unfold sSub
    rw [x_2, ol]
    simp only [x_var, fg4, fg7, x_call, x_aCons, fg1, x_c, x_aNil, Out.bind_ok, e1', e2', Out.stm_ok, set]
    rfl
  · rw [decide_eq_false hq] at ct
    refine ⟨c, E, kk, hp, K, by omega, ?_⟩
    rw [x_if, ct, Out.stm_ok, if_neg (by decide)]
    rfl
theorem spoil2 {c : Cel} {S0 : W} {w : Nat} {v5 v8 : Option W} {E : Ents} {q : Int} (hp : Bag c) : ∃ c' m, Bag c' ∧ (m = .cell 1 ∨ m ∈ othV w) ∧ (sIf (bOf (e2 oEq (eVar 6) (eC (.int 2)))) (sAsg (e2 oIx (eN oLst (aCons (eC .non) (aCons (eN oLst (aNil)) (aCons (eN oTup (aNil)) (aCons (eC (.str "marks")) (aCons (eN oLst (aCons (eN oTup (aCons (eVar 7) (aCons (eC (.str "a")) (aNil)))) (aNil))) (aCons (eC (.int 7)) (aNil)))))))) (eCall F_law_pick (aCons (eVar 1) (aCons (eC (.int 6)) (aNil))))) (gNm 4)) (sNil)) (f37 S0 w (.int (w : Int)) (.cell 1) v5 (some (.int q)) (some (bits (ons w))) v8) [c, nE E] = .nx (f37 S0 w (.int (w : Int)) m v5 (some (.int q)) (some (bits (ons w))) v8) [c', nE E] := by
  have ct : bOf (e2 oEq (eVar 6) (eC (.int 2))) (f37 S0 w (.int (w : Int)) (.cell 1) v5 (some (.int q)) (some (bits (ons w))) v8) [c, nE E] = .ok (decide (q = 2)) [c, nE E] := by simp only [x_bOf, x_2, x_var, fg6, x_c, Out.bind_ok, x_eqI]
  by_cases hq : q = 2
  · rw [decide_eq_true hq] at ct
    obtain ⟨t, c1, p1, t0, t6, e1'⟩ := pick0 (rest := []) (m := 6) hp (by decide) (by decide)
    obtain ⟨m, hm, e2'⟩ := ix_mem (ws := othV w) t0 (by simpa [othV] using t6)
    refine ⟨c1, m, p1, .inr hm, ?_⟩
    rw [x_if, ct, Out.stm_ok, if_pos rfl]
    have e2' : oIx (.lst (othV w)) (.int t) [c1, nE E] = .ok m [c1, nE E] := e2' _
    have ol : (eN oLst (aCons (eC .non) (aCons (eN oLst (aNil)) (aCons (eN oTup (aNil)) (aCons (eC (.str "marks")) (aCons (eN oLst (aCons (eN oTup (aCons (eVar 7) (aCons (eC (.str "a")) (aNil)))) (aNil))) (aCons (eC (.int 7)) (aNil)))))))) (f37 S0 w (.int (w : Int)) (.cell 1) v5 (some (.int q)) (some (bits (ons w))) v8) [c, nE E] = .ok (.lst (othV w)) [c, nE E] := rfl
    rw [x_asgN, x_2, ol]
    simp only [x_call, x_aCons, x_var, fg1, x_c, x_aNil, Out.bind_ok, e1', e2', Out.stm_ok]
    rfl
  · rw [decide_eq_false hq] at ct
    refine ⟨c, .cell 1, hp, .inl rfl, ?_⟩
    rw [x_if, ct, Out.stm_ok, if_neg (by decide)]
    rfl
theorem spoil3 {c : Cel} {S0 m : W} {w : Nat} {v5 v6 v7 v8 : Option W} {E : Ents} (hp : Bag c) : ∃ c' v2, Bag c' ∧ plainW v2 = true ∧ (sIf (bOf (e2 oEq (eCall F_law_pick (aCons (eVar 1) (aCons (eC (.int 3)) (aNil)))) (eC (.int 0)))) (sAsg (e2 oIx (eN oLst (aCons (eC (.int 0)) (aCons (eC (.int 7)) (aCons (eC (.bl true)) (aCons (eC .non) (aCons (eC (.str "2")) (aCons (eN oLst (aCons (eC (.int 2)) (aNil))) (aCons (e2 oPow (eC (.int 10)) (eC (.int 20))) (aCons (e1 oNeg (eC (.int 1))) (aCons (eVar 2) (aCons (eN oTup (aCons (eN oLst (aNil)) (aNil))) (aCons (eC (.dct [] [])) (aNil))))))))))))) (eCall F_law_pick (aCons (eVar 1) (aCons (eC (.int 11)) (aNil))))) (gNm 2)) (sNil)) (f37 S0 w (.int (w : Int)) m v5 v6 v7 v8) [c, nE E] = .nx (f37 S0 w v2 m v5 v6 v7 v8) [c', nE E] := by
  obtain ⟨q, c0, p0, q0, q3, e0'⟩ := pick0 (rest := []) (m := 3) hp (by decide) (by decide)
  have ct : bOf (e2 oEq (eCall F_law_pick (aCons (eVar 1) (aCons (eC (.int 3)) (aNil)))) (eC (.int 0))) (f37 S0 w (.int (w : Int)) m v5 v6 v7 v8) [c, nE E] = .ok (decide (q = 0)) [c0, nE E] := by simp only [x_bOf, x_2, x_call, x_aCons, x_var, fg1, x_c, x_aNil, Out.bind_ok, e0', x_eqI]
  by_cases hq : q = 0
  · rw [decide_eq_true hq] at ct
    obtain ⟨t, c1, p1, t0, t11, e1'⟩ := pick0 (rest := []) (m := 11) p0 (by decide) (by decide)
    obtain ⟨v, hv, e2'⟩ := ix_mem (ws := widV w) t0 (by simpa [widV] using t11)
    refine ⟨c1, v, p1, wid_ok v hv, ?_⟩
    rw [x_if, ct, Out.stm_ok, if_pos rfl]
    have e2' : oIx (.lst (widV w)) (.int t) [c1, nE E] = .ok v [c1, nE E] := e2' _
    have po : ∀ S, oPow (.int 10) (.int 20) S = .ok (.int (10 ^ 20)) S := fun S => x_pow (by decide)
    have ng : ∀ fr S, e1 oNeg (eC (.int 1)) fr S = .ok (.int (-1)) S := fun fr S => rfl
    have t1 : ∀ x S, oTup [x] S = .ok (.tup [x]) S := fun x S => rfl
    have l1 : ∀ x S, oLst [x] S = .ok (.lst [x]) S := fun x S => rfl
    have l0 : ∀ S, oLst [] S = .ok (.lst []) S := fun S => rfl
    have l11 : ∀ a b c d e f g h i j k S, oLst [a, b, c, d, e, f, g, h, i, j, k] S = .ok (.lst [a, b, c, d, e, f, g, h, i, j, k]) S := fun a b c d e f g h i j k S => rfl
    have ol : (eN oLst (aCons (eC (.int 0)) (aCons (eC (.int 7)) (aCons (eC (.bl true)) (aCons (eC .non) (aCons (eC (.str "2")) (aCons (eN oLst (aCons (eC (.int 2)) (aNil))) (aCons (e2 oPow (eC (.int 10)) (eC (.int 20))) (aCons (e1 oNeg (eC (.int 1))) (aCons (eVar 2) (aCons (eN oTup (aCons (eN oLst (aNil)) (aNil))) (aCons (eC (.dct [] [])) (aNil))))))))))))) (f37 S0 w (.int (w : Int)) m v5 v6 v7 v8) [c0, nE E] = .ok (.lst (widV w)) [c0, nE E] := by
      simp only [x_N, x_aCons, x_2, x_var, fg2, x_c, x_aNil, Out.bind_ok, po, ng, t1, l1, l0, l11]
      rfl
    rw [x_asgN, x_2, ol]
    simp only [x_call, x_aCons, x_var, fg1, x_c, x_aNil, Out.bind_ok, e1', e2', Out.stm_ok]
    rfl
  · rw [decide_eq_false hq] at ct
    refine ⟨c0, .int (w : Int), p0, rfl, ?_⟩
    rw [x_if, ct, Out.stm_ok, if_neg (by decide)]
    rfl
theorem law_true (ns : List Int) (h63 : ns.length ≤ 63) (hb : ∀ z ∈ ns, Builtin.Int.intBits z ≤ 1048576) : ∃ st, F_law [.ro (ns.map W.int)] [] = .ok (.bl true) st := by
  obtain ⟨c0, p0, e0'⟩ := bag_at ns 0 (by decide) (st := []) (fun _ => rfl)
  obtain ⟨r, c1, p1, r0, r6, e1'⟩ := pick0 (rest := []) (m := 6) p0 (by decide) (by decide)
  obtain ⟨w, hw, w1, w6⟩ : ∃ w : Nat, 1 + r = (w : Int) ∧ 1 ≤ w ∧ w ≤ 6 := ⟨(1 + r).toNat, by omega, by omega, by omega⟩
  obtain ⟨c2, E, kk, v5, v7, p2, K, hl, z4⟩ := drawn37 (S := .ro (ns.map W.int)) p1 w6
  obtain ⟨q, c3, p3, q0, q5, e3'⟩ := pick0 (rest := []) (m := 5) p2 (by decide) (by decide)
  obtain ⟨c4, E2, kk2, v8, p4, K2, hl2, z7⟩ := spoil0 (S0 := .ro (ns.map W.int)) (v5 := v5) (q := q) p3 K hl w1 w6
  obtain ⟨c5, E3, kk3, p5, K3, hl3, z8⟩ := spoil1 (S0 := .ro (ns.map W.int)) (w := w) (v5 := v5) (v8 := v8) (q := q) p4 K2 hl2
  obtain ⟨c6, m, p6, hm, z9⟩ := spoil2 (S0 := .ro (ns.map W.int)) (w := w) (v5 := v5) (v8 := v8) (E := E3) (q := q) p5
  obtain ⟨c7, v2, p7, hv, z10⟩ := spoil3 (S0 := .ro (ns.map W.int)) (m := m) (w := w) (v5 := v5) (v6 := some (.int q)) (v7 := some (bits (ons w))) (v8 := v8) (E := E3) p6
  have o7 : ∀ n, List.all [c7, nE E3] (oldW n) = true := fun n => old2 p7 K3 n
  obtain ⟨a, ha, ma, da⟩ := both37 (st := [c7, nE E3]) hv (m := m) (by
    rcases hm with rfl | hm
    · exact .inl ⟨E3, kk3, 1, K3, by omega, rfl, rfl⟩
    · exact .inr (oth_ok m hm)) o7
  have K0 : EOk ([] : Ents) [] := ⟨rfl, List.nodup_nil, fun _ h => (nomatch h), fun _ h => nomatch h⟩
  have o8 : ∀ n, List.all [c7, nE E3, nE []] (oldW n) = true := fun n => by
    have := o7 n
    simp only [List.all_cons, List.all_nil, Bool.and_true, Bool.and_eq_true] at this ⊢
    exact ⟨this.1, this.2, old_nE K0 n⟩
  have m0 : F_law_made [.int 3, .cell 2] [c7, nE E3, nE []] = .ok (.str "") [c7, nE E3, nE []] := made_ok (w := 3) K0 (by decide) (by decide) (by decide) rfl rfl o8
  refine ⟨[], mk_rt2 (st := []) (ex := [c7, nE E3, nE []]) ?_ (fun n f => rfl) rfl⟩
  show B_law [some (.ro (ns.map W.int)), none, none, none, none, none, none, none, none, none] [] = _
  unfold B_law
  have e0' : F_law_bag [.ro (ns.map W.int), .int 0] [] = .ok (.cell 0) [c0] := e0'
  refine asg_to (w := .cell 0) (st1 := [c0]) (by simp only [x_call, x_aCons, x_var, fg0, x_c, x_aNil, Out.bind_ok, e0']) ?_
  simp only [fs1]
  refine asg_to (w := .int (w : Int)) (st1 := [c1]) (by simp only [x_2, x_call, x_aCons, x_var, fg1, x_c, x_aNil, Out.bind_ok, e1', x_add, hw]) ?_
  simp only [fs2]
  refine asg_to (w := .lst [.str "a", .str "z", .str "0", .str "9", .str "start", .str "stop"]) (st1 := [c1]) rfl ?_
  simp only [fs3]
  refine asg_to (w := .cell 1) (st1 := [c1, nE []]) rfl ?_
  simp only [fs4]
  refine seq_to z4 ?_
  refine asg_to (w := .int q) (st1 := [c3, nE E]) (by simp only [x_call, x_aCons, x_var, fg1, x_c, x_aNil, Out.bind_ok, e3']) ?_
  simp only [fs6]
  have t1 : ∀ x S, oTup [x] S = .ok (.tup [x]) S := fun x S => rfl
  have mx : ∀ S, oMulX (.tup [.int 1]) (.int (w : Int)) S = .ok (bits (ons w)) S := fun S => by rw [← rep_ons]; exact mulX6 w6
  refine asg_to (w := bits (ons w)) (st1 := [c3, nE E]) (by simp only [x_2, x_N, x_aCons, x_c, x_aNil, x_var, fg2, Out.bind_ok, t1, mx]) ?_
  simp only [fs7]
  refine seq_to z7 ?_
  refine seq_to z8 ?_
  refine seq_to z9 ?_
  refine seq_to z10 ?_
  have q1 := eqs37 (st := [c7, nE E3]) ha ha
  rw [show (a == a) = true by simp] at q1
  have q2 := eqs37 (st := [c7, nE E3, nE []]) (a := "") (b := "") (by decide +kernel) (by decide +kernel)
  rw [show (("" : Str) == "") = true by simp] at q2
  have nd : eNDct0 HW.w (f37 (.ro (ns.map W.int)) w v2 m v5 (some (.int q)) (some (bits (ons w))) v8) [c7, nE E3] = .ok (.cell 2) [c7, nE E3, nE []] := rfl
  simp only [x_ret, x_and, x_2, x_call, x_aCons, x_var, fg2, fg4, x_aNil, Out.bind_ok, ma, da, q1, if_true, x_c, nd, m0, q2, Out.stm_ok]
  rfl
end

end SL
namespace SL
open PySem PySem.Spec PyProof.Rows L2
theorem exT_ok {K : PySem.W.Frag} {mg : Str → Option Value} {C_BadReader C_LabelError : Addr} (g_BadReader : mg "BadReader" = some (.ref C_BadReader)) (g_LabelError : mg "LabelError" = some (.ref C_LabelError)) (p_BadReader_LabelError : PySem.W.exmOne K (.ref C_BadReader) (.ref C_LabelError) = some true) : ExTOk K mg exT := by
  intro c c2 b h C C2 hc hc2
  have m := tabL_at h
  simp only [exL, List.mem_cons, Prod.mk.injEq, List.not_mem_nil, or_false] at m
  rcases m with ⟨rfl, rfl, rfl⟩
  · cases hc.symm.trans g_BadReader; cases hc2.symm.trans g_LabelError; exact p_BadReader_LabelError
theorem isT_ok {K : PySem.W.Frag} {mg : Str → Option Value} {C_BadReader : Addr} (g_BadReader : mg "BadReader" = some (.ref C_BadReader)) (x_BadReader : ExcC K C_BadReader) (p_BadReader_BadReader : PySem.W.kitOne K (.ref C_BadReader) (.ref C_BadReader) = some true) : IxOk K mg isT := ⟨by
  intro c c2 b h C C2 hc hc2
  have m := tabL_at h
  simp only [isL, List.mem_cons, Prod.mk.injEq, List.not_mem_nil, or_false] at m
  rcases m with ⟨rfl, rfl, rfl⟩
  · cases hc.symm.trans g_BadReader; cases hc2.symm.trans g_BadReader; exact ⟨x_BadReader, p_BadReader_BadReader⟩
  ⟩
def spLaw (K : PySem.W.Frag) : Sp := fun vs H Q _ => ∃ (a : Addr) (ns : List Int), vs = [.ref a] ∧ SqL K H a (ns.map V.int) ∧ ns.length ≤ 63 ∧ (∀ z ∈ ns, Builtin.Int.intBits z ≤ 1048576) ∧ ∀ H', Q (.bl true) H'
theorem sp_law [HW] {K : PySem.W.Frag} {mg : Str → Option Value} (hl : ∀ ns : List Int, ns.length ≤ 63 → (∀ z ∈ ns, Builtin.Int.intBits z ≤ 1048576) → ∃ st, F_law [.ro (ns.map W.int)] [] = .ok (.bl true) st) : ∀ vs H Q E, spLaw K vs H Q E → spF K mg 1 F_law vs H Q E := by
  intro vs H Q E ⟨a, ns, e, hS, h1, h2, hq⟩
  obtain ⟨st, e2⟩ := hl ns h1 h2
  subst e
  exact spF_of hS e2 hq
theorem all_mk {l : PySem.W.OpenLaw} {w : World} {K : PySem.W.Frag} {h : Heap} {mg : Str → Option Value} {fa : Addr} (X : K.In h) (G : h.Ns mainGlobals mg) (hfa : mg "law" = some (.ref fa))
    {f0 : Addr} {od0 an0 : Option Addr} {sl0 : Array (Option Value)} {oc0 kV0 dc0 pm0 cd0 ct0 : Value}
    {f1 : Addr} {od1 an1 : Option Addr} {sl1 : Array (Option Value)} {oc1 kV1 dc1 pm1 cd1 ct1 : Value}
    {f2 : Addr} {od2 an2 : Option Addr} {sl2 : Array (Option Value)} {oc2 kV2 dc2 pm2 cd2 ct2 : Value}
    {f3 : Addr} {od3 an3 : Option Addr} {sl3 : Array (Option Value)} {oc3 kV3 dc3 pm3 cd3 ct3 : Value}
    {f4 : Addr} {od4 an4 : Option Addr} {sl4 : Array (Option Value)} {oc4 kV4 dc4 pm4 cd4 ct4 : Value}
    {f5 : Addr} {od5 an5 : Option Addr} {sl5 : Array (Option Value)} {oc5 kV5 dc5 pm5 cd5 ct5 : Value}
    {f6 : Addr} {od6 an6 : Option Addr} {sl6 : Array (Option Value)} {oc6 kV6 dc6 pm6 cd6 ct6 : Value}
    {f7 : Addr} {od7 an7 : Option Addr} {sl7 : Array (Option Value)} {oc7 kV7 dc7 pm7 cd7 ct7 : Value}
    {f8 : Addr} {od8 an8 : Option Addr} {sl8 : Array (Option Value)} {oc8 kV8 dc8 pm8 cd8 ct8 : Value}
    {f9 : Addr} {od9 an9 : Option Addr} {sl9 : Array (Option Value)} {oc9 kV9 dc9 pm9 cd9 ct9 : Value}
    {f10 : Addr} {od10 an10 : Option Addr} {sl10 : Array (Option Value)} {oc10 kV10 dc10 pm10 cd10 ct10 : Value}
    {f11 : Addr} {od11 an11 : Option Addr} {sl11 : Array (Option Value)} {oc11 kV11 dc11 pm11 cd11 ct11 : Value}
    {f12 : Addr} {od12 an12 : Option Addr} {sl12 : Array (Option Value)} {oc12 kV12 dc12 pm12 cd12 ct12 : Value}
    {f13 : Addr} {od13 an13 : Option Addr} {sl13 : Array (Option Value)} {oc13 kV13 dc13 pm13 cd13 ct13 : Value}
    {f14 : Addr} {od14 an14 : Option Addr} {sl14 : Array (Option Value)} {oc14 kV14 dc14 pm14 cd14 ct14 : Value}
    {t_SIGNS : Tok}
    {t_WIDEST : Tok}
    {C_Reader : Addr}
    {C_BadReader : Addr}
    {C_LabelError : Addr}
    {nm_BadReader qn_BadReader : Str} {N_BadReader : Addr} {bs_BadReader : List Value} {sn_BadReader : List Str} {sub_BadReader : List Value} {ab_BadReader : Bool} {col_BadReader : Option Bool} {dd_BadReader : Option Addr} {m0_BadReader m1_BadReader m2_BadReader m3_BadReader m5_BadReader : Option Value}
    {fi_BadReader : Addr} {odi_BadReader ani_BadReader : Option Addr} {sli_BadReader : Array (Option Value)} {oci_BadReader kVi_BadReader dci_BadReader pmi_BadReader cdi_BadReader cti_BadReader : Value}
    (g_Reader : PySem.W.nsIn K mainGlobals "Reader" = some (some (.ref C_Reader)))
    (g_BadReader : PySem.W.nsIn K mainGlobals "BadReader" = some (some (.ref C_BadReader)))
    (g_LabelError : PySem.W.nsIn K mainGlobals "LabelError" = some (some (.ref C_LabelError)))
    (a0 : PySem.W.nsIn K mainGlobals "_law_bag" = some (some (.ref f0)))
    (l0 : K.lookup f0 = some ⟨oc0, od0, .func (PySem.W.fnOf "_law_bag" "_law_bag" (defArgs s_law_bag) (defBody s_law_bag) (defScope s_law_bag) .none kV0 dc0 pm0 an0 cd0 ct0), sl0⟩)
    (c0 : PySem.W.codeIn K cd0 "_law_bag" = true)
    (k0 : PySem.W.keepIn K (.ref f0) = true)
    (a1 : PySem.W.nsIn K mainGlobals "_law_is_mark" = some (some (.ref f1)))
    (l1 : K.lookup f1 = some ⟨oc1, od1, .func (PySem.W.fnOf "_law_is_mark" "_law_is_mark" (defArgs s_law_is_mark) (defBody s_law_is_mark) (defScope s_law_is_mark) .none kV1 dc1 pm1 an1 cd1 ct1), sl1⟩)
    (c1 : PySem.W.codeIn K cd1 "_law_is_mark" = true)
    (k1 : PySem.W.keepIn K (.ref f1) = true)
    (a2 : PySem.W.nsIn K mainGlobals "_law_whole" = some (some (.ref f2)))
    (l2 : K.lookup f2 = some ⟨oc2, od2, .func (PySem.W.fnOf "_law_whole" "_law_whole" (defArgs s_law_whole) (defBody s_law_whole) (defScope s_law_whole) .none kV2 dc2 pm2 an2 cd2 ct2), sl2⟩)
    (c2 : PySem.W.codeIn K cd2 "_law_whole" = true)
    (k2 : PySem.W.keepIn K (.ref f2) = true)
    (a3 : PySem.W.nsIn K mainGlobals "_law_is_row" = some (some (.ref f3)))
    (l3 : K.lookup f3 = some ⟨oc3, od3, .func (PySem.W.fnOf "_law_is_row" "_law_is_row" (defArgs s_law_is_row) (defBody s_law_is_row) (defScope s_law_is_row) .none kV3 dc3 pm3 an3 cd3 ct3), sl3⟩)
    (c3 : PySem.W.codeIn K cd3 "_law_is_row" = true)
    (k3 : PySem.W.keepIn K (.ref f3) = true)
    (a4 : PySem.W.nsIn K mainGlobals "_law_due" = some (some (.ref f4)))
    (l4 : K.lookup f4 = some ⟨oc4, od4, .func (PySem.W.fnOf "_law_due" "_law_due" (defArgs s_law_due) (defBody s_law_due) (defScope s_law_due) .none kV4 dc4 pm4 an4 cd4 ct4), sl4⟩)
    (c4 : PySem.W.codeIn K cd4 "_law_due" = true)
    (k4 : PySem.W.keepIn K (.ref f4) = true)
    (a5 : PySem.W.nsIn K mainGlobals "is_mark" = some (some (.ref f5)))
    (l5 : K.lookup f5 = some ⟨oc5, od5, .func (PySem.W.fnOf "is_mark" "is_mark" (defArgs s_is_mark) (defBody s_is_mark) (defScope s_is_mark) .none kV5 dc5 pm5 an5 cd5 ct5), sl5⟩)
    (c5 : PySem.W.codeIn K cd5 "is_mark" = true)
    (k5 : PySem.W.keepIn K (.ref f5) = true)
    (a6 : PySem.W.nsIn K mainGlobals "is_integer" = some (some (.ref f6)))
    (l6 : K.lookup f6 = some ⟨oc6, od6, .func (PySem.W.fnOf "is_integer" "is_integer" (defArgs s_is_integer) (defBody s_is_integer) (defScope s_is_integer) .none kV6 dc6 pm6 an6 cd6 ct6), sl6⟩)
    (c6 : PySem.W.codeIn K cd6 "is_integer" = true)
    (k6 : PySem.W.keepIn K (.ref f6) = true)
    (a7 : PySem.W.nsIn K mainGlobals "is_between_cells" = some (some (.ref f7)))
    (l7 : K.lookup f7 = some ⟨oc7, od7, .func (PySem.W.fnOf "is_between" "is_between" (defArgs s_is_between_cells) (defBody s_is_between_cells) (defScope s_is_between_cells) .none kV7 dc7 pm7 an7 cd7 ct7), sl7⟩)
    (c7 : PySem.W.codeIn K cd7 "is_between" = true)
    (k7 : PySem.W.keepIn K (.ref f7) = true)
    (a8 : PySem.W.nsIn K mainGlobals "is_row" = some (some (.ref f8)))
    (l8 : K.lookup f8 = some ⟨oc8, od8, .func (PySem.W.fnOf "is_row" "is_row" (defArgs s_is_row) (defBody s_is_row) (defScope s_is_row) .none kV8 dc8 pm8 an8 cd8 ct8), sl8⟩)
    (c8 : PySem.W.codeIn K cd8 "is_row" = true)
    (k8 : PySem.W.keepIn K (.ref f8) = true)
    (a9 : PySem.W.nsIn K mainGlobals "are_marks" = some (some (.ref f9)))
    (l9 : K.lookup f9 = some ⟨oc9, od9, .func (PySem.W.fnOf "are_marks" "are_marks" (defArgs s_are_marks) (defBody s_are_marks) (defScope s_are_marks) .none kV9 dc9 pm9 an9 cd9 ct9), sl9⟩)
    (c9 : PySem.W.codeIn K cd9 "are_marks" = true)
    (k9 : PySem.W.keepIn K (.ref f9) = true)
    (a10 : PySem.W.nsIn K mainGlobals "is_between_readers" = some (some (.ref f10)))
    (l10 : K.lookup f10 = some ⟨oc10, od10, .func (PySem.W.fnOf "is_between" "is_between" (defArgs s_is_between_readers) (defBody s_is_between_readers) (defScope s_is_between_readers) .none kV10 dc10 pm10 an10 cd10 ct10), sl10⟩)
    (c10 : PySem.W.codeIn K cd10 "is_between" = true)
    (k10 : PySem.W.keepIn K (.ref f10) = true)
    (a11 : PySem.W.findIn K (.ref C_Reader) "__init__" = some (some (.ref f11)))
    (i11 : PySem.W.isFn K (.ref f11) = true)
    (l11 : K.lookup f11 = some ⟨oc11, od11, .func (PySem.W.fnOf "__init__" "Reader.__init__" (defArgs s_Reader___init__) (defBody s_Reader___init__) (defScope s_Reader___init__) .none kV11 dc11 pm11 an11 cd11 ct11), sl11⟩)
    (c11 : PySem.W.codeIn K cd11 "Reader.__init__" = true)
    (k11 : PySem.W.keepIn K (.ref f11) = true)
    (a12 : PySem.W.nsIn K mainGlobals "_law_made" = some (some (.ref f12)))
    (l12 : K.lookup f12 = some ⟨oc12, od12, .func (PySem.W.fnOf "_law_made" "_law_made" (defArgs s_law_made) (defBody s_law_made) (defScope s_law_made) .none kV12 dc12 pm12 an12 cd12 ct12), sl12⟩)
    (c12 : PySem.W.codeIn K cd12 "_law_made" = true)
    (k12 : PySem.W.keepIn K (.ref f12) = true)
    (a13 : PySem.W.nsIn K mainGlobals "_law_pick" = some (some (.ref f13)))
    (l13 : K.lookup f13 = some ⟨oc13, od13, .func (PySem.W.fnOf "_law_pick" "_law_pick" (defArgs s_law_pick) (defBody s_law_pick) (defScope s_law_pick) .none kV13 dc13 pm13 an13 cd13 ct13), sl13⟩)
    (c13 : PySem.W.codeIn K cd13 "_law_pick" = true)
    (k13 : PySem.W.keepIn K (.ref f13) = true)
    (a14 : PySem.W.nsIn K mainGlobals "law" = some (some (.ref f14)))
    (l14 : K.lookup f14 = some ⟨oc14, od14, .func (PySem.W.fnOf "law" "law" (defArgs s_law) (defBody s_law) (defScope s_law) .none kV14 dc14 pm14 an14 cd14 ct14), sl14⟩)
    (c14 : PySem.W.codeIn K cd14 "law" = true)
    (k14 : PySem.W.keepIn K (.ref f14) = true)
    (z_all : PySem.W.nsIn K mainGlobals "all" = some none)
    (z_bool : PySem.W.nsIn K mainGlobals "bool" = some none)
    (z_dict : PySem.W.nsIn K mainGlobals "dict" = some none)
    (z_int : PySem.W.nsIn K mainGlobals "int" = some none)
    (z_isinstance : PySem.W.nsIn K mainGlobals "isinstance" = some none)
    (z_len : PySem.W.nsIn K mainGlobals "len" = some none)
    (z_range : PySem.W.nsIn K mainGlobals "range" = some none)
    (z_sorted : PySem.W.nsIn K mainGlobals "sorted" = some none)
    (z_str : PySem.W.nsIn K mainGlobals "str" = some none)
    (z_tuple : PySem.W.nsIn K mainGlobals "tuple" = some none)
    (q_SIGNS : PySem.W.nsIn K mainGlobals "SIGNS" = some (some (.str "0123456789abcdefghijklmnopqrstuvwxyz" t_SIGNS)))
    (q_WIDEST : PySem.W.nsIn K mainGlobals "WIDEST" = some (some (.int 6 t_WIDEST)))
    (pg_Reader : PySem.W.plainGet K C_Reader Str.empty = true)
    (d_Reader : PySem.W.hasDictIn K C_Reader = true)
    (po_Reader : PySem.W.plainOver K C_Reader = true)
    (sa_Reader : PySem.W.findIn K (.ref C_Reader) "__setattr__" = some (some (.builtin "object.__setattr__")))
    (ha_Reader : PySem.W.findIn K (.ref C_Reader) "__class__" = some (some (.builtin "object.__class__")))
    (mo_Reader : PySem.W.mroIn K C_Reader (.type "object") = some true)
    (ic_Reader : PySem.W.isClsIn K C_Reader = true)
    (y_Reader : PySem.W.typeIn K (.ref C_Reader) = some (.type "type"))
    (mk_Reader : PySem.W.makesIn K C_Reader = true)
    (kc_Reader : PySem.W.keepIn K (.ref C_Reader) = true)
    (nf_Reader_known : PySem.W.findIn K (.ref C_Reader) "known" = some none)
    (nf_Reader_width : PySem.W.findIn K (.ref C_Reader) "width" = some none)
    (ocn : PySem.W.specialIn K (.builtin "object.__class__") "__get__" = some (some (.builtin "getset_descriptor.__get__")))
    (oct : PySem.W.takesIn K (.builtin "object.__class__") = some true)
    (e_BadReader : PySem.W.subIn K (.ref C_BadReader) (.type "BaseException") = some true)
    (y_BadReader : PySem.W.typeIn K (.ref C_BadReader) = some (.type "type"))
    (d_BadReader : PySem.W.hasDictIn K C_BadReader = true)
    (e_LabelError : PySem.W.subIn K (.ref C_LabelError) (.type "BaseException") = some true)
    (y_LabelError : PySem.W.typeIn K (.ref C_LabelError) = some (.type "type"))
    (d_LabelError : PySem.W.hasDictIn K C_LabelError = true)
    (x_BadReader : K.lookup C_BadReader = some (excClassObj nm_BadReader qn_BadReader C_BadReader N_BadReader bs_BadReader [.ref C_LabelError, .type "ValueError", .type "Exception", .type "BaseException", .type "object"] true sn_BadReader sub_BadReader ab_BadReader col_BadReader dd_BadReader m0_BadReader m1_BadReader m2_BadReader m3_BadReader m5_BadReader "ValueError.__new__"))
    (sa_BadReader : PySem.W.findIn K (.ref C_BadReader) "__setattr__" = some (some (.builtin "object.__setattr__")))
    (kC_BadReader : PySem.W.keepIn K (.ref C_BadReader) = true)
    (nb_BadReader_part : PySem.W.findIn K (.ref C_BadReader) "part" = some none)
    (ia_BadReader : PySem.W.findIn K (.ref C_BadReader) "__init__" = some (some (.ref fi_BadReader)))
    (it_BadReader : PySem.W.typeIn K (.ref fi_BadReader) = some (.type "function"))
    (il_BadReader : K.lookup fi_BadReader = some ⟨oci_BadReader, odi_BadReader, .func (PySem.W.fnOf "__init__" "BadReader.__init__" (defArgs s_init_BadReader) (defBody s_init_BadReader) (defScope s_init_BadReader) .none kVi_BadReader dci_BadReader pmi_BadReader ani_BadReader cdi_BadReader cti_BadReader), sli_BadReader⟩)
    (ic_BadReader : PySem.W.codeIn K cdi_BadReader "BadReader.__init__" = true)
    (ik_BadReader : PySem.W.keepIn K (.ref fi_BadReader) = true)
    (ga_BadReader : PySem.W.findIn K (.ref C_BadReader) "__getattribute__" = some (some (.builtin "BaseException.__getattribute__")))
    (gg_BadReader : PySem.W.findIn K (.ref C_BadReader) "__getattr__" = some none)
    (ha_BadReader : PySem.W.findIn K (.ref C_BadReader) "__class__" = some (some (.builtin "object.__class__")))
    (mo_BadReader : PySem.W.mroIn K C_BadReader (.type "object") = some true)
    (ki_BadReader_BadReader : PySem.W.subIn K (.ref C_BadReader) (.ref C_BadReader) = some true)
    (kj_BadReader : PySem.W.subIn K (.ref C_BadReader) (.ref C_BadReader) = some true)
    (p_BadReader_LabelError : PySem.W.subIn K (.ref C_BadReader) (.ref C_LabelError) = some true)
    : ∃ fd : FuncData, (∀ (s : Shared) (v : Value), BindsTo s fd ⟨[v], []⟩ [("_law_script", v)]) ∧ ∀ base : Heap, K.In base → base.Ns mainGlobals mg → FnOk l.prog w K mg base (L2.CX l.prog w) 8 fa fd ["_law_script"] (spLaw K) := by
  have e := hfa.symm.trans (PySem.W.mg_of X G a14)
  cases e
  have gg_BadReader_ := PySem.W.mg_of X G g_BadReader
  have gg_LabelError_ := PySem.W.mg_of X G g_LabelError
  have gg_Reader_ := PySem.W.mg_of X G g_Reader
  have xt : ExTOk K mg exT := exT_ok gg_BadReader_ gg_LabelError_ (PySem.W.exm_ref e_LabelError d_LabelError y_LabelError p_BadReader_LabelError)
  have xx : IxOk K mg isT := isT_ok gg_BadReader_ ⟨ga_BadReader, gg_BadReader, e_BadReader, d_BadReader, ha_BadReader, ocn, oct, mo_BadReader⟩ (kit_is d_BadReader y_BadReader ki_BadReader_BadReader kj_BadReader)
  letI : HW := ⟨w⟩
  have T : ∀ base : Heap, Txt l.prog K mg base C_BadReader C_LabelError C_Reader := fun base =>
    { n_all := PySem.W.mg_none_of X G z_all,
      n_bool := PySem.W.mg_none_of X G z_bool,
      n_dict := PySem.W.mg_none_of X G z_dict,
      n_int := PySem.W.mg_none_of X G z_int,
      n_isinstance := PySem.W.mg_none_of X G z_isinstance,
      n_len := PySem.W.mg_none_of X G z_len,
      n_range := PySem.W.mg_none_of X G z_range,
      n_sorted := PySem.W.mg_none_of X G z_sorted,
      n_str := PySem.W.mg_none_of X G z_str,
      n_tuple := PySem.W.mg_none_of X G z_tuple,
      c_SIGNS := ⟨_, PySem.W.mg_of X G q_SIGNS⟩,
      c_WIDEST := ⟨_, PySem.W.mg_of X G q_WIDEST⟩,
      g_BadReader := gg_BadReader_,
      g_LabelError := gg_LabelError_,
      g_Reader := gg_Reader_,
      k_Reader := ⟨⟨pg_Reader, d_Reader, po_Reader, sa_Reader⟩, ha_Reader, ocn, oct, mo_Reader, ic_Reader, y_Reader⟩,
      nf_Reader_known := nf_Reader_known,
      nf_Reader_width := nf_Reader_width,
      E_BadReader := ⟨⟨_, _, _, _, ⟨⟨_, _, _, _, _, _, _, _, _, _, _, _, _, _, _, x_BadReader, rfl⟩, sa_BadReader, e_BadReader, y_BadReader, kC_BadReader⟩, ia_BadReader, it_BadReader, init1 (fun_mk (st := s_init_BadReader) il_BadReader ic_BadReader ik_BadReader) ⟨rfl, rfl, rfl, by decide +kernel, rfl, by decide +kernel, by decide +kernel⟩ rfl ⟨⟨_, _, _, _, _, _, _, _, _, _, _, _, _, _, _, x_BadReader, rfl⟩, sa_BadReader, e_BadReader, y_BadReader, kC_BadReader⟩ nb_BadReader_part (by decide) (by decide), (fun_mk (st := s_init_BadReader) il_BadReader ic_BadReader ik_BadReader).binds (fun _ _ _ _ _ _ us hl => match us, hl with | [_, _], _ => rfl), gg_BadReader_⟩⟩,
      xf_BadReader := ⟨ga_BadReader, gg_BadReader, e_BadReader, d_BadReader⟩,
      xn_BadReader_part := nb_BadReader_part,
      ext := xt,
      ixt := xx }
  have I0 := fun base => I_law_bag (T base) (fun_mk (st := s_law_bag) l0 c0 k0) (PySem.W.mg_of X G a0) ((fun_mk (st := s_law_bag) l0 c0 k0).binds (ps := ["_law_script", "_law_spot"]) fun _ _ _ _ _ _ us hl => match us, hl with | [_, _], _ => rfl)
  have I1 := fun base => I_law_is_mark (T base) (fun_mk (st := s_law_is_mark) l1 c1 k1) (PySem.W.mg_of X G a1) ((fun_mk (st := s_law_is_mark) l1 c1 k1).binds (ps := ["_law_value"]) fun _ _ _ _ _ _ us hl => match us, hl with | [_], _ => rfl)
  have I2 := fun base => I_law_whole (T base) (fun_mk (st := s_law_whole) l2 c2 k2) (PySem.W.mg_of X G a2) ((fun_mk (st := s_law_whole) l2 c2 k2).binds (ps := ["_law_value"]) fun _ _ _ _ _ _ us hl => match us, hl with | [_], _ => rfl)
  have I3 := fun base => I_law_is_row (T base) (I2 base) (fun_mk (st := s_law_is_row) l3 c3 k3) (PySem.W.mg_of X G a3) ((fun_mk (st := s_law_is_row) l3 c3 k3).binds (ps := ["_law_value", "_law_width"]) fun _ _ _ _ _ _ us hl => match us, hl with | [_, _], _ => rfl)
  have I4 := fun base => I_law_due (T base) (I1 base) (I3 base) (I2 base) (fun_mk (st := s_law_due) l4 c4 k4) (PySem.W.mg_of X G a4) ((fun_mk (st := s_law_due) l4 c4 k4).binds (ps := ["_law_width", "_law_marks"]) fun _ _ _ _ _ _ us hl => match us, hl with | [_, _], _ => rfl)
  have I5 := fun base => I_is_mark (T base) (fun_mk (st := s_is_mark) l5 c5 k5) (PySem.W.mg_of X G a5) ((fun_mk (st := s_is_mark) l5 c5 k5).binds (ps := ["value"]) fun _ _ _ _ _ _ us hl => match us, hl with | [_], _ => rfl)
  have I6 := fun base => I_is_integer (T base) (fun_mk (st := s_is_integer) l6 c6 k6) (PySem.W.mg_of X G a6) ((fun_mk (st := s_is_integer) l6 c6 k6).binds (ps := ["value"]) fun _ _ _ _ _ _ us hl => match us, hl with | [_], _ => rfl)
  have I7 := fun base => I_is_between_cells (T base) (I6 base) (fun_mk (st := s_is_between_cells) l7 c7 k7) (PySem.W.mg_of X G a7) ((fun_mk (st := s_is_between_cells) l7 c7 k7).binds (ps := ["value", "low", "high"]) fun _ _ _ _ _ _ us hl => match us, hl with | [_, _, _], _ => rfl)
  have I8 := fun base => I_is_row (T base) (I7 base) (fun_mk (st := s_is_row) l8 c8 k8) (PySem.W.mg_of X G a8) ((fun_mk (st := s_is_row) l8 c8 k8).binds (ps := ["thing"]) fun _ _ _ _ _ _ us hl => match us, hl with | [_], _ => rfl)
  have I9 := fun base => I_are_marks (T base) (I5 base) (I8 base) (fun_mk (st := s_are_marks) l9 c9 k9) (PySem.W.mg_of X G a9) ((fun_mk (st := s_are_marks) l9 c9 k9).binds (ps := ["value", "width"]) fun _ _ _ _ _ _ us hl => match us, hl with | [_, _], _ => rfl)
  have I10 := fun base => I_is_between_readers (T base) (fun_mk (st := s_is_between_readers) l10 c10 k10) (PySem.W.mg_of X G a10) ((fun_mk (st := s_is_between_readers) l10 c10 k10).binds (ps := ["value", "low", "high"]) fun _ _ _ _ _ _ us hl => match us, hl with | [_, _, _], _ => rfl)
  have I11 := fun base => MK_Reader (T base) (I9 base) (I10 base) (fun_mk (st := s_Reader___init__) l11 c11 k11) ⟨mk_Reader, a11, i11, kc_Reader⟩ ((fun_mk (st := s_Reader___init__) l11 c11 k11).binds (ps := ["self", "width", "marks"]) fun _ _ _ _ _ _ us hl => match us, hl with | [_, _, _], _ => rfl)
  have I12 := fun base => I_law_made (T base) (I11 base) (fun_mk (st := s_law_made) l12 c12 k12) (PySem.W.mg_of X G a12) ((fun_mk (st := s_law_made) l12 c12 k12).binds (ps := ["_law_width", "_law_marks"]) fun _ _ _ _ _ _ us hl => match us, hl with | [_, _], _ => rfl)
  have I13 := fun base => I_law_pick (T base) (fun_mk (st := s_law_pick) l13 c13 k13) (PySem.W.mg_of X G a13) ((fun_mk (st := s_law_pick) l13 c13 k13).binds (ps := ["_law_bag_here", "_law_many"]) fun _ _ _ _ _ _ us hl => match us, hl with | [_, _], _ => rfl)
  exact ⟨_, fun s v => .of_eq rfl, fun base _ _ => FnOk.imp (ok_law (T base) (I0 base) (I4 base) (I12 base) (I13 base) (fun_mk (st := s_law) l14 c14 k14)) (sp_law law_true)⟩
end SL
open PySem PySem.W PyProof.Rows
set_option maxRecDepth 100000 in
set_option maxHeartbeats 0 in
theorem PySem.Challenge.cw_surelabels_k37_what_is_no_reader_holds : PySem.Challenge.rw_surelabels_k37_what_is_no_reader.Holds := by
  w_on; o_law; k_head; (case hw => w_witness2)
  k_fill
  refine L2.walk_ofB (l := PySem.Challenge.rw_surelabels_k37_what_is_no_reader) (n := 63) (k := 8) (x := "_law_script") (CX := fun w => L2.CX (PySem.Challenge.rw_surelabels_k37_what_is_no_reader).prog w) (sp := fun w => SL.spLaw _) rfl (by decide) rfl ⟨rfl, by decide, by decide⟩ (fun w h Y => PySem.W.kIn_of Y) ?F (fun w H a ns h1 h2 _ hS => ⟨a, ns, rfl, hS, h1, h2, fun _ => rfl⟩) SL.cx_no
  case F =>
    intro w mg fa h KX G hmg
    refine' SL.all_mk KX G hmg ?g_Reader ?g_BadReader ?g_LabelError ?a0 ?l0 ?c0 ?k0 ?a1 ?l1 ?c1 ?k1 ?a2 ?l2 ?c2 ?k2 ?a3 ?l3 ?c3 ?k3 ?a4 ?l4 ?c4 ?k4 ?a5 ?l5 ?c5 ?k5 ?a6 ?l6 ?c6 ?k6 ?a7 ?l7 ?c7 ?k7 ?a8 ?l8 ?c8 ?k8 ?a9 ?l9 ?c9 ?k9 ?a10 ?l10 ?c10 ?k10 ?a11 ?i11 ?l11 ?c11 ?k11 ?a12 ?l12 ?c12 ?k12 ?a13 ?l13 ?c13 ?k13 ?a14 ?l14 ?c14 ?k14 ?z_all ?z_bool ?z_dict ?z_int ?z_isinstance ?z_len ?z_range ?z_sorted ?z_str ?z_tuple ?q_SIGNS ?q_WIDEST ?pg_Reader ?d_Reader ?po_Reader ?sa_Reader ?ha_Reader ?mo_Reader ?ic_Reader ?y_Reader ?mk_Reader ?kc_Reader ?nf_Reader_known ?nf_Reader_width ?ocn ?oct ?e_BadReader ?y_BadReader ?d_BadReader ?e_LabelError ?y_LabelError ?d_LabelError ?x_BadReader ?sa_BadReader ?kC_BadReader ?nb_BadReader_part ?ia_BadReader ?it_BadReader ?il_BadReader ?ic_BadReader ?ik_BadReader ?ga_BadReader ?gg_BadReader ?ha_BadReader ?mo_BadReader ?ki_BadReader_BadReader ?kj_BadReader ?p_BadReader_LabelError
    (case g_Reader => k_is)
    (case g_BadReader => k_is)
    (case g_LabelError => k_is)
    (case a0 => k_is)
    (case l0 => k_is)
    (case c0 => k_is)
    (case k0 => k_is)
    (case a1 => k_is)
    (case l1 => k_is)
    (case c1 => k_is)
    (case k1 => k_is)
    (case a2 => k_is)
    (case l2 => k_is)
    (case c2 => k_is)
    (case k2 => k_is)
    (case a3 => k_is)
    (case l3 => k_is)
    (case c3 => k_is)
    (case k3 => k_is)
    (case a4 => k_is)
    (case l4 => k_is)
    (case c4 => k_is)
    (case k4 => k_is)
    (case a5 => k_is)
    (case l5 => k_is)
    (case c5 => k_is)
    (case k5 => k_is)
    (case a6 => k_is)
    (case l6 => k_is)
    (case c6 => k_is)
    (case k6 => k_is)
    (case a7 => k_is)
    (case l7 => k_is)
    (case c7 => k_is)
    (case k7 => k_is)
    (case a8 => k_is)
    (case l8 => k_is)
    (case c8 => k_is)
    (case k8 => k_is)
    (case a9 => k_is)
    (case l9 => k_is)
    (case c9 => k_is)
    (case k9 => k_is)
    (case a10 => k_is)
    (case l10 => k_is)
    (case c10 => k_is)
    (case k10 => k_is)
    (case a11 => k_is)
    (case i11 => k_is)
    (case l11 => k_is)
    (case c11 => k_is)
    (case k11 => k_is)
    (case a12 => k_is)
    (case l12 => k_is)
    (case c12 => k_is)
    (case k12 => k_is)
    (case a13 => k_is)
    (case l13 => k_is)
    (case c13 => k_is)
    (case k13 => k_is)
    (case a14 => k_is)
    (case l14 => k_is)
    (case c14 => k_is)
    (case k14 => k_is)
    (case z_all => k_is)
    (case z_bool => k_is)
    (case z_dict => k_is)
    (case z_int => k_is)
    (case z_isinstance => k_is)
    (case z_len => k_is)
    (case z_range => k_is)
    (case z_sorted => k_is)
    (case z_str => k_is)
    (case z_tuple => k_is)
    (case q_SIGNS => k_is)
    (case q_WIDEST => k_is)
    (case pg_Reader => k_is)
    (case d_Reader => k_is)
    (case po_Reader => k_is)
    (case sa_Reader => k_is)
    (case ha_Reader => k_is)
    (case mo_Reader => k_is)
    (case ic_Reader => k_is)
    (case y_Reader => k_is)
    (case mk_Reader => k_is)
    (case kc_Reader => k_is)
    (case nf_Reader_known => k_is)
    (case nf_Reader_width => k_is)
    (case ocn => k_is)
    (case oct => k_is)
    (case e_BadReader => k_is)
    (case y_BadReader => k_is)
    (case d_BadReader => k_is)
    (case e_LabelError => k_is)
    (case y_LabelError => k_is)
    (case d_LabelError => k_is)
    (case x_BadReader => k_is)
    (case sa_BadReader => k_is)
    (case kC_BadReader => k_is)
    (case nb_BadReader_part => k_is)
    (case ia_BadReader => k_is)
    (case it_BadReader => k_is)
    (case il_BadReader => k_is)
    (case ic_BadReader => k_is)
    (case ik_BadReader => k_is)
    (case ga_BadReader => k_is)
    (case gg_BadReader => k_is)
    (case ha_BadReader => k_is)
    (case mo_BadReader => k_is)
    (case ki_BadReader_BadReader => k_is)
    (case kj_BadReader => k_is)
    (case p_BadReader_LabelError => k_is)
