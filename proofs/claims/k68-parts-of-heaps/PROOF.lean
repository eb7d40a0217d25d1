import PyProof.Rows.All
import Wide.All
import OpenK.AllK
import Wide.FinOn
import HandS.ForMost
import HandS.ForExc
import HandS.TryMany
import HandS.IsInst
import HandS.Flow
import HandS.Style
import HandS.Wide
import HandS.Conv
import HandS.TupAny
import HandS.Deep
import HandS.SortInts
import HandS.TupMul
import HandS.SetFor
import HandS.Zip
import HandS.Walk
import HandS.ExcIs
import PyProof.CollectStr
import PyProof.TupleOfGen
import PyProof.Rows.StrRev
import KE.KRevSl
import KE.SortData
import HandS.Strs
import PyProof.Rows.SetFrom
import HandS.Iter
import HandS.TupSets
import KE.DatumIndex
import PyProof.ReprRoads
import PyProof.StrHeap
import PyProof.TupleOfSeq
import KE.GoesMore
import PyProof.StrLawsRepr
import PySem.Challenge.RW_cardwhole_k68_parts_of_heaps
set_option Elab.async false
set_option linter.all false
set_option maxRecDepth 100000
set_option maxHeartbeats 200000
namespace Cw
open PySem PySem.Spec PyProof.Rows L2

/-! ## data, results -/
abbrev D := PyData
inductive Ex where
  | unfit | wide
  deriving DecidableEq
/-- what a piece of the program comes to: a value, one of its two errors, or nothing that is told -/
inductive R (α : Type) where
  | ok (a : α) | exc (x : Ex) | bad
  deriving DecidableEq
namespace R
variable {α β γ : Type}
def bind (m : R α) (f : α → R β) : R β :=
  match m with
  | .ok a => f a
  | .exc x => .exc x
  | .bad => .bad
def map (f : α → β) (m : R α) : R β := m.bind fun a => .ok (f a)
@[simp] theorem bind_ok (a : α) (f : α → R β) : (R.ok a).bind f = f a := rfl
@[simp] theorem bind_exc (x : Ex) (f : α → R β) : (R.exc x : R α).bind f = .exc x := rfl
@[simp] theorem bind_bad (f : α → R β) : (R.bad : R α).bind f = .bad := rfl
theorem bind_assoc (m : R α) (f : α → R β) (g : β → R γ) : (m.bind f).bind g = m.bind fun a => (f a).bind g := by cases m <;> rfl
@[simp] theorem map_ok (a : α) (f : α → β) : (R.ok a).map f = .ok (f a) := rfl
@[simp] theorem map_exc (x : Ex) (f : α → β) : (R.exc x : R α).map f = .exc x := rfl
@[simp] theorem map_bad (f : α → β) : (R.bad : R α).map f = .bad := rfl
def ofOpt (o : Option α) : R α :=
  match o with
  | some a => .ok a
  | none => .bad
@[simp] theorem ofOpt_some (a : α) : ofOpt (some a) = .ok a := rfl
@[simp] theorem ofOpt_none : ofOpt (none : Option α) = .bad := rfl
end R

/-! ## the frozen part of the heap; what a value reads as -/
mutual
inductive Rp (F : Hp) : V → D → Prop
  | non : Rp F .non .none
  | bl (b : Bool) : Rp F (.bl b) (.bool b)
  | int (i : Int) : Rp F (.int i) (.int i)
  | str (x : Str) : Rp F (.str x) (.str x)
  | lst {a : Addr} {xs : List V} {ds : List D} : F a = some (.lst xs) → xs.length ≤ sizeLine → RpA F xs ds → Rp F (.ref a) (.list ds)
  | tup {a : Addr} {xs : List V} {ds : List D} : F a = some (.tup xs) → xs.length ≤ sizeLine → RpA F xs ds → Rp F (.ref a) (.tuple ds)
  | dic {a : Addr} : F a = some (.dK []) → Rp F (.ref a) (.dict [])
inductive RpA (F : Hp) : List V → List D → Prop
  | nil : RpA F [] []
  | cons {v : V} {vs : List V} {d : D} {ds : List D} : Rp F v d → RpA F vs ds → RpA F (v :: vs) (d :: ds)
end

mutual
theorem Rp.mono {F F' : Hp} (h : Same F F') : ∀ {v : V} {d : D}, Rp F v d → Rp F' v d
  | _, _, .non => .non
  | _, _, .bl b => .bl b
  | _, _, .int i => .int i
  | _, _, .str x => .str x
  | _, _, .lst e z r => .lst (h _ _ e) z (RpA.mono h r)
  | _, _, .tup e z r => .tup (h _ _ e) z (RpA.mono h r)
  | _, _, .dic e => .dic (h _ _ e)
theorem RpA.mono {F F' : Hp} (h : Same F F') : ∀ {vs : List V} {ds : List D}, RpA F vs ds → RpA F' vs ds
  | _, _, .nil => .nil
  | _, _, .cons r t => .cons (Rp.mono h r) (RpA.mono h t)
end
theorem RpA.length {F : Hp} : ∀ {vs : List V} {ds : List D}, RpA F vs ds → vs.length = ds.length
  | _, _, .nil => rfl
  | _, _, .cons _ t => by rw [List.length_cons, List.length_cons, RpA.length t]
theorem RpA.get {F : Hp} : ∀ {vs : List V} {ds : List D} {i : Nat} {d : D}, RpA F vs ds → ds[i]? = some d → ∃ v, vs[i]? = some v ∧ Rp F v d
  | _, _, _, _, .nil, e => by simp at e
  | _, _, 0, _, .cons r _, e => by simp at e; subst e; exact ⟨_, rfl, r⟩
  | _, _, i + 1, _, .cons _ t, e => by
    obtain ⟨v, h1, h2⟩ := RpA.get (i := i) t (by simpa using e)
    exact ⟨v, by simpa using h1, h2⟩
theorem RpA.getV {F : Hp} : ∀ {vs : List V} {ds : List D} {i : Nat} {v : V}, RpA F vs ds → vs[i]? = some v → ∃ d, ds[i]? = some d ∧ Rp F v d
  | _, _, _, _, .nil, e => by simp at e
  | _, _, 0, _, .cons r _, e => by simp at e; subst e; exact ⟨_, rfl, r⟩
  | _, _, i + 1, _, .cons _ t, e => by
    obtain ⟨d, h1, h2⟩ := RpA.getV (i := i) t (by simpa using e)
    exact ⟨d, by simpa using h1, h2⟩
theorem RpA.append {F : Hp} : ∀ {vs ws : List V} {ds es : List D}, RpA F vs ds → RpA F ws es → RpA F (vs ++ ws) (ds ++ es)
  | _, _, _, _, .nil, s => s
  | _, _, _, _, .cons r t, s => .cons r (RpA.append t s)
theorem RpA.take {F : Hp} : ∀ {vs : List V} {ds : List D} (n : Nat), RpA F vs ds → RpA F (vs.take n) (ds.take n)
  | _, _, 0, _ => .nil
  | _, _, _ + 1, .nil => .nil
  | _, _, n + 1, .cons r t => .cons r (RpA.take n t)
theorem RpA.drop {F : Hp} : ∀ {vs : List V} {ds : List D} (n : Nat), RpA F vs ds → RpA F (vs.drop n) (ds.drop n)
  | _, _, 0, r => r
  | _, _, _ + 1, .nil => .nil
  | _, _, n + 1, .cons _ t => RpA.drop n t
theorem RpA.set {F : Hp} {v : V} {d : D} (r : Rp F v d) : ∀ {vs : List V} {ds : List D} (i : Nat), RpA F vs ds → RpA F (vs.set i v) (ds.set i d)
  | _, _, _, .nil => .nil
  | _, _, 0, .cons _ t => .cons r t
  | _, _, i + 1, .cons q t => .cons q (RpA.set r i t)
theorem RpA.reverse {F : Hp} : ∀ {vs : List V} {ds : List D}, RpA F vs ds → RpA F vs.reverse ds.reverse
  | _, _, .nil => .nil
  | _, _, .cons r t => by rw [List.reverse_cons, List.reverse_cons]; exact (RpA.reverse t).append (.cons r .nil)
theorem RpA.eraseIdx {F : Hp} : ∀ {vs : List V} {ds : List D} (i : Nat), RpA F vs ds → RpA F (vs.eraseIdx i) (ds.eraseIdx i)
  | _, _, _, .nil => .nil
  | _, _, 0, .cons _ t => t
  | _, _, i + 1, .cons r t => .cons r (RpA.eraseIdx i t)
theorem RpA.dropLast {F : Hp} {vs : List V} {ds : List D} (h : RpA F vs ds) : RpA F vs.dropLast ds.dropLast := by
  rw [List.dropLast_eq_take, List.dropLast_eq_take, h.length]; exact h.take _
theorem RpA.ints {F : Hp} : ∀ {vs : List V} {ns : List Int}, RpA F vs (ns.map .int) → vs = ns.map V.int
  | [], [], _ => rfl
  | _ :: _, n :: ns, h => by
    cases h with
    | cons r t => cases r with | int i => rw [List.map_cons, RpA.ints t]
theorem RpA.of_ints {F : Hp} : ∀ (ns : List Int), RpA F (ns.map V.int) (ns.map .int)
  | [] => .nil
  | n :: ns => .cons (.int n) (RpA.of_ints ns)
theorem RpA.strs {F : Hp} : ∀ {vs : List V} {ns : List Str}, RpA F vs (ns.map .str) → vs = ns.map V.str
  | [], [], _ => rfl
  | _ :: _, n :: ns, h => by
    cases h with
    | cons r t => cases r with | str i => rw [List.map_cons, RpA.strs t]
theorem RpA.bools {F : Hp} : ∀ {vs : List V} {ns : List Bool}, RpA F vs (ns.map .bool) → vs = ns.map V.bl
  | [], [], _ => rfl
  | _ :: _, n :: ns, h => by
    cases h with
    | cons r t => cases r with | bl i => rw [List.map_cons, RpA.bools t]

/-- a list or dict that is owned, at a -/
def OwnAt (F H : Hp) (a : Addr) (d : D) : Prop :=
  match d with
  | .list ds => ∃ xs, H a = some (.lst xs) ∧ xs.length ≤ sizeLine ∧ RpA F xs ds
  | .dict kvs => (∃ ws : List (Key × V), H a = some (.dK ws) ∧ Paired (fun (w : Key × V) (p : D × D) => ∃ k : Int, w.1 = .inl k ∧ p.1 = .int k ∧ Rp F w.2 p.2) ws kvs) ∨
      (∃ ws : List (List Key × V), H a = some (.dT ws) ∧ Paired (fun (w : List Key × V) (p : D × D) => ∃ ks : List Int, w.1 = ks.map .inl ∧ p.1 = .tuple (ks.map .int) ∧ Rp F w.2 p.2) ws kvs)
  | _ => False
/-- it reads so now -/
def Nw (F H : Hp) (v : V) (d : D) : Prop := Rp F v d ∨ ∃ p, v = .ref p ∧ F p = none ∧ OwnAt F H p d

/-- a step that changes nothing that stood -/
structure Step (F H F' H' : Hp) : Prop where
  fr : Same F F'
  hp : Same H H'
  sub : Same F' H'
  new : ∀ a, F' a ≠ none → F a ≠ none ∨ H a = none
theorem Step.refl {F H : Hp} (h : Same F H) : Step F H F H := ⟨.refl F, .refl H, h, fun _ h => .inl h⟩
theorem Step.trans {F H F1 H1 F2 H2 : Hp} (a : Step F H F1 H1) (b : Step F1 H1 F2 H2) : Step F H F2 H2 :=
  ⟨a.fr.trans b.fr, a.hp.trans b.hp, b.sub, fun c h => by
    rcases b.new c h with z | z
    · exact a.new c z
    · exact .inr (a.hp.free z)⟩
theorem same_new {H : Hp} {p : Addr} {o : HO} (h : H p = none) : Same H (upd H p o) := fun b x e => by rw [upd_ne (ne_of_none e h)]; exact e
/-- a new object, left unfrozen -/
theorem Step.laid {F H : Hp} {p : Addr} {o : HO} (h : Same F H) (np : H p = none) : Step F H F (upd H p o) :=
  ⟨.refl F, same_new np, h.trans (same_new np), fun _ h => .inl h⟩
/-- a new object, frozen -/
theorem Step.froz {F H : Hp} {p : Addr} {o : HO} (h : Same F H) (np : H p = none) : Step F H (upd F p o) (upd H p o) := by
  have nf : F p = none := h.free np
  refine ⟨same_new nf, same_new np, fun b x e => ?_, fun a q => ?_⟩
  · by_cases hb : b = p
    · subst hb; rw [upd_same] at e ⊢; exact e
    · rw [upd_ne hb] at e ⊢; exact h b x e
  · by_cases ha : a = p
    · subst ha; exact .inr np
    · rw [upd_ne ha] at q; exact .inl q
/-- what was made without being frozen is frozen -/
theorem Step.frz {F H F' H' : Hp} {p : Addr} {o : HO} (s : Step F H F' H') (np : H p = none) (nf : F' p = none) (e : H' p = some o) : Step F H (upd F' p o) H' :=
  ⟨s.fr.trans (same_new nf), s.hp, fun b x q => by
    by_cases hb : b = p
    · subst hb; rw [upd_same] at q; rw [e]; exact q
    · rw [upd_ne hb] at q; exact s.sub b x q, fun a q => by
    by_cases ha : a = p
    · subst ha; exact .inr np
    · rw [upd_ne ha] at q; exact s.new a q⟩
theorem pairedMono {α β : Type} {P Q : α → β → Prop} (f : ∀ a b, P a b → Q a b) {xs : List α} {ys : List β} (h : Paired P xs ys) : Paired Q xs ys := Paired.mapP h f
theorem OwnAt.mono {F H F' H' : Hp} {a : Addr} {d : D} (fr : Same F F') (e : ∀ o, H a = some o → H' a = some o) (h : OwnAt F H a d) : OwnAt F' H' a d := by
  cases d with
  | list ds => obtain ⟨xs, h1, z, h2⟩ := h; exact ⟨xs, e _ h1, z, h2.mono fr⟩
  | dict kvs =>
    rcases h with ⟨ws, h1, h2⟩ | ⟨ws, h1, h2⟩
    · exact .inl ⟨ws, e _ h1, pairedMono (fun _ _ ⟨k, q1, q2, q3⟩ => ⟨k, q1, q2, q3.mono fr⟩) h2⟩
    · exact .inr ⟨ws, e _ h1, pairedMono (fun _ _ ⟨k, q1, q2, q3⟩ => ⟨k, q1, q2, q3.mono fr⟩) h2⟩
  | _ => exact h
theorem OwnAt.some {F H : Hp} {a : Addr} {d : D} (h : OwnAt F H a d) : ∃ o, H a = some o := by
  cases d with
  | list ds => obtain ⟨xs, h1, _, h2⟩ := h; exact ⟨_, h1⟩
  | dict kvs => rcases h with ⟨ws, h1, h2⟩ | ⟨ws, h1, h2⟩ <;> exact ⟨_, h1⟩
  | _ => exact h.elim
theorem Step.own {F H F' H' : Hp} (s : Step F H F' H') {a : Addr} {d : D} (n : F a = none) (h : OwnAt F H a d) : F' a = none ∧ OwnAt F' H' a d := by
  refine ⟨?_, h.mono s.fr fun o e => s.hp a o e⟩
  cases q : F' a with
  | none => rfl
  | some o =>
    obtain ⟨u, hu⟩ := h.some
    rcases s.new a (by rw [q]; simp) with z | z
    · exact absurd n z
    · rw [hu] at z; cases z
theorem Nw.step {F H F' H' : Hp} {v : V} {d : D} (n : Nw F H v d) (s : Step F H F' H') : Nw F' H' v d := by
  rcases n with r | ⟨p, e, n, h⟩
  · exact .inl (r.mono s.fr)
  · obtain ⟨q1, q2⟩ := s.own n h
    exact .inr ⟨p, e, q1, q2⟩

/-! ## slots -/
inductive Sl where
  /-- data that never changes any more -/
  | sh (d : D)
  /-- a list or dict of this name's own -/
  | ow (d : D)
  /-- one that was handed in at a, to be changed -/
  | io (a : Addr) (d : D)
  /-- the law's script -/
  | scr (a : Addr) (ns : List Int)
def Sl.own : Sl → Bool
  | .ow _ => true
  | .io _ _ => true
  | _ => false
abbrev Rho := List (Option Sl)
def SlOk (K : PySem.W.Frag) (F H : Hp) (v : V) : Sl → Prop
  | .sh d => Rp F v d
  | .ow d => ∃ a, v = .ref a ∧ F a = none ∧ OwnAt F H a d
  | .io a d => v = .ref a ∧ F a = none ∧ OwnAt F H a d
  | .scr a ns => v = .ref a ∧ SqL K F a (ns.map V.int)
def owned (ρ : Rho) (i : Nat) : Prop := ∃ s, ρ[i]? = some (some s) ∧ s.own = true
/-- what stood at a def's entry: hp is not to be changed, f was frozen -/
structure Bs where
  hp : Hp
  f : Hp
structure EnvOk (K : PySem.W.Frag) (B : Bs) (F H : Hp) (σ : L2.St) (ρ : Rho) : Prop where
  sub : Same F H
  prot : Same B.hp H
  fz : Same B.f F
  nof : ∀ a o, B.hp a = some o → F a ≠ none → B.f a ≠ none
  slot : ∀ (i : Nat) (s : Sl), ρ[i]? = some (some s) → ∃ v, σ[i]? = some (some v) ∧ SlOk K F H v s
  sep : ∀ (i j : Nat) (a : Addr), i ≠ j → owned ρ i → owned ρ j → σ[i]? = some (some (V.ref a)) → σ[j]? ≠ some (some (V.ref a))
  out : ∀ (i : Nat) (a : Addr), owned ρ i → σ[i]? = some (some (V.ref a)) → B.hp a = none
theorem SlOk.step {K : PySem.W.Frag} {F H F' H' : Hp} {v : V} {s : Sl} (h : SlOk K F H v s) (t : Step F H F' H') : SlOk K F' H' v s := by
  cases s with
  | sh d => exact Rp.mono t.fr h
  | ow d => obtain ⟨a, e, n, q⟩ := h; exact ⟨a, e, t.own n q⟩
  | io a d => obtain ⟨e, n, q⟩ := h; exact ⟨e, t.own n q⟩
  | scr a ns => exact ⟨h.1, t.fr.seq h.2⟩
theorem EnvOk.step {K : PySem.W.Frag} {B : Bs} {F H F' H' : Hp} {σ : L2.St} {ρ : Rho} (h : EnvOk K B F H σ ρ) (t : Step F H F' H') : EnvOk K B F' H' σ ρ where
  sub := t.sub
  prot := h.prot.trans t.hp
  fz := h.fz.trans t.fr
  nof := fun a o e q => by
    rcases t.new a q with z | z
    · exact h.nof a o e z
    · rw [h.prot a o e] at z; cases z
  slot := fun i s e => let ⟨v, h1, h2⟩ := h.slot i s e; ⟨v, h1, h2.step t⟩
  sep := h.sep
  out := h.out
/-- forgetting slots -/
inductive Le : Rho → Rho → Prop
  | nil {ρ : Rho} : Le ρ []
  | k {s : Option Sl} {ρ ρ' : Rho} : Le ρ ρ' → Le (s :: ρ) (s :: ρ')
  | d {s : Option Sl} {ρ ρ' : Rho} : Le ρ ρ' → Le (s :: ρ) (none :: ρ')
  /-- an owned thing whose place was known -/
  | o {a : Addr} {d : D} {ρ ρ' : Rho} : Le ρ ρ' → Le (some (.io a d) :: ρ) (some (.ow d) :: ρ')
theorem Le.refl : ∀ ρ : Rho, Le ρ ρ
  | [] => .nil
  | _ :: ρ => .k (Le.refl ρ)
theorem Le.get {ρ ρ' : Rho} (h : Le ρ ρ') : ∀ {i : Nat} {s : Sl}, ρ'[i]? = some (some s) → ρ[i]? = some (some s) ∨ ∃ a d, s = .ow d ∧ ρ[i]? = some (some (.io a d)) := by
  induction h with
  | nil => intro i s e; simp at e
  | k _ ih =>
    intro i s e
    cases i with
    | zero => exact .inl e
    | succ i => exact ih (by simpa using e)
  | d _ ih =>
    intro i s e
    cases i with
    | zero => simp at e
    | succ i => exact ih (by simpa using e)
  | @o a d _ _ _ ih =>
    intro i s e
    cases i with
    | zero => simp at e; subst e; exact .inr ⟨a, d, rfl, rfl⟩
    | succ i => exact ih (by simpa using e)
theorem Le.own {ρ ρ' : Rho} (h : Le ρ ρ') {i : Nat} (o : owned ρ' i) : owned ρ i := by
  obtain ⟨s, e, q⟩ := o
  rcases h.get e with z | ⟨a, d, rfl, z⟩
  · exact ⟨s, z, q⟩
  · exact ⟨_, z, rfl⟩
theorem EnvOk.le {K : PySem.W.Frag} {B : Bs} {F H : Hp} {σ : L2.St} {ρ ρ' : Rho} (h : EnvOk K B F H σ ρ) (l : Le ρ ρ') : EnvOk K B F H σ ρ' where
  sub := h.sub
  prot := h.prot
  fz := h.fz
  nof := h.nof
  slot := fun i s e => by
    rcases l.get e with z | ⟨a, d, rfl, z⟩
    · exact h.slot i s z
    · obtain ⟨v, h1, h2, h3⟩ := h.slot i _ z
      exact ⟨v, h1, a, h2, h3⟩
  sep := fun i j a n o1 o2 => h.sep i j a n (l.own o1) (l.own o2)
  out := fun i a o => h.out i a (l.own o)
end Cw
namespace Cw
open PySem PySem.Spec PyProof.Rows L2

/-! ## views: what a rule knows of where it stands -/
/-- a program that stands: its text, its world, what its top has written -/
structure Pg where
  P : Program
  w : World
  K : PySem.W.Frag
  mg : Str → Option Value
  base : Heap
  cls : Ex → Addr
structure Vw where
  pg : Pg
  N : List Str
  sc : Scope
  k : Nat
  W : WX
  top : Bool
  st : Str → Bool
abbrev Vw.P (v : Vw) := v.pg.P
abbrev Vw.w (v : Vw) := v.pg.w
abbrev Vw.K (v : Vw) := v.pg.K
abbrev Vw.mg (v : Vw) := v.pg.mg
abbrev Vw.base (v : Vw) := v.pg.base
abbrev Vw.cls (v : Vw) := v.pg.cls
structure Vw.Has (v : Vw) (X : Cx) : Prop where
  hP : X.prog = v.P
  hw : X.w = v.w
  hK : X.K = v.K
  hmg : X.mg = v.mg
  hb : X.base = v.base
  hN : X.N = v.N
  hsc : X.env.scope = v.sc
  calm : X.calm = true
  room : Room v.k X.A
  gd : X.A.guards = some []
  tk : Takes X v.W
  po : PassesOwn (model X.prog X.w) X.A X.env X.xe
  nd : X.N.Nodup
  fn : ∀ x, v.st x = true → X.fn x = true
  stk : v.top = true → X.stack = X.env :: X.outer ∧ X.env.frame = some X.env.locals
  kind : X.env.scope.kind = .function

/-! ## what is wanted of an expression's value -/
inductive Md where
  /-- data for good -/
  | V
  /-- a new list, not yet anybody's -/
  | N
  /-- read at once -/
  | P
def Po (μ : Md) (F H : Hp) (d : D) (Q : VK) : Prop :=
  match μ with
  | .V => ∀ u H' F', Step F H F' H' → Rp F' u d → Q u H'
  | .N => ∃ ds, d = .list ds ∧ ∀ p xs H' F', Step F H F' H' → H p = none → F' p = none → H' p = some (.lst xs) → xs.length ≤ sizeLine → RpA F' xs ds → Q (.ref p) H'
  | .P => ∀ u H' F', Step F H F' H' → Nw F' H' u d → Q u H'
theorem Po.step {μ : Md} {F H F1 H1 : Hp} {d : D} {Q : VK} (s : Step F H F1 H1) (h : Po μ F H d Q) : Po μ F1 H1 d Q := by
  cases μ with
  | V => exact fun u H' F' t r => h u H' F' (s.trans t) r
  | N =>
    obtain ⟨ds, e, h⟩ := h
    exact ⟨ds, e, fun p xs H' F' t np nf e z r => h p xs H' F' (s.trans t) (s.hp.free np) nf e z r⟩
  | P => exact fun u H' F' t r => h u H' F' (s.trans t) r
/-- a weaker wish of the caller's -/
theorem Po.imp {μ : Md} {F H : Hp} {d : D} {Q Q' : VK} (h : Po μ F H d Q) (f : ∀ u H', Q u H' → Q' u H') : Po μ F H d Q' := by
  cases μ with
  | V => exact fun u H' F' t r => f _ _ (h u H' F' t r)
  | N =>
    obtain ⟨ds, e, h⟩ := h
    exact ⟨ds, e, fun p xs H' F' t np nf e z r => f _ _ (h p xs H' F' t np nf e z r)⟩
  | P => exact fun u H' F' t r => f _ _ (h u H' F' t r)
theorem Po.ofPV {F H : Hp} {d : D} {Q : VK} (h : Po .P F H d Q) : Po .V F H d Q := fun u H' F' t r => h u H' F' t (.inl r)
theorem Po.ofVN {F H : Hp} {ds : List D} {Q : VK} (h : Po .V F H (.list ds) Q) : Po .N F H (.list ds) Q :=
  ⟨ds, rfl, fun p xs H' F' t np nf e z r => h _ _ _ (t.frz np nf e) (.lst upd_same z (r.mono (same_new nf)))⟩
theorem Po.ofPN {F H : Hp} {ds : List D} {Q : VK} (h : Po .P F H (.list ds) Q) : Po .N F H (.list ds) Q :=
  ⟨ds, rfl, fun p xs H' F' t np nf e z r => h _ _ _ t (.inr ⟨p, rfl, nf, xs, e, z, r⟩)⟩

section
variable {α β γ δ : Type}
/-- what is wanted behind m -/
def Want (v : Vw) (μ : Md) (σ : L2.St) (F H : Hp) (enc : α → D) (m : R α) (Q : VK) : Prop :=
  match m with
  | .ok a => Po μ F H (enc a) Q
  | .exc x => ∀ H' F', Step F H F' H' → v.W (.ref (v.cls x)) none σ H'
  | .bad => False
theorem Want.step {v : Vw} {μ : Md} {σ : L2.St} {F H F1 H1 : Hp} {enc : α → D} {m : R α} {Q : VK} (s : Step F H F1 H1) (h : Want v μ σ F H enc m Q) : Want v μ σ F1 H1 enc m Q := by
  cases m with
  | ok a => exact Po.step s h
  | exc x => exact fun H' F' t => h H' F' (s.trans t)
  | bad => exact h
def rd (v : Vw) (μ : Md) (ρ : Rho) (enc : α → D) (m : R α) : TE := fun σ H Q => ∃ B F, EnvOk v.K B F H σ ρ ∧ Want v μ σ F H enc m Q
/-- e, where the slots are as ρ tells, comes to what m tells -/
def Sx (v : Vw) (μ : Md) (ρ : Rho) (e : Expr) (enc : α → D) (m : R α) : Prop := ∀ X, v.Has X → PE X e (rd v μ ρ enc m)
theorem _root_.L2.PE.weak {X : Cx} {e : Expr} {t t' : TE} (h : PE X e t) (f : ∀ σ H Q, t' σ H Q → t σ H Q) : PE X e t' :=
  ⟨fun pins s σ H Q I q => h.run pins s σ H Q I (f σ H Q q)⟩
theorem _root_.L2.PT.weak {X : Cx} {e : Expr} {t t' : TT} (h : PT X e t) (f : ∀ σ H Q, t' σ H Q → t σ H Q) : PT X e t' :=
  ⟨fun pins s σ H Q I q => h.run pins s σ H Q I (f σ H Q q)⟩
/-- from one piece to the next: what is wanted behind m.bind f, through m -/
theorem Want.bind {v : Vw} {μ : Md} {σ : L2.St} {F H : Hp} {encA : α → D} {enc : β → D} {m : R α} {f : α → R β} {Q : VK} {μ' : Md} {Q' : VK} (h : Want v μ σ F H enc (m.bind f) Q)
    (go : ∀ a, m = .ok a → Want v μ σ F H enc (f a) Q → Po μ' F H (encA a) Q') : Want v μ' σ F H encA m Q' := by
  cases m with
  | ok a => exact go a rfl h
  | exc x => exact h
  | bad => exact h
variable {v : Vw} {μ : Md} {ρ : Rho} {e : Expr} {enc : α → D} {m : R α}
theorem sx_NV (h : Sx v .N ρ e enc m) (hl : ∀ a, ∃ ds, enc a = .list ds) : Sx v .V ρ e enc m := fun X hX => (h X hX).weak fun σ H Q ⟨B, F, hE, hW⟩ => ⟨B, F, hE, by
  cases m with
  | ok a => obtain ⟨ds, e⟩ := hl a; have hW : Po .V F H (enc a) Q := hW; rw [e] at hW; show Po .N F H (enc a) Q; rw [e]; exact hW.ofVN
  | exc x => exact hW
  | bad => exact hW⟩
theorem sx_NP (h : Sx v .N ρ e enc m) (hl : ∀ a, ∃ ds, enc a = .list ds) : Sx v .P ρ e enc m := fun X hX => (h X hX).weak fun σ H Q ⟨B, F, hE, hW⟩ => ⟨B, F, hE, by
  cases m with
  | ok a => obtain ⟨ds, e⟩ := hl a; have hW : Po .P F H (enc a) Q := hW; rw [e] at hW; show Po .N F H (enc a) Q; rw [e]; exact hW.ofPN
  | exc x => exact hW
  | bad => exact hW⟩
theorem sx_VP (h : Sx v .V ρ e enc m) : Sx v .P ρ e enc m := fun X hX => (h X hX).weak fun σ H Q ⟨B, F, hE, hW⟩ => ⟨B, F, hE, by
  cases m with
  | ok a => exact Po.ofPV hW
  | exc x => exact hW
  | bad => exact hW⟩
/-- another way to say what it reads as -/
theorem sx_as {enc' : β → D} {f : α → β} (h : Sx v μ ρ e enc m) (hf : ∀ a, enc' (f a) = enc a) : Sx v μ ρ e enc' (m.map f) := fun X hX => (h X hX).weak fun σ H Q ⟨B, F, hE, hW⟩ => ⟨B, F, hE, by
  cases m with
  | ok a => have hW : Po μ F H (enc' (f a)) Q := hW; rw [hf] at hW; exact hW
  | exc x => exact hW
  | bad => exact hW⟩
/-- up to data -/
theorem sx_up (h : Sx v μ ρ e enc m) : Sx v μ ρ e (id : D → D) (m.map enc) := sx_as h fun _ => rfl
/-- down from data -/
theorem sx_down {dec : D → Option α} {m : R D} (hd : ∀ d a, dec d = some a → enc a = d) (h : Sx v μ ρ e (id : D → D) m) : Sx v μ ρ e enc (m.bind fun d => R.ofOpt (dec d)) := fun X hX => (h X hX).weak fun σ H Q ⟨B, F, hE, hW⟩ => ⟨B, F, hE, by
  cases m with
  | ok d =>
    cases q : dec d with
    | none => rw [R.bind_ok, q] at hW; exact hW.elim
    | some a => rw [R.bind_ok, q] at hW; have hW : Po μ F H (enc a) Q := hW; rw [hd d a q] at hW; exact hW
  | exc x => exact hW
  | bad => exact hW⟩

/-! ### names, constants -/
theorem EnvOk.at {K : PySem.W.Frag} {B : Bs} {F H : Hp} {σ : L2.St} {i : Nat} {s : Sl} (h : EnvOk K B F H σ ρ) (e : ρ[i]? = some (some s)) : ∃ u, σ[i]? = some (some u) ∧ SlOk K F H u s := h.slot i s e
theorem Vw.Has.vis {X : Cx} (h : v.Has X) {x : Str} (q : Vis v.sc x) : Vis X.env.scope x := by rw [h.hsc]; exact q
theorem Vw.Has.gl {X : Cx} (h : v.Has X) {x : Str} (q : v.sc.names.lookup x = some .globalImplicit) : Gl X x := by
  show X.env.scope.names.lookup x = _
  rw [h.hsc]; exact q
theorem sx_var {x : Str} {pos : Pos} (i : Nat) {a : α} (hr : ρ[i]? = some (some (.sh (enc a))) := by rfl) (hN : v.N[i]? = some x := by rfl)
    (hv : Vis v.sc x := by first | exact Or.inl rfl | exact Or.inr (Or.inl rfl) | exact Or.inr (Or.inr rfl)) (hd : (x == ("__debug__" : Str)) = false := by decide) (hcd : (x == ("__classdict__" : Str)) = false := by decide) :
    Sx v .V ρ (.Name x pos) enc (.ok a) := fun X hX => (pe_var (i := i) (by rw [hX.hN]; exact hN) (hX.vis hv) hd hcd).weak fun σ H Q ⟨B, F, hE, hW⟩ => by
  obtain ⟨u, e, r⟩ := hE.at hr
  exact ⟨u, e, hW u H F (.refl hE.sub) r⟩
/-- an owned one, read at once -/
theorem sx_own {x : Str} {pos : Pos} (i : Nat) {a : α} (hr : ρ[i]? = some (some (.ow (enc a))) := by rfl) (hN : v.N[i]? = some x := by rfl)
    (hv : Vis v.sc x := by first | exact Or.inl rfl | exact Or.inr (Or.inl rfl) | exact Or.inr (Or.inr rfl)) (hd : (x == ("__debug__" : Str)) = false := by decide) (hcd : (x == ("__classdict__" : Str)) = false := by decide) :
    Sx v .P ρ (.Name x pos) enc (.ok a) := fun X hX => (pe_var (i := i) (by rw [hX.hN]; exact hN) (hX.vis hv) hd hcd).weak fun σ H Q ⟨B, F, hE, hW⟩ => by
  obtain ⟨u, e, p, rfl, n, o⟩ := hE.at hr
  exact ⟨.ref p, e, hW _ H F (.refl hE.sub) (.inr ⟨p, rfl, n, o⟩)⟩
theorem sx_io {x : Str} {pos : Pos} (i : Nat) {a : α} {p : Addr} (hr : ρ[i]? = some (some (.io p (enc a))) := by rfl) (hN : v.N[i]? = some x := by rfl)
    (hv : Vis v.sc x := by first | exact Or.inl rfl | exact Or.inr (Or.inl rfl) | exact Or.inr (Or.inr rfl)) (hd : (x == ("__debug__" : Str)) = false := by decide) (hcd : (x == ("__classdict__" : Str)) = false := by decide) :
    Sx v .P ρ (.Name x pos) enc (.ok a) := fun X hX => (pe_var (i := i) (by rw [hX.hN]; exact hN) (hX.vis hv) hd hcd).weak fun σ H Q ⟨B, F, hE, hW⟩ => by
  obtain ⟨u, e, q, n, o⟩ := hE.at hr
  subst q
  exact ⟨.ref p, e, hW _ H F (.refl hE.sub) (.inr ⟨p, rfl, n, o⟩)⟩
abbrev eI : Int → D := .int
abbrev eB : Bool → D := .bool
abbrev eS : Str → D := .str
abbrev eD : D → D := id
def eN : Unit → D := fun _ => .none
def eT (e : α → D) : List α → D := fun xs => .tuple (xs.map e)
def eL (e : α → D) : List α → D := fun xs => .list (xs.map e)
def eP (e : α → D) (f : β → D) : α × β → D := fun p => .tuple [e p.1, f p.2]
def eP3 (e : α → D) (f : β → D) (g : γ → D) : α × β × γ → D := fun p => .tuple [e p.1, f p.2.1, g p.2.2]
def eO (e : α → D) : Option α → D := fun o => match o with | none => .none | some a => e a
theorem sx_int {i : Int} {j pos} : Sx v .V ρ (.Constant (.int i) j pos) eI (.ok i) := fun X hX => pe_int.weak fun σ H Q ⟨B, F, hE, hW⟩ => hW _ H F (.refl hE.sub) (.int i)
theorem sx_bl {b : Bool} {j pos} : Sx v .V ρ (.Constant (.bool b) j pos) eB (.ok b) := fun X hX => pe_bl.weak fun σ H Q ⟨B, F, hE, hW⟩ => hW _ H F (.refl hE.sub) (.bl b)
theorem sx_non {j pos} : Sx v .V ρ (.Constant .none j pos) eN (.ok ()) := fun X hX => pe_non.weak fun σ H Q ⟨B, F, hE, hW⟩ => hW _ H F (.refl hE.sub) .non
theorem sx_str {x : Str} {j pos} : Sx v .V ρ (.Constant (.str x) j pos) eS (.ok x) := fun X hX => pe_str.weak fun σ H Q ⟨B, F, hE, hW⟩ => hW _ H F (.refl hE.sub) (.str x)

/-! ### two in a row, operators -/
/-- a rule of two values, that raises nothing -/
structure Op2 (v : Vw) (f : Value → Value → Sem Value) (μ : Md) (ea : α → D) (eb : β → D) (ec : γ → D) (g : α → β → R γ) : Prop where
  calm : ∀ a b x, g a b ≠ .exc x
  run : ∀ X, v.Has X → OpR X f fun x y H Q => ∃ F a b, Same F H ∧ Nw F H x (ea a) ∧ Nw F H y (eb b) ∧ ∃ c, g a b = .ok c ∧ Po μ F H (ec c) Q
theorem _root_.L2.OpR.weak {X : Cx} {f : Value → Value → Sem Value} {r r' : R2} (h : OpR X f r) (w : ∀ x y H Q, r' x y H Q → r x y H Q) : OpR X f r' :=
  fun pins s σ H x y a b Q I r1 r2 q => h pins s σ H x y a b Q I r1 r2 (w _ _ _ _ q)
variable {a b : Expr} {ea : α → D} {eb : β → D} {ec : γ → D} {ma : R α} {mb : R β} {g : α → β → R γ} {pos : Pos} {op : Operator}
theorem want_no {μ : Md} {σ : L2.St} {F H : Hp} {Q : VK} {m : R γ} (hx : ∀ x, m ≠ .exc x) (h : Want v μ σ F H ec m Q) : ∃ c, m = .ok c ∧ Po μ F H (ec c) Q := by
  cases m with
  | ok c => exact ⟨c, rfl, h⟩
  | exc x => exact absurd rfl (hx x)
  | bad => exact h.elim
theorem two {σ : L2.St} {F H : Hp} {B : Bs} {Q : VK} (hx : ∀ a b x, g a b ≠ .exc x) (hE : EnvOk v.K B F H σ ρ) (hW : Want v μ σ F H ec (ma.bind fun x => mb.bind fun y => g x y) Q) :
    rd v .P ρ ea ma σ H fun x H1 => rd v .P ρ eb mb σ H1 fun y H2 => ∃ F a b, Same F H2 ∧ Nw F H2 x (ea a) ∧ Nw F H2 y (eb b) ∧ ∃ c, g a b = .ok c ∧ Po μ F H2 (ec c) Q := by
  refine ⟨B, F, hE, hW.bind fun a _ hW => ?_⟩
  intro u H1 F1 s1 n1
  refine ⟨B, F1, hE.step s1, (hW.step s1).bind fun b _ hW => ?_⟩
  intro w H2 F2 s2 n2
  obtain ⟨c, e, q⟩ := want_no (hx a b) hW
  exact ⟨F2, a, b, s2.sub, n1.step s2, n2, c, e, q.step s2⟩
theorem sx_op (o : Op2 v (binaryOp op) μ ea eb ec g) (ha : Sx v .P ρ a ea ma) (hb : Sx v .P ρ b eb mb) : Sx v μ ρ (.BinOp a op b pos) ec (ma.bind fun x => mb.bind fun y => g x y) := fun X hX =>
  (pe_op (o.run X hX) (ha X hX) (hb X hX)).weak fun σ H Q ⟨B, F, hE, hW⟩ => two o.calm hE hW
theorem sx_cmp {op : CmpOp} (o : Op2 v (compareOp op) μ ea eb ec g) (ha : Sx v .P ρ a ea ma) (hb : Sx v .P ρ b eb mb) (hm : behindInMarks op b = false := by rfl) :
    Sx v μ ρ (.Compare a [op] [b] pos) ec (ma.bind fun x => mb.bind fun y => g x y) := fun X hX =>
  (pe_cmpR (o.run X hX) (ha X hX) (hb X hX) hm).weak fun σ H Q ⟨B, F, hE, hW⟩ => two o.calm hE hW

/-! ### tests -/
def WantT (v : Vw) (σ : L2.St) (F H : Hp) (m : R Bool) (Q : Bool → Hp → Prop) : Prop :=
  match m with
  | .ok a => ∀ H' F', Step F H F' H' → Q a H'
  | .exc x => ∀ H' F', Step F H F' H' → v.W (.ref (v.cls x)) none σ H'
  | .bad => False
theorem WantT.step {σ : L2.St} {F H F1 H1 : Hp} {m : R Bool} {Q : Bool → Hp → Prop} (s : Step F H F1 H1) (h : WantT v σ F H m Q) : WantT v σ F1 H1 m Q := by
  cases m with
  | ok a => exact fun H' F' t => h H' F' (s.trans t)
  | exc x => exact fun H' F' t => h H' F' (s.trans t)
  | bad => exact h
def rdT (v : Vw) (ρ : Rho) (m : R Bool) : TT := fun σ H Q => ∃ B F, EnvOk v.K B F H σ ρ ∧ WantT v σ F H m Q
def Tt (v : Vw) (ρ : Rho) (e : Expr) (m : R Bool) : Prop := ∀ X, v.Has X → PT X e (rdT v ρ m)
/-- as part of and, or -/
def Tw (v : Vw) (ρ : Rho) (e : Expr) (m : R Bool) : Prop := ∀ X, v.Has X → PW X e (rdT v ρ m)
theorem _root_.L2.PW.weak {X : Cx} {e : Expr} {t t' : TT} (h : PW X e t) (f : ∀ σ H Q, t' σ H Q → t σ H Q) : PW X e t' :=
  ⟨fun wh pins s σ H Q I q => h.run wh pins s σ H Q I (f σ H Q q)⟩
theorem WantT.bind {σ : L2.St} {F H : Hp} {m : R Bool} {f : Bool → R Bool} {Q Q' : Bool → Hp → Prop} (h : WantT v σ F H (m.bind f) Q)
    (go : ∀ a, m = .ok a → WantT v σ F H (f a) Q → ∀ H' F', Step F H F' H' → Q' a H') : WantT v σ F H m Q' := by
  cases m with
  | ok a => exact go a rfl h
  | exc x => exact h
  | bad => exact h
theorem WantT.ofWant {σ : L2.St} {F H : Hp} {m : R α} {f : α → R Bool} {Q : Bool → Hp → Prop} {Q' : VK} {μ : Md} {enc : α → D} (h : WantT v σ F H (m.bind f) Q) (go : ∀ a, m = .ok a → WantT v σ F H (f a) Q → Po μ F H (enc a) Q') :
    Want v μ σ F H enc m Q' := by
  cases m with
  | ok a => exact go a rfl h
  | exc x => exact h
  | bad => exact h
variable {mt ms : R Bool}
theorem tt_of {m : R Bool} (h : Sx v .V ρ a eB m) (he : ∀ env whole, isTrue a env whole = (do let v ← whole; standAt a.pos; holding [v] (truthy v)) := by intro _ _; rfl) : Tt v ρ a m := fun X hX =>
  (pt_val (h X hX) (he X.env)).weak fun σ H Q ⟨B, F, hE, hW⟩ => by
    refine ⟨B, F, hE, ?_⟩
    cases m with
    | ok b =>
      intro u H' F' s r
      cases r with | bl => exact ⟨b, rfl, hW H' F' s⟩
    | exc x => exact hW
    | bad => exact hW
theorem tt_cmp {op : CmpOp} {g : α → β → R Bool} (o : Op2 v (compareOp op) .V ea eb eB g) (ha : Sx v .P ρ a ea ma) (hb : Sx v .P ρ b eb mb) (hm : behindInMarks op b = false := by rfl) :
    Tt v ρ (.Compare a [op] [b] pos) (ma.bind fun x => mb.bind fun y => g x y) := fun X hX =>
  (pt_cmpR (o.run X hX) (ha X hX) (hb X hX) hm).weak fun σ H Q ⟨B, F, hE, hW⟩ => by
    refine two (μ := .V) (ec := eB) (g := g) o.calm hE ?_
    generalize (ma.bind fun x => mb.bind fun y => g x y) = m at hW
    cases m with
    | ok b =>
      intro u H' F' s r
      cases r with | bl => exact ⟨b, rfl, hW H' F' s⟩
    | exc x => exact hW
    | bad => exact hW
theorem tt_not (h : Tt v ρ a mt) : Tt v ρ (.UnaryOp .Not a pos) (mt.bind fun c => .ok (!c)) := fun X hX => (pt_not (h X hX)).weak fun σ H Q ⟨B, F, hE, hW⟩ =>
  ⟨B, F, hE, hW.bind fun c _ hW H' F' s => hW H' F' s⟩
theorem tw_and1 (h : Tt v ρ a mt) : Tw v ρ (.BoolOp .And [a] pos) mt := fun X hX => pw_and1 (h X hX)
theorem tw_or1 (h : Tt v ρ a mt) : Tw v ρ (.BoolOp .Or [a] pos) mt := fun X hX => pw_or1 (h X hX)
theorem tw_and {rest : List Expr} (h : Tt v ρ a mt) (h' : Tw v ρ (.BoolOp .And (b :: rest) pos) ms) : Tw v ρ (.BoolOp .And (a :: b :: rest) pos) (mt.bind fun c => if c then ms else .ok false) := fun X hX =>
  (pw_and (h X hX) (h' X hX)).weak fun σ H Q ⟨B, F, hE, hW⟩ => ⟨B, F, hE, hW.bind fun c _ hW H' F' s => by
    cases c with
    | true => exact ⟨B, F', hE.step s, hW.step s⟩
    | false => exact hW H' F' s⟩
theorem tw_or {rest : List Expr} (h : Tt v ρ a mt) (h' : Tw v ρ (.BoolOp .Or (b :: rest) pos) ms) : Tw v ρ (.BoolOp .Or (a :: b :: rest) pos) (mt.bind fun c => if c then .ok true else ms) := fun X hX =>
  (pw_or (h X hX) (h' X hX)).weak fun σ H Q ⟨B, F, hE, hW⟩ => ⟨B, F, hE, hW.bind fun c _ hW H' F' s => by
    cases c with
    | true => exact hW H' F' s
    | false => exact ⟨B, F', hE.step s, hW.step s⟩⟩
/-- .. where both are without a way to fail -/
theorem tw_andP {rest : List Expr} {c d : Bool} (h : Tt v ρ a (.ok c)) (h' : Tw v ρ (.BoolOp .And (b :: rest) pos) (.ok d)) : Tw v ρ (.BoolOp .And (a :: b :: rest) pos) (.ok (c && d)) := by
  have q := tw_and h h'
  cases c <;> exact q
theorem tw_orP {rest : List Expr} {c d : Bool} (h : Tt v ρ a (.ok c)) (h' : Tw v ρ (.BoolOp .Or (b :: rest) pos) (.ok d)) : Tw v ρ (.BoolOp .Or (a :: b :: rest) pos) (.ok (c || d)) := by
  have q := tw_or h h'
  cases c <;> exact q
theorem tt_w (h : Tw v ρ a mt) : Tt v ρ a mt := fun X hX => (h X hX).pt
/-- .. as values -/
theorem sx_one {op} {m : R Bool} (h : Sx v .V ρ a eB m) : Sx v .V ρ (.BoolOp op [a] pos) eB m := fun X hX => pe_one (h X hX)
theorem sx_and {rest : List Expr} {m n : R Bool} (h : Sx v .V ρ a eB m) (h' : Sx v .V ρ (.BoolOp .And (b :: rest) pos) eB n) : Sx v .V ρ (.BoolOp .And (a :: b :: rest) pos) eB (m.bind fun c => if c then n else .ok false) := fun X hX =>
  (pe_and (h X hX) (h' X hX)).weak fun σ H Q ⟨B, F, hE, hW⟩ => ⟨B, F, hE, hW.bind fun c _ hW u H' F' s r => by
    cases r
    refine ⟨c, rfl, ?_⟩
    cases c with
    | true => exact ⟨B, F', hE.step s, hW.step s⟩
    | false => exact Po.step (μ := .V) s hW _ H' F' (.refl s.sub) (.bl false)⟩
theorem sx_or {rest : List Expr} {m n : R Bool} (h : Sx v .V ρ a eB m) (h' : Sx v .V ρ (.BoolOp .Or (b :: rest) pos) eB n) : Sx v .V ρ (.BoolOp .Or (a :: b :: rest) pos) eB (m.bind fun c => if c then .ok true else n) := fun X hX =>
  (pe_or (h X hX) (h' X hX)).weak fun σ H Q ⟨B, F, hE, hW⟩ => ⟨B, F, hE, hW.bind fun c _ hW u H' F' s r => by
    cases r
    refine ⟨c, rfl, ?_⟩
    cases c with
    | true => exact Po.step (μ := .V) s hW _ H' F' (.refl s.sub) (.bl true)
    | false => exact ⟨B, F', hE.step s, hW.step s⟩⟩
theorem sx_andP {rest : List Expr} {c d : Bool} (h : Sx v .V ρ a eB (.ok c)) (h' : Sx v .V ρ (.BoolOp .And (b :: rest) pos) eB (.ok d)) : Sx v .V ρ (.BoolOp .And (a :: b :: rest) pos) eB (.ok (c && d)) := by
  have q := sx_and h h'
  cases c <;> exact q
theorem sx_orP {rest : List Expr} {c d : Bool} (h : Sx v .V ρ a eB (.ok c)) (h' : Sx v .V ρ (.BoolOp .Or (b :: rest) pos) eB (.ok d)) : Sx v .V ρ (.BoolOp .Or (a :: b :: rest) pos) eB (.ok (c || d)) := by
  have q := sx_or h h'
  cases c <;> exact q
theorem sx_not {m : R Bool} (h : Sx v .V ρ a eB m) : Sx v .V ρ (.UnaryOp .Not a pos) eB (m.bind fun c => .ok (!c)) := fun X hX => (pe_not (h X hX)).weak fun σ H Q ⟨B, F, hE, hW⟩ =>
  ⟨B, F, hE, hW.bind fun c _ hW u H' F' s r => by
    cases r
    exact ⟨c, rfl, Po.step (μ := .V) s hW _ H' F' (.refl s.sub) (.bl _)⟩⟩
/-- a if t else b -/
theorem sx_if {c : Expr} {m n : R α} (hc : Tt v ρ c mt) (ha : Sx v μ ρ a enc m) (hb : Sx v μ ρ b enc n) : Sx v μ ρ (.IfExp c a b pos) enc (mt.bind fun t => if t then m else n) := fun X hX =>
  (pe_ifExp (hc X hX) (ha X hX) (hb X hX)).weak fun σ H Q ⟨B, F, hE, hW⟩ => by
    refine ⟨B, F, hE, ?_⟩
    cases mt with
    | ok t =>
      intro H' F' s
      cases t with
      | true => exact ⟨B, F', hE.step s, Want.step s hW⟩
      | false => exact ⟨B, F', hE.step s, Want.step s hW⟩
    | exc x => exact hW
    | bad => exact hW
theorem sx_ifP {c : Expr} {t : Bool} {x y : α} (hc : Tt v ρ c (.ok t)) (ha : Sx v μ ρ a enc (.ok x)) (hb : Sx v μ ρ b enc (.ok y)) : Sx v μ ρ (.IfExp c a b pos) enc (.ok (if t then x else y)) := by
  have q := sx_if (pos := pos) hc ha hb
  cases t <;> exact q
end
end Cw
namespace Cw
open PySem PySem.Spec PyProof.Rows L2
variable {α β γ δ : Type} {v : Vw} {ρ : Rho}

theorem nwInt {F H : Hp} {x : V} {i : Int} (h : Nw F H x (.int i)) : x = .int i := by
  rcases h with h | ⟨_, _, _, h⟩
  · cases h; rfl
  · exact h.elim
theorem nwBl {F H : Hp} {x : V} {i : Bool} (h : Nw F H x (.bool i)) : x = .bl i := by
  rcases h with h | ⟨_, _, _, h⟩
  · cases h; rfl
  · exact h.elim
theorem nwStr {F H : Hp} {x : V} {i : Str} (h : Nw F H x (.str i)) : x = .str i := by
  rcases h with h | ⟨_, _, _, h⟩
  · cases h; rfl
  · exact h.elim
theorem nwNon {F H : Hp} {x : V} (h : Nw F H x .none) : x = .non := by
  rcases h with h | ⟨_, _, _, h⟩
  · cases h; rfl
  · exact h.elim
/-- a list that is read: where it stands -/
theorem nwLst {F H : Hp} {x : V} {ds : List D} (s : Same F H) (h : Nw F H x (.list ds)) : ∃ p xs, x = .ref p ∧ H p = some (.lst xs) ∧ RpA F xs ds ∧ xs.length ≤ sizeLine := by
  rcases h with h | ⟨p, e, _, xs, h1, z, h2⟩
  · cases h with | lst e z r => exact ⟨_, _, rfl, s _ _ e, r, z⟩
  · exact ⟨p, xs, e, h1, h2, z⟩
theorem nwTup {F H : Hp} {x : V} {ds : List D} (s : Same F H) (h : Nw F H x (.tuple ds)) : ∃ p xs, x = .ref p ∧ H p = some (.tup xs) ∧ F p = some (.tup xs) ∧ RpA F xs ds ∧ xs.length ≤ sizeLine := by
  rcases h with h | ⟨_, _, _, h⟩
  · cases h with | tup e z r => exact ⟨_, _, rfl, s _ _ e, e, r, z⟩
  · exact h.elim
theorem nwSeq {K : PySem.W.Frag} {F H : Hp} {x : V} {d : D} {ds : List D} (s : Same F H) (h : Nw F H x d) (hd : d = .list ds ∨ d = .tuple ds) : ∃ p xs, x = .ref p ∧ (SqL K H p xs ∨ SqT K H p xs) ∧ RpA F xs ds ∧ xs.length ≤ sizeLine := by
  rcases hd with rfl | rfl
  · obtain ⟨p, xs, e, h1, r⟩ := nwLst s h; exact ⟨p, xs, e, .inl (.of h1), r⟩
  · obtain ⟨p, xs, e, h1, _, r⟩ := nwTup s h; exact ⟨p, xs, e, .inr (.of h1), r⟩
mutual
theorem rp_dp {K : PySem.W.Frag} {F H : Hp} (s : Same F H) : ∀ {d : D} {x : V}, d.canLay0 = true → Rp F x d → Dp K H x d
  | _, _, _, .non => .non
  | _, _, _, .bl b => .bl b
  | _, _, _, .int i => .int i
  | _, _, _, .str y => .str y
  | _, _, h, .lst e _ r => .lst (.of (s _ _ e)) (rpA_dp s (by simpa [PyData.canLay0] using h) r)
  | _, _, h, .tup e _ r => .tup (.of (s _ _ e)) (rpA_dp s (by simpa [PyData.canLay0] using h) r)
  | _, _, h, .dic e => by simp [PyData.canLay0] at h
theorem rpA_dp {K : PySem.W.Frag} {F H : Hp} (s : Same F H) : ∀ {ds : List D} {xs : List V}, PyData.canLayAll0 ds = true → RpA F xs ds → DpAll K H xs ds
  | _, _, _, .nil => .nil
  | _, _, h, .cons r t => by
    simp only [PyData.canLayAll0, Bool.and_eq_true] at h
    exact .cons (rp_dp s h.1 r) (rpA_dp s h.2 t)
end
theorem nw_dp {K : PySem.W.Frag} {F H : Hp} {d : D} {x : V} (s : Same F H) (c : d.canLay0 = true) (h : Nw F H x d) : Dp K H x d := by
  rcases h with h | ⟨p, rfl, _, h⟩
  · exact rp_dp s c h
  · cases d with
    | list ds => obtain ⟨xs, e, _, r⟩ := h; exact .lst (.of e) (rpA_dp s (by simpa [PyData.canLay0] using c) r)
    | dict kvs => simp [PyData.canLay0] at c
    | _ => exact h.elim

/-! ### ints -/
theorem op2I {f : Value → Value → Sem Value} {C : Int → Int → Prop} {k : Int → Int → V} {ec : γ → D} (rule : ∀ X, OpR X f (rI C k)) (g : Int → Int → R γ) (hx : ∀ i j x, g i j ≠ .exc x)
    (hg : ∀ F i j c, g i j = .ok c → C i j ∧ Rp F (k i j) (ec c)) : Op2 v f .V eI eI ec g where
  calm := hx
  run := fun X hX => (rule X).weak fun x y H Q ⟨F, a, b, s, na, nb, c, e, q⟩ =>
    ⟨a, b, nwInt na, nwInt nb, (hg F a b c e).1, q _ H F (.refl s) (hg F a b c e).2⟩
theorem op2I0 {f : Value → Value → Sem Value} {k : Int → Int → V} {ec : γ → D} {g : Int → Int → γ} (rule : ∀ X, OpR X f (rI0 k)) (hg : ∀ F i j, Rp F (k i j) (ec (g i j))) : Op2 v f .V eI eI ec (fun i j => .ok (g i j)) where
  calm := fun _ _ _ => nofun
  run := fun X hX => (rule X).weak fun x y H Q ⟨F, a, b, s, na, nb, c, e, q⟩ => by
    cases e
    exact ⟨a, b, nwInt na, nwInt nb, q _ H F (.refl s) (hg F a b)⟩
theorem o_add : Op2 v (binaryOp .Add) .V eI eI eI fun i j => .ok (i + j) := op2I0 (fun _ => op_add) fun F i j => .int _
theorem o_sub : Op2 v (binaryOp .Sub) .V eI eI eI fun i j => .ok (i - j) := op2I0 (fun _ => op_sub) fun F i j => .int _
def mulOk (i j : Int) : Bool := decide (i.natAbs < 2 ^ 64) || decide (j.natAbs < 2 ^ 64) || decide (i.natAbs.log2 + j.natAbs.log2 < 1000000)
def mulR (i j : Int) : R Int := if mulOk i j then .ok (i * j) else .bad
theorem o_mul : Op2 v (binaryOp .Mult) .V eI eI eI mulR where
  calm := fun i j x => by unfold mulR; split <;> nofun
  run := fun X hX => (OpR.or op_mul op_mulW).weak fun x y H Q ⟨F, a, b, s, na, nb, c, e, q⟩ => by
    unfold mulR at e
    split at e
    · rename_i h
      cases e
      simp only [mulOk, Bool.or_eq_true, decide_eq_true_eq] at h
      have fin := q _ H F (.refl s) (.int (a * b))
      rcases h with (h | h) | h
      · exact .inl ⟨a, b, nwInt na, nwInt nb, .inl (by omega), fin⟩
      · exact .inl ⟨a, b, nwInt na, nwInt nb, .inr (by omega), fin⟩
      · exact .inr ⟨a, b, nwInt na, nwInt nb, h, fin⟩
    · cases e
def divR (i j : Int) : R Int := if 0 < j ∧ j.natAbs.log2 < 9000 then .ok (i / j) else .bad
def modR (i j : Int) : R Int := if 0 < j then .ok (i % j) else .bad
def powR (i j : Int) : R Int := if 0 ≤ j ∧ j ≤ 1000000 ∧ i.natAbs < 2 ^ 64 then .ok (i ^ j.toNat) else .bad
theorem o_div : Op2 v (binaryOp .FloorDiv) .V eI eI eI divR := op2I (fun _ => op_fdivW) divR (fun i j x => by unfold divR; split <;> nofun) fun F i j c e => by
  unfold divR at e
  split at e
  · rename_i h; cases e; exact ⟨h, .int _⟩
  · cases e
theorem o_mod : Op2 v (binaryOp .Mod) .V eI eI eI modR := op2I (fun _ => op_mod) modR (fun i j x => by unfold modR; split <;> nofun) fun F i j c e => by
  unfold modR at e
  split at e
  · rename_i h; cases e; exact ⟨h, .int _⟩
  · cases e
theorem o_pow : Op2 v (binaryOp .Pow) .V eI eI eI powR := op2I (fun _ => op_pow) powR (fun i j x => by unfold powR; split <;> nofun) fun F i j c e => by
  unfold powR at e
  split at e
  · rename_i h; cases e; exact ⟨h, .int _⟩
  · cases e
theorem o_lt : Op2 v (compareOp .Lt) .V eI eI eB fun i j => .ok (decide (i < j)) := op2I0 (fun _ => op_lt) fun F i j => .bl _
theorem o_le : Op2 v (compareOp .LtE) .V eI eI eB fun i j => .ok (decide (i ≤ j)) := op2I0 (fun _ => op_le) fun F i j => .bl _
theorem o_gt : Op2 v (compareOp .Gt) .V eI eI eB fun i j => .ok (decide (j < i)) := op2I0 (fun _ => op_gt) fun F i j => .bl _
theorem o_ge : Op2 v (compareOp .GtE) .V eI eI eB fun i j => .ok (decide (j ≤ i)) := op2I0 (fun _ => op_ge) fun F i j => .bl _
/-- texts -/
def addS (x y : Str) : R Str := if x.length + y.length ≤ sizeLine then .ok (x ++ y) else .bad
theorem o_addS : Op2 v (binaryOp .Add) .V eS eS eS addS where
  calm := fun i j x => by unfold addS; split <;> nofun
  run := fun X hX => op_add_str.weak fun x y H Q ⟨F, a, b, s, na, nb, c, e, q⟩ => by
    unfold addS at e
    split at e
    · rename_i h; cases e; exact ⟨a, b, nwStr na, nwStr nb, h, q _ H F (.refl s) (.str _)⟩
    · cases e

/-! ### == of data -/
theorem hasU {X : Cx} (hX : v.Has X) : X.A.units + 65 < cLine := by have := hX.room.un; omega
def eqR (a b : D) : R Bool := if SeqAt.shaped a && SeqAt.shaped b then .ok (PyData.eqv a b) else .bad
theorem eqR_calm (a b : D) (x : Ex) : eqR a b ≠ .exc x := by unfold eqR; split <;> nofun
theorem o_eqD : Op2 v (compareOp .Eq) .V eD eD eB eqR where
  calm := eqR_calm
  run := fun X hX => (op_eqD (by have := hasU hX; omega)).weak fun x y H Q ⟨F, a, b, s, na, nb, c, e, q⟩ => by
    unfold eqR at e
    split at e
    · rename_i h
      rw [Bool.and_eq_true] at h
      cases e
      exact ⟨a, b, nw_dp s (SeqAt.canLay_of_shaped h.1) na, nw_dp s (SeqAt.canLay_of_shaped h.2) nb, h.1, h.2, q _ H F (.refl s) (.bl _)⟩
    · cases e
def neR (a b : D) : R Bool := (eqR a b).map fun c => !c
theorem o_neD : Op2 v (compareOp .NotEq) .V eD eD eB neR where
  calm := fun a b x => by unfold neR eqR; split <;> nofun
  run := fun X hX => (op_neD (by have := hasU hX; omega)).weak fun x y H Q ⟨F, a, b, s, na, nb, c, e, q⟩ => by
    unfold neR eqR at e
    split at e
    · rename_i h
      rw [Bool.and_eq_true] at h
      cases e
      exact ⟨a, b, nw_dp s (SeqAt.canLay_of_shaped h.1) na, nw_dp s (SeqAt.canLay_of_shaped h.2) nb, h.1, h.2, q _ H F (.refl s) (.bl _)⟩
    · cases e
/-- data of one kind: of depth n at most, its == is = -/
structure Eqq {α : Type} [DecidableEq α] (n : Nat) (e : α → D) : Prop where
  lay : ∀ a, (e a).canLay0 = true
  dep : ∀ a, (e a).depth ≤ n
  eq : ∀ a b, PyData.eqv (e a) (e b) = decide (a = b)
theorem eqq_int : Eqq 1 eI := ⟨fun _ => by simp [eI, PyData.canLay0], fun _ => by simp [eI, PyData.depth], fun a b => by simp [eI, PyData.eqv, Bool.beq_eq_decide_eq]⟩
theorem eqq_bool : Eqq 1 eB := ⟨fun _ => by simp [eB, PyData.canLay0], fun _ => by simp [eB, PyData.depth], fun a b => by simp [eB, PyData.eqv, Bool.beq_eq_decide_eq]⟩
theorem eqvAll_map [DecidableEq α] {e : α → D} (h : ∀ a b, PyData.eqv (e a) (e b) = decide (a = b)) : ∀ xs ys : List α, PyData.eqvAll (xs.map e) (ys.map e) = decide (xs = ys)
  | [], [] => by simp [PyData.eqvAll]
  | [], _ :: _ => by simp [PyData.eqvAll]
  | _ :: _, [] => by simp [PyData.eqvAll]
  | x :: xs, y :: ys => by
    simp only [List.map_cons, PyData.eqvAll, h, eqvAll_map h xs ys]
    simp [Bool.decide_and]
theorem layAll_map {e : α → D} (h : ∀ a, (e a).canLay0 = true) : ∀ xs : List α, PyData.canLayAll0 (xs.map e) = true
  | [] => by simp [PyData.canLayAll0]
  | x :: xs => by simp [PyData.canLayAll0, h, layAll_map h xs]
theorem depAll_map {n : Nat} {e : α → D} (h : ∀ a, (e a).depth ≤ n) : ∀ xs : List α, PyData.depthAll (xs.map e) ≤ n
  | [] => by simp [PyData.depthAll]
  | x :: xs => by
    have h1 := h x
    have h2 := depAll_map h xs
    simp [PyData.depthAll]
    omega
theorem Eqq.tup [DecidableEq α] {n : Nat} {e : α → D} (h : Eqq n e) : Eqq (n + 1) (eT e) :=
  ⟨fun xs => by simp [eT, PyData.canLay0, layAll_map h.lay], fun xs => by have := depAll_map h.dep xs; simp [eT, PyData.depth]; omega, fun xs ys => by simp [eT, PyData.eqv, eqvAll_map h.eq]⟩
theorem Eqq.lst [DecidableEq α] {n : Nat} {e : α → D} (h : Eqq n e) : Eqq (n + 1) (eL e) :=
  ⟨fun xs => by simp [eL, PyData.canLay0, layAll_map h.lay], fun xs => by have := depAll_map h.dep xs; simp [eL, PyData.depth]; omega, fun xs ys => by simp [eL, PyData.eqv, eqvAll_map h.eq]⟩
theorem Eqq.pair [DecidableEq α] [DecidableEq β] {n m : Nat} {e : α → D} {f : β → D} (h : Eqq n e) (k : Eqq m f) : Eqq (max n m + 1) (eP e f) :=
  ⟨fun p => by simp [eP, PyData.canLay0, PyData.canLayAll0, h.lay, k.lay], fun p => by have := h.dep p.1; have := k.dep p.2; simp [eP, PyData.depth, PyData.depthAll]; omega,
   fun p q => by simp [eP, PyData.eqv, PyData.eqvAll, h.eq, k.eq, Prod.ext_iff, Bool.decide_and]⟩
theorem Eqq.trip [DecidableEq α] [DecidableEq β] [DecidableEq γ] {n m l : Nat} {e : α → D} {f : β → D} {g : γ → D} (h : Eqq n e) (k : Eqq m f) (j : Eqq l g) : Eqq (max n (max m l) + 1) (eP3 e f g) :=
  ⟨fun p => by simp [eP3, PyData.canLay0, PyData.canLayAll0, h.lay, k.lay, j.lay], fun p => by have := h.dep p.1; have := k.dep p.2.1; have := j.dep p.2.2; simp [eP3, PyData.depth, PyData.depthAll]; omega,
   fun p q => by simp [eP3, PyData.eqv, PyData.eqvAll, h.eq, k.eq, j.eq, Prod.ext_iff, Bool.decide_and]⟩
theorem Eqq.shaped [DecidableEq α] {n : Nat} {e : α → D} (h : Eqq n e) (hn : n ≤ 64) (a : α) : SeqAt.shaped (e a) = true := by
  unfold SeqAt.shaped
  rw [h.lay, decide_eq_true (Nat.le_trans (h.dep a) hn)]
  rfl
theorem o_eq [DecidableEq α] {n : Nat} {e : α → D} (h : Eqq n e) (hn : n ≤ 64 := by decide) : Op2 v (compareOp .Eq) .V e e eB fun a b => .ok (decide (a = b)) where
  calm := fun _ _ _ => nofun
  run := fun X hX => (o_eqD.run X hX).weak fun x y H Q ⟨F, a, b, s, na, nb, c, q, w⟩ => by
    cases q
    exact ⟨F, e a, e b, s, na, nb, decide (a = b), by simp [eqR, h.shaped hn, h.eq], w⟩
theorem o_ne [DecidableEq α] {n : Nat} {e : α → D} (h : Eqq n e) (hn : n ≤ 64 := by decide) : Op2 v (compareOp .NotEq) .V e e eB fun a b => .ok (!decide (a = b)) where
  calm := fun _ _ _ => nofun
  run := fun X hX => (o_neD.run X hX).weak fun x y H Q ⟨F, a, b, s, na, nb, c, q, w⟩ => by
    cases q
    exact ⟨F, e a, e b, s, na, nb, !decide (a = b), by simp [neR, eqR, h.shaped hn, h.eq], w⟩
/-- texts: whatever signs they have -/
theorem o_eqS : Op2 v (compareOp .Eq) .V eS eS eB fun a b => .ok (decide (a = b)) where
  calm := fun _ _ _ => nofun
  run := fun X hX => op_eq.weak fun x y H Q ⟨F, a, b, s, na, nb, c, q, w⟩ => by
    cases q
    rw [nwStr na, nwStr nb]
    exact ⟨rfl, by have := w (.bl (decide (V.str a = V.str b))) H F (.refl s) (by rw [show decide (V.str a = V.str b) = decide (a = b) by simp]; exact .bl _); exact this⟩
/-! ### is -/
def isNon : D → Bool
  | .none => true
  | _ => false
def isNonR (d : D) (_ : Unit) : R Bool := .ok (isNon d)
theorem nw_non {F H : Hp} {x : V} {d : D} (h : Nw F H x d) : decide (x = .non) = isNon d := by
  rcases h with h | ⟨p, rfl, _, h⟩
  · cases h <;> simp [isNon]
  · cases d with
    | list ds => simp [isNon]
    | dict kvs => simp [isNon]
    | _ => exact h.elim
theorem o_isN : Op2 v (compareOp .Is) .V eD eN eB isNonR where
  calm := fun _ _ _ => nofun
  run := fun X hX => op_isN.weak fun x y H Q ⟨F, a, b, s, na, nb, c, q, w⟩ => by
    cases q
    exact ⟨nwNon nb, w _ H F (.refl s) (by rw [nw_non na]; exact .bl _)⟩
def isntNonR (d : D) (_ : Unit) : R Bool := .ok (!isNon d)
theorem o_isntN : Op2 v (compareOp .IsNot) .V eD eN eB isntNonR where
  calm := fun _ _ _ => nofun
  run := fun X hX => op_notN.weak fun x y H Q ⟨F, a, b, s, na, nb, c, q, w⟩ => by
    cases q
    exact ⟨nwNon nb, w _ H F (.refl s) (by rw [nw_non na]; exact .bl _)⟩
theorem o_isB : Op2 v (compareOp .Is) .V eB eB eB fun a b => .ok (decide (a = b)) where
  calm := fun _ _ _ => nofun
  run := fun X hX => op_isBl.weak fun x y H Q ⟨F, a, b, s, na, nb, c, q, w⟩ => by
    cases q
    exact ⟨a, b, nwBl na, nwBl nb, w _ H F (.refl s) (.bl _)⟩
theorem o_isntB : Op2 v (compareOp .IsNot) .V eB eB eB fun a b => .ok (!decide (a = b)) where
  calm := fun _ _ _ => nofun
  run := fun X hX => op_notBl.weak fun x y H Q ⟨F, a, b, s, na, nb, c, q, w⟩ => by
    cases q
    exact ⟨a, b, nwBl na, nwBl nb, w _ H F (.refl s) (.bl _)⟩

/-! ### in -/
def inD (d : D) (ds : List D) : R Bool := if SeqAt.shaped d && SeqAt.shaped (.list ds) then .ok (ds.any fun z => PyData.eqv z d) else .bad
theorem o_inLD : Op2 v (compareOp .In) .V eD (eL eD) eB inD where
  calm := fun a b x => by unfold inD; split <;> nofun
  run := fun X hX => (op_inD (hasU hX)).weak fun x y H Q ⟨F, a, b, s, na, nb, c, e, q⟩ => by
    unfold inD at e
    split at e
    · rename_i h
      rw [Bool.and_eq_true] at h
      cases e
      simp only [eL, eD, List.map_id, id] at nb
      exact ⟨a, b, nw_dp s (SeqAt.canLay_of_shaped h.1) na, nw_dp s (SeqAt.canLay_of_shaped h.2) nb, h.1, h.2, q _ H F (.refl s) (.bl _)⟩
    · cases e
def notInD (d : D) (ds : List D) : R Bool := (inD d ds).map fun c => !c
theorem o_notInLD : Op2 v (compareOp .NotIn) .V eD (eL eD) eB notInD where
  calm := fun a b x => by unfold notInD inD; split <;> nofun
  run := fun X hX => (op_notInD (hasU hX)).weak fun x y H Q ⟨F, a, b, s, na, nb, c, e, q⟩ => by
    unfold notInD inD at e
    split at e
    · rename_i h
      rw [Bool.and_eq_true] at h
      cases e
      simp only [eL, eD, List.map_id, id] at nb
      exact ⟨a, b, nw_dp s (SeqAt.canLay_of_shaped h.1) na, nw_dp s (SeqAt.canLay_of_shaped h.2) nb, h.1, h.2, q _ H F (.refl s) (.bl _)⟩
    · cases e
theorem any_eqv [DecidableEq α] {n : Nat} {e : α → D} (h : Eqq n e) (a : α) (b : List α) : ((b.map e).any fun z => PyData.eqv z (e a)) = decide (a ∈ b) := by
  rw [List.any_map]
  rw [Bool.eq_iff_iff]
  simp only [List.any_eq_true, Function.comp, h.eq, decide_eq_true_eq]
  constructor
  · rintro ⟨x, hx, rfl⟩; exact hx
  · intro hx; exact ⟨a, hx, rfl⟩
theorem o_inL [DecidableEq α] {n : Nat} {e : α → D} (h : Eqq n e) (hn : n ≤ 63 := by decide) : Op2 v (compareOp .In) .V e (eL e) eB fun a b => .ok (decide (a ∈ b)) where
  calm := fun _ _ _ => nofun
  run := fun X hX => (o_inLD.run X hX).weak fun x y H Q ⟨F, a, b, s, na, nb, c, q, w⟩ => by
    cases q
    refine ⟨F, e a, b.map e, s, na, by simpa [eL, eD] using nb, decide (a ∈ b), ?_, w⟩
    have h1 := h.shaped (by omega) a
    have h2 := h.lst.shaped (by omega) b
    unfold eL at h2
    simp [inD, h1, h2, any_eqv h]
theorem o_notInL [DecidableEq α] {n : Nat} {e : α → D} (h : Eqq n e) (hn : n ≤ 63 := by decide) : Op2 v (compareOp .NotIn) .V e (eL e) eB fun a b => .ok (!decide (a ∈ b)) where
  calm := fun _ _ _ => nofun
  run := fun X hX => (o_notInLD.run X hX).weak fun x y H Q ⟨F, a, b, s, na, nb, c, q, w⟩ => by
    cases q
    refine ⟨F, e a, b.map e, s, na, by simpa [eL, eD] using nb, !decide (a ∈ b), ?_, w⟩
    have h1 := h.shaped (by omega) a
    have h2 := h.lst.shaped (by omega) b
    unfold eL at h2
    simp [notInD, inD, h1, h2, any_eqv h]
theorem inV_ints (a : Int) (b : List Int) : inV (.int a) (b.map V.int) = decide (a ∈ b) := by
  unfold inV
  rw [List.any_map, Bool.eq_iff_iff]
  simp only [List.any_eq_true, Function.comp, eqV, decide_eq_true_eq, beq_iff_eq]
  constructor
  · rintro ⟨x, hx, rfl⟩; exact hx
  · intro hx; exact ⟨a, hx, rfl⟩
theorem flat_ints (b : List Int) : (b.map V.int).all flatV = true := by simp [flatV]
/-- ints in a tuple of ints -/
theorem o_inTI : Op2 v (compareOp .In) .V eI (eT eI) eB fun a b => .ok (decide (a ∈ b)) where
  calm := fun _ _ _ => nofun
  run := fun X hX => op_in_seq.weak fun x y H Q ⟨F, a, b, s, na, nb, c, q, w⟩ => by
    cases q
    obtain ⟨p, xs, rfl, h1, _, r, _⟩ := nwTup s nb
    obtain rfl := r.ints
    exact ⟨p, _, rfl, .inr (.of h1), by rw [nwInt na]; rfl, flat_ints b, by rw [nwInt na, inV_ints]; exact w _ H F (.refl s) (.bl _)⟩
theorem o_notInTI : Op2 v (compareOp .NotIn) .V eI (eT eI) eB fun a b => .ok (!decide (a ∈ b)) where
  calm := fun _ _ _ => nofun
  run := fun X hX => op_notIn_seq.weak fun x y H Q ⟨F, a, b, s, na, nb, c, q, w⟩ => by
    cases q
    obtain ⟨p, xs, rfl, h1, _, r, _⟩ := nwTup s nb
    obtain rfl := r.ints
    exact ⟨p, _, rfl, .inr (.of h1), by rw [nwInt na]; rfl, flat_ints b, by rw [nwInt na, inV_ints]; exact w _ H F (.refl s) (.bl _)⟩
end Cw
namespace Cw
open PySem PySem.Spec PyProof.Rows L2
variable {α β γ δ : Type} {v : Vw} {ρ : Rho} {μ : Md} {ea : α → D} {eb : β → D} {ec : γ → D} {a b : Expr} {ma : R α} {mb : R β} {p pos : Pos}

/-! ## calls of built-ins -/
theorem _root_.L2.CallR.weak {X : Cx} {f : Value} {r r' : List V → Hp → VK → Prop} (h : CallR X f r) (w : ∀ xs H Q, r' xs H Q → r xs H Q) : CallR X f r' :=
  fun pins s σ H xs us Q I rv q => h pins s σ H xs us Q I rv (w _ _ _ q)
structure Cl1 (v : Vw) (f : Value) (μ : Md) (ea : α → D) (ec : γ → D) (g : α → R γ) : Prop where
  calm : ∀ a x, g a ≠ .exc x
  run : ∀ X, v.Has X → CallR X f fun xs H Q => ∃ F x a, xs = [x] ∧ Same F H ∧ Nw F H x (ea a) ∧ ∃ c, g a = .ok c ∧ Po μ F H (ec c) Q
structure Cl2 (v : Vw) (f : Value) (μ : Md) (ea : α → D) (eb : β → D) (ec : γ → D) (g : α → β → R γ) : Prop where
  calm : ∀ a b x, g a b ≠ .exc x
  run : ∀ X, v.Has X → CallR X f fun xs H Q => ∃ F x y a b, xs = [x, y] ∧ Same F H ∧ Nw F H x (ea a) ∧ Nw F H y (eb b) ∧ ∃ c, g a b = .ok c ∧ Po μ F H (ec c) Q
theorem Want.imp {σ : L2.St} {F H : Hp} {enc : α → D} {m : R α} {Q Q' : VK} (h : Want v μ σ F H enc m Q) (f : ∀ u H, Q u H → Q' u H) : Want v μ σ F H enc m Q' := by
  cases m with
  | ok a => exact Po.imp h f
  | exc x => exact h
  | bad => exact h
theorem rd.imp {σ : L2.St} {H : Hp} {enc : α → D} {m : R α} {Q Q' : VK} (h : rd v μ ρ enc m σ H Q) (f : ∀ u H, Q u H → Q' u H) : rd v μ ρ enc m σ H Q' :=
  let ⟨B, F, h1, h2⟩ := h
  ⟨B, F, h1, h2.imp f⟩
theorem one {g : α → R γ} {σ : L2.St} {F H : Hp} {B : Bs} {Q : VK} (hx : ∀ a x, g a ≠ .exc x) (hE : EnvOk v.K B F H σ ρ) (hW : Want v μ σ F H ec (ma.bind fun x => g x) Q) :
    rd v .P ρ ea ma σ H fun x H1 => ∃ F x' a, [x] = [x'] ∧ Same F H1 ∧ Nw F H1 x' (ea a) ∧ ∃ c, g a = .ok c ∧ Po μ F H1 (ec c) Q := by
  refine ⟨B, F, hE, hW.bind fun a _ hW => ?_⟩
  intro u H1 F1 s1 n1
  obtain ⟨c, e, q⟩ := want_no (hx a) hW
  exact ⟨F1, u, a, rfl, s1.sub, n1, c, e, q.step s1⟩
section
variable {x : Str} {id : String} {T : String}
theorem sx_b1 {g : α → R γ} (c : Cl1 v (.builtin id) μ ea ec g) (hm : v.mg x = none) (hv : bootBuiltins x = some (.builtin id)) (ha : Sx v .P ρ a ea ma) (hg : v.sc.names.lookup x = some .globalImplicit := by rfl)
    (he : ∀ env, starEach [a] env = (false, eval a env) :: starEach [] env := by intro _; rfl) (hn : x ≠ "__name__" := by decide) (hdb : (x == ("__debug__" : Str)) = false := by decide) :
    Sx v μ ρ (.Call (.Name x p) [a] [] pos) ec (ma.bind fun x => g x) := fun X hX =>
  (pe_callB (c.run X hX) (hX.gl hg) (by rw [hX.hmg]; exact hm) hv (pa_cons (ha X hX) pa_nil (he _)) hn hdb (he _) (by rfl)).weak fun σ H Q ⟨B, F, hE, hW⟩ => one c.calm hE hW
theorem sx_t1 {g : α → R γ} (c : Cl1 v (.type T) μ ea ec g) (hm : v.mg x = none) (hv : bootBuiltins x = some (.type T)) (ha : Sx v .P ρ a ea ma) (hg : v.sc.names.lookup x = some .globalImplicit := by rfl)
    (he : ∀ env, starEach [a] env = (false, eval a env) :: starEach [] env := by intro _; rfl) (hn : x ≠ "__name__" := by decide) (hdb : (x == ("__debug__" : Str)) = false := by decide) :
    Sx v μ ρ (.Call (.Name x p) [a] [] pos) ec (ma.bind fun x => g x) := fun X hX =>
  (pe_callTy (c.run X hX) (hX.gl hg) (by rw [hX.hmg]; exact hm) hv (pa_cons (ha X hX) pa_nil (he _)) hn hdb (he _) (by rfl)).weak fun σ H Q ⟨B, F, hE, hW⟩ => one c.calm hE hW
theorem two' {g : α → β → R γ} {σ : L2.St} {F H : Hp} {B : Bs} {Q : VK} (hx : ∀ a b x, g a b ≠ .exc x) (hE : EnvOk v.K B F H σ ρ) (hW : Want v μ σ F H ec (ma.bind fun x => mb.bind fun y => g x y) Q) :
    rd v .P ρ ea ma σ H fun x H1 => rd v .P ρ eb mb σ H1 fun y H2 => (∃ F x' y' a b, [x, y] = [x', y'] ∧ Same F H2 ∧ Nw F H2 x' (ea a) ∧ Nw F H2 y' (eb b) ∧ ∃ c, g a b = .ok c ∧ Po μ F H2 (ec c) Q) := by
  exact (two (ea := ea) (eb := eb) hx hE hW).imp fun u H1 h => h.imp fun w H2 ⟨F, a, b, s, n, n2, c, e, q⟩ => ⟨F, u, w, a, b, rfl, s, n, n2, c, e, q⟩
theorem sx_b2 {g : α → β → R γ} (c : Cl2 v (.builtin id) μ ea eb ec g) (hm : v.mg x = none) (hv : bootBuiltins x = some (.builtin id)) (ha : Sx v .P ρ a ea ma) (hb : Sx v .P ρ b eb mb) (hg : v.sc.names.lookup x = some .globalImplicit := by rfl)
    (he : ∀ env, starEach [a, b] env = (false, eval a env) :: starEach [b] env := by intro _; rfl) (he' : ∀ env, starEach [b] env = (false, eval b env) :: starEach [] env := by intro _; rfl) (hn : x ≠ "__name__" := by decide) (hdb : (x == ("__debug__" : Str)) = false := by decide) :
    Sx v μ ρ (.Call (.Name x p) [a, b] [] pos) ec (ma.bind fun x => mb.bind fun y => g x y) := fun X hX =>
  (pe_callB (c.run X hX) (hX.gl hg) (by rw [hX.hmg]; exact hm) hv (pa_cons (ha X hX) (pa_cons (hb X hX) pa_nil (he' _)) (he _)) hn hdb (he _) (by rw [he']; rfl)).weak fun σ H Q ⟨B, F, hE, hW⟩ => two' c.calm hE hW
end

/-! ### isinstance -/
inductive Ty where
  | int | bool | str | tuple | list
def Ty.name : Ty → String
  | .int => "int"
  | .bool => "bool"
  | .str => "str"
  | .tuple => "tuple"
  | .list => "list"
def isA : Ty → D → Bool
  | .int, .int _ => true
  | .int, .bool _ => true
  | .bool, .bool _ => true
  | .str, .str _ => true
  | .tuple, .tuple _ => true
  | .list, .list _ => true
  | _, _ => false
def tyName : D → String
  | .none => "NoneType"
  | .bool _ => "bool"
  | .int _ => "int"
  | .str _ => "str"
  | .list _ => "list"
  | .tuple _ => "tuple"
  | .dict _ => "dict"
theorem kitB_isA (T : Ty) (d : D) : kitB (tyName d) T.name = some (isA T d) := by
  cases T <;> cases d <;> simp only [tyName, Ty.name, isA] <;> decide +kernel
theorem nw_tyX {K : PySem.W.Frag} {F H : Hp} {x : V} {d : D} (s : Same F H) (h : Nw F H x d) : TyX K H x (.type (tyName d)) := by
  rcases h with h | ⟨q, rfl, _, h⟩
  · cases h with
    | non => exact .base .non
    | bl b => exact .base (.bl b)
    | int i => exact .base (.int i)
    | str i => exact .base (.str i)
    | lst e _ _ => exact .base (.lst (s _ _ e))
    | tup e _ _ => exact .base (.tup (s _ _ e))
    | dic e => exact .base (.dK (s _ _ e))
  · cases d with
    | list ds => obtain ⟨xs, e, _, _⟩ := h; exact .base (.lst e)
    | dict kvs =>
      rcases h with ⟨ws, e, _⟩ | ⟨ws, e, _⟩
      · exact .base (.dK e)
      · exact .base (.dT e)
    | _ => exact h.elim
/-- isinstance(e, T) -/
theorem sx_isi (T : Ty) {x : Str} {q : Pos} (hx : x = Str.ofString T.name) (hm : v.mg "isinstance" = none) (hmT : v.mg x = none) (hv : bootBuiltins x = some (.type T.name)) (ha : Sx v .P ρ a ea ma)
    (hg : v.sc.names.lookup ("isinstance" : Str) = some .globalImplicit := by rfl) (hgT : v.sc.names.lookup x = some .globalImplicit := by rfl)
    (he : ∀ y env, starEach [a, y] env = (false, eval a env) :: starEach [y] env := by intro _ _; rfl) (hn : x ≠ "__name__" := by decide) (hdb : (x == ("__debug__" : Str)) = false := by decide) :
    Sx v .V ρ (.Call (.Name "isinstance" p) [a, .Name x q] [] pos) eB (ma.bind fun c => .ok (isA T (ea c))) := fun X hX =>
  (pe_callB (call_isi (X := X)) (hX.gl hg) (by rw [hX.hmg]; exact hm) (by decide +kernel) (pa_cons (ha X hX) (pa_cons (pe_bltn (v := .ty T.name) (hX.gl hgT) (by rw [hX.hmg]; exact hmT) hv rfl hn hdb) pa_nil rfl) (he _ _)) (by decide) (by decide) (he _ _) (by rfl)).weak fun σ H Q ⟨B, F, hE, hW⟩ => by
    refine ⟨B, F, hE, hW.bind fun c _ hW => ?_⟩
    intro u H1 F1 s1 n1
    exact ⟨u, .ty T.name, _, _, _, rfl, .ty _, nw_tyX s1.sub n1, kit_ty (kitB_isA T (ea c)), hW _ H1 F1 s1 (.bl _)⟩
/-- isinstance(e, (T, U)) -/
theorem sx_isi2 (T U : Ty) {x y : Str} {q q2 q3 : Pos} {k : Nat} (hm : v.mg "isinstance" = none) (hmT : v.mg x = none) (hv : bootBuiltins x = some (.type T.name)) (hmU : v.mg y = none) (hv2 : bootBuiltins y = some (.type U.name)) (ha : Sx v .P ρ a ea ma)
    (hg : v.sc.names.lookup ("isinstance" : Str) = some .globalImplicit := by rfl) (hgT : v.sc.names.lookup x = some .globalImplicit := by rfl) (hgU : v.sc.names.lookup y = some .globalImplicit := by rfl)
    (he : ∀ y env, starEach [a, y] env = (false, eval a env) :: starEach [y] env := by intro _ _; rfl) (hn : x ≠ "__name__" := by decide) (hdb : (x == ("__debug__" : Str)) = false := by decide) (hn2 : y ≠ "__name__" := by decide) (hdb2 : (y == ("__debug__" : Str)) = false := by decide) :
    Sx v .V ρ (.Call (.Name "isinstance" p) [a, .Tuple [.Name x q, .Name y q2] k q3] [] pos) eB (ma.bind fun c => .ok (isA T (ea c) || isA U (ea c))) := fun X hX =>
  (pe_callB (call_isiT (X := X)) (hX.gl hg) (by rw [hX.hmg]; exact hm) (by decide +kernel) (pa_cons (ha X hX) (pa_cons (pe_tup (pa_cons (pe_bltn (v := .ty T.name) (hX.gl hgT) (by rw [hX.hmg]; exact hmT) hv rfl hn hdb)
      (pa_cons (pe_bltn (v := .ty U.name) (hX.gl hgU) (by rw [hX.hmg]; exact hmU) hv2 rfl hn2 hdb2) pa_nil rfl) rfl)) pa_nil rfl) (he _ _)) (by decide) (by decide) (he _ _) (by rfl)).weak fun σ H Q ⟨B, F, hE, hW⟩ => by
    refine ⟨B, F, hE, hW.bind fun c _ hW => ?_⟩
    intro u H1 F1 s1 n1
    refine ⟨by show 2 ≤ sizeLine; decide, fun t nt => ?_⟩
    have s2 : Step F1 H1 F1 (upd H1 t (.tup [.ty T.name, .ty U.name])) := .laid s1.sub nt
    refine ⟨u, t, _, _, _, (isA T (ea c) || isA U (ea c)), rfl, upd_same, .cons (.ty _) (.cons (.ty _) .nil), nw_tyX s2.sub (n1.step s2), ?_, hW _ _ F1 (s1.trans s2) (.bl _)⟩
    refine kitAny_cons (kit_ty (kitB_isA T (ea c))) (fun e => ?_) (fun e => by rw [e]; rfl)
    rw [e, Bool.false_or]
    exact kitAny_cons (kit_ty (kitB_isA U (ea c))) (fun e2 => by rw [e2]; exact kitAny_nil) (fun e2 => e2)

/-! ### len, items, slices -/
theorem c_lenD : Cl1 v (.builtin "len") .V eD eI fun d => match d with
    | .list ds => .ok (ds.length : Int)
    | .tuple ds => .ok (ds.length : Int)
    | .str x => if x.length ≤ sizeLine then .ok (x.length : Int) else .bad
    | _ => .bad where
  calm := fun d x => by cases d <;> simp <;> split <;> simp
  run := fun X hX => (CallR.or call_len_seq call_len_str).weak fun xs H Q ⟨F, x, d, e, s, n, c, g, q⟩ => by
    subst e
    cases d with
    | list ds =>
      cases g
      obtain ⟨p, xs, rfl, h, r, _⟩ := nwSeq s n (.inl rfl)
      exact .inl ⟨p, xs, rfl, h, by rw [r.length]; exact q _ H F (.refl s) (.int _)⟩
    | tuple ds =>
      cases g
      obtain ⟨p, xs, rfl, h, r, _⟩ := nwSeq s n (.inr rfl)
      exact .inl ⟨p, xs, rfl, h, by rw [r.length]; exact q _ H F (.refl s) (.int _)⟩
    | str y =>
      dsimp only at g
      split at g
      · rename_i h
        cases g
        exact .inr ⟨y, by rw [nwStr n], h, q _ H F (.refl s) (.int _)⟩
      · cases g
    | _ => cases g
def lenD (d : D) : R Int := match d with
    | .list ds => .ok (ds.length : Int)
    | .tuple ds => .ok (ds.length : Int)
    | .str x => if x.length ≤ sizeLine then .ok (x.length : Int) else .bad
    | _ => .bad
theorem Cl1.of {f : Value} {g : D → R γ} {g' : α → R γ} (c : Cl1 v f μ eD ec g) (h : ∀ a, g' a = g (ea a)) : Cl1 v f μ ea ec g' where
  calm := fun a x => by rw [h]; exact c.calm _ x
  run := fun X hX => (c.run X hX).weak fun xs H Q ⟨F, x, a, e, s, n, c, g, q⟩ => ⟨F, x, ea a, e, s, n, c, by rw [← h]; exact g, q⟩
theorem sx_lenD (hm : v.mg "len" = none) {m : R D} (ha : Sx v .P ρ a eD m) (hg : v.sc.names.lookup ("len" : Str) = some .globalImplicit := by rfl) (he : ∀ env, starEach [a] env = (false, eval a env) :: starEach [] env := by intro _; rfl) :
    Sx v .V ρ (.Call (.Name "len" p) [a] [] pos) eI (m.bind lenD) := sx_b1 c_lenD hm PySem.boot_len ha hg he
theorem sx_lenL {e : α → D} (hm : v.mg "len" = none) {m : R (List α)} (ha : Sx v .P ρ a (eL e) m) (hg : v.sc.names.lookup ("len" : Str) = some .globalImplicit := by rfl) (he : ∀ env, starEach [a] env = (false, eval a env) :: starEach [] env := by intro _; rfl) :
    Sx v .V ρ (.Call (.Name "len" p) [a] [] pos) eI (m.bind fun xs => .ok (xs.length : Int)) := sx_b1 (c_lenD.of fun xs => by simp [eL]) hm PySem.boot_len ha hg he
theorem sx_lenT {e : α → D} (hm : v.mg "len" = none) {m : R (List α)} (ha : Sx v .P ρ a (eT e) m) (hg : v.sc.names.lookup ("len" : Str) = some .globalImplicit := by rfl) (he : ∀ env, starEach [a] env = (false, eval a env) :: starEach [] env := by intro _; rfl) :
    Sx v .V ρ (.Call (.Name "len" p) [a] [] pos) eI (m.bind fun xs => .ok (xs.length : Int)) := sx_b1 (c_lenD.of fun xs => by simp [eT]) hm PySem.boot_len ha hg he

structure Ix2 (v : Vw) (ea : α → D) (eb : β → D) (ec : γ → D) (g : α → β → R γ) : Prop where
  calm : ∀ a b x, g a b ≠ .exc x
  run : ∀ X, v.Has X → IxR X fun x y H Q => ∃ F a b, Same F H ∧ Nw F H x (ea a) ∧ Nw F H y (eb b) ∧ ∃ c, g a b = .ok c ∧ Po .V F H (ec c) Q
theorem _root_.L2.IxR.weak {X : Cx} {r r' : R2} (h : IxR X r) (w : ∀ x y H Q, r' x y H Q → r x y H Q) : IxR X r' :=
  fun ve se pins s σ H x y a b Q I r1 r2 q k => h ve se pins s σ H x y a b Q I r1 r2 (w _ _ _ _ q) k
theorem sx_ix {g : α → β → R γ} (o : Ix2 v ea eb ec g) (ha : Sx v .P ρ a ea ma) (hb : Sx v .P ρ b eb mb) (hs : PlainIx b := by intro _ _; rfl) : Sx v .V ρ (.Subscript a b pos) ec (ma.bind fun x => mb.bind fun y => g x y) := fun X hX =>
  (pe_ix (o.run X hX) (ha X hX) (hb X hX) hs).weak fun σ H Q ⟨B, F, hE, hW⟩ => two o.calm hE hW
def idx (xs : List α) (i : Int) : R α := R.ofOpt (atI xs i)
theorem ofOpt_calm (o : Option α) (x : Ex) : R.ofOpt o ≠ .exc x := by cases o <;> nofun
theorem ofOpt_ok {o : Option α} {c : α} (h : R.ofOpt o = .ok c) : o = some c := by
  cases o with
  | none => cases h
  | some a => cases h; rfl
theorem RpA.atI {F : Hp} {vs : List V} {ds : List D} {i : Int} {d : D} (h : RpA F vs ds) (e : atI ds i = some d) : ∃ u, L2.atI vs i = some u ∧ Rp F u d := by
  unfold L2.atI at e ⊢
  rw [h.length]
  cases q : ixN ds.length i with
  | none => rw [q] at e; simp at e
  | some j => rw [q] at e; exact h.get e
theorem atI_map (f : α → β) (xs : List α) (i : Int) : L2.atI (xs.map f) i = (L2.atI xs i).map f := by
  unfold L2.atI
  rw [List.length_map]
  cases ixN xs.length i with
  | none => rfl
  | some j => simp
def idxD (d : D) (i : Int) : R D := match d with
    | .list ds => R.ofOpt (atI ds i)
    | .tuple ds => R.ofOpt (atI ds i)
    | .str z => if z.length ≤ sizeLine then (R.ofOpt (atI z.cps.toList i)).map fun c => .str ⟨#[c]⟩ else .bad
    | _ => .bad
theorem x_ixD : Ix2 v eD eI eD idxD where
  calm := fun d i x => by
    cases d with
    | list ds => exact ofOpt_calm _ x
    | tuple ds => exact ofOpt_calm _ x
    | str z =>
      show (if z.length ≤ sizeLine then (R.ofOpt (atI z.cps.toList i)).map fun c => PyData.str ⟨#[c]⟩ else .bad) ≠ _
      split
      · cases atI z.cps.toList i <;> nofun
      · nofun
    | _ => nofun
  run := fun X hX => ix_seq.weak fun x y H Q ⟨F, d, i, s, n, ni, c, g, q⟩ => by
    cases d with
    | list ds =>
      obtain ⟨p, xs, rfl, h, r, z⟩ := nwLst s n
      obtain ⟨u, h1, h2⟩ := r.atI (ofOpt_ok g)
      exact .inl ⟨p, xs, i, u, rfl, nwInt ni, .of h, h1, q u H F (.refl s) h2⟩
    | tuple ds =>
      obtain ⟨p, xs, rfl, h, _, r, z⟩ := nwTup s n
      obtain ⟨u, h1, h2⟩ := r.atI (ofOpt_ok g)
      exact .inr (.inl ⟨p, xs, i, u, rfl, nwInt ni, .of h, h1, q u H F (.refl s) h2⟩)
    | str z =>
      have g : (if z.length ≤ sizeLine then (R.ofOpt (atI z.cps.toList i)).map fun c => PyData.str ⟨#[c]⟩ else .bad) = .ok c := g
      split at g
      · rename_i hz
        cases h1 : atI z.cps.toList i with
        | none => rw [h1] at g; cases g
        | some k =>
          rw [h1] at g
          cases g
          exact .inr (.inr ⟨z, i, k, nwStr n, nwInt ni, hz, h1, q _ H F (.refl s) (.str _)⟩)
      · cases g
    | _ => cases g
theorem Ix2.of {g : D → β → R D} {e : γ → D} {g' : α → β → R γ} (c : Ix2 v eD eb eD g) (h : ∀ a b, (g' a b).map e = g (ea a) b) (hx : ∀ a b x, g' a b ≠ .exc x) : Ix2 v ea eb e g' where
  calm := hx
  run := fun X hX => (c.run X hX).weak fun x y H Q ⟨F, a, b, s, n, nb, c, g, q⟩ => ⟨F, ea a, b, s, n, nb, e c, by rw [← h, g]; rfl, q⟩
theorem x_ixL {e : α → D} : Ix2 v (eL e) eI e idx := x_ixD.of (fun xs i => by
  show R.map e (R.ofOpt (atI xs i)) = R.ofOpt (atI (xs.map e) i)
  rw [atI_map]; cases atI xs i <;> rfl) fun _ _ x => ofOpt_calm _ x
theorem x_ixT {e : α → D} : Ix2 v (eT e) eI e idx := x_ixD.of (fun xs i => by
  show R.map e (R.ofOpt (atI xs i)) = R.ofOpt (atI (xs.map e) i)
  rw [atI_map]; cases atI xs i <;> rfl) fun _ _ x => ofOpt_calm _ x
/-- an item at a written place of a tuple or list of fixed parts -/
theorem sx_at {i : Int} (g : α → γ) {j pos'} (hs : ∀ t, ∃ ds, (ea t = .tuple ds ∨ ea t = .list ds) ∧ atI ds i = some (ec (g t))) (ha : Sx v .P ρ a ea ma) :
    Sx v .V ρ (.Subscript a (.Constant (.int i) j pos') pos) ec (ma.bind fun t => .ok (g t)) := fun X hX =>
  (pe_ix ix_seq (ha X hX) pe_int (by intro _ _; rfl)).weak fun σ H Q ⟨B, F, hE, hW⟩ => by
    refine ⟨B, F, hE, hW.bind fun t _ hW => ?_⟩
    intro u H1 F1 s1 n1
    obtain ⟨ds, hd, e⟩ := hs t
    rcases hd with hd | hd
    · rw [hd] at n1
      obtain ⟨p, xs, rfl, h, _, r, z⟩ := nwTup s1.sub n1
      obtain ⟨u, h1, h2⟩ := r.atI e
      exact .inr (.inl ⟨p, xs, i, u, rfl, rfl, .of h, h1, hW u H1 F1 s1 h2⟩)
    · rw [hd] at n1
      obtain ⟨p, xs, rfl, h, r, z⟩ := nwLst s1.sub n1
      obtain ⟨u, h1, h2⟩ := r.atI e
      exact .inl ⟨p, xs, i, u, rfl, rfl, .of h, h1, hW u H1 F1 s1 h2⟩

/-- parts of slices -/
def WantO (v : Vw) (σ : L2.St) (F H : Hp) (m : R (Option Int)) (Q : Option Int → Hp → Prop) : Prop :=
  match m with
  | .ok a => ∀ H' F', Step F H F' H' → Q a H'
  | .exc x => ∀ H' F', Step F H F' H' → v.W (.ref (v.cls x)) none σ H'
  | .bad => False
theorem WantO.step {σ : L2.St} {F H F1 H1 : Hp} {m : R (Option Int)} {Q : Option Int → Hp → Prop} (s : Step F H F1 H1) (h : WantO v σ F H m Q) : WantO v σ F1 H1 m Q := by
  cases m with
  | ok a => exact fun H' F' t => h H' F' (s.trans t)
  | exc x => exact fun H' F' t => h H' F' (s.trans t)
  | bad => exact h
def rdO (v : Vw) (ρ : Rho) (m : R (Option Int)) : TO := fun σ H Q => ∃ B F, EnvOk v.K B F H σ ρ ∧ WantO v σ F H m Q
def So (v : Vw) (ρ : Rho) (e : Option Expr) (m : R (Option Int)) : Prop := ∀ X, v.Has X → PO X e (rdO v ρ m)
theorem _root_.L2.PO.weak {X : Cx} {e : Option Expr} {t t' : TO} (h : PO X e t) (f : ∀ σ H Q, t' σ H Q → t σ H Q) : PO X e t' :=
  ⟨fun pins s σ H Q I q => h.run pins s σ H Q I (f σ H Q q)⟩
theorem so_none : So v ρ none (.ok none) := fun X hX => po_none.weak fun σ H Q ⟨B, F, hE, hW⟩ => hW H F (.refl hE.sub)
theorem so_some {m : R Int} (h : Sx v .V ρ a eI m) : So v ρ (some a) (m.bind fun i => .ok (some i)) := fun X hX => (po_some (h X hX)).weak fun σ H Q ⟨B, F, hE, hW⟩ => by
  refine ⟨B, F, hE, ?_⟩
  cases m with
  | ok i => intro u H' F' s r; cases r; exact ⟨i, rfl, hW H' F' s⟩
  | exc x => exact hW
  | bad => exact hW
structure Sl3 (v : Vw) (μ : Md) (ea : α → D) (ec : γ → D) (g : α → Option Int → Option Int → R γ) : Prop where
  calm : ∀ a b c x, g a b c ≠ .exc x
  run : ∀ X, v.Has X → SlR X fun x lo hi H Q => ∃ F a, Same F H ∧ Nw F H x (ea a) ∧ ∃ c, g a lo hi = .ok c ∧ Po μ F H (ec c) Q
theorem _root_.L2.SlR.weak {X : Cx} {r r' : V → Option Int → Option Int → Hp → VK → Prop} (h : SlR X r) (w : ∀ x l u H Q, r' x l u H Q → r x l u H Q) : SlR X r' :=
  fun pins s σ H x a b c d l sl Q I r1 i1 i2 i3 q => h pins s σ H x a b c d l sl Q I r1 i1 i2 i3 (w _ _ _ _ _ q)
theorem sx_sl {g : α → Option Int → Option Int → R γ} {lo hi : Option Expr} {ml mh : R (Option Int)} {p2 : Pos} (o : Sl3 v μ ea ec g) (ha : Sx v .P ρ a ea ma) (hl : So v ρ lo ml) (hh : So v ρ hi mh) :
    Sx v μ ρ (.Subscript a (.Slice lo hi none p2) pos) ec (ma.bind fun x => ml.bind fun l => mh.bind fun h => g x l h) := fun X hX =>
  (pe_slice (o.run X hX) (ha X hX) (hl X hX) (hh X hX)).weak fun σ H Q ⟨B, F, hE, hW⟩ => by
    refine ⟨B, F, hE, hW.bind fun a _ hW => ?_⟩
    intro u H1 F1 s1 n1
    refine ⟨B, F1, hE.step s1, ?_⟩
    replace hW := hW.step s1
    cases ml with
    | ok l =>
      intro H2 F2 s2
      refine ⟨B, F2, (hE.step s1).step s2, ?_⟩
      replace hW := hW.step s2
      cases mh with
      | ok h =>
        intro H3 F3 s3
        replace hW := hW.step s3
        obtain ⟨c, e, q⟩ := want_no (o.calm a l h) hW
        exact ⟨F3, a, s3.sub, (n1.step s2).step s3, c, e, q⟩
      | exc x => exact hW
      | bad => exact hW
    | exc x => exact hW
    | bad => exact hW
def cut (xs : List α) (lo hi : Option Int) : List α := (xs.drop (HT.sIx xs.length 0 lo)).take (HT.sIx xs.length xs.length hi - HT.sIx xs.length 0 lo)
theorem RpA.cut {F : Hp} {vs : List V} {ds : List D} (h : RpA F vs ds) (lo hi : Option Int) : RpA F (cutV vs lo hi) (cut ds lo hi) := by
  unfold cutV Cw.cut
  rw [h.length]
  exact (h.drop _).take _
theorem cut_map (f : α → β) (xs : List α) (lo hi : Option Int) : cut (xs.map f) lo hi = (cut xs lo hi).map f := by
  unfold cut
  rw [List.length_map, List.map_take, List.map_drop]
theorem cut_whole (xs : List α) (lo hi : Option Int) (h : HT.sIx xs.length 0 lo = 0 ∧ HT.sIx xs.length xs.length hi = xs.length) : cut xs lo hi = xs := by
  unfold cut
  rw [h.1, h.2]
  simp
theorem s_cutTD : Sl3 v .V (eT eD) (eT eD) fun xs lo hi => .ok (cut xs lo hi) where
  calm := fun _ _ _ _ => nofun
  run := fun X hX => sl_tupA.weak fun x lo hi H Q ⟨F, a, s, n, c, g, q⟩ => by
    cases g
    obtain ⟨p, xs, rfl, h, hF, r, z⟩ := nwTup s n
    simp only [eD, List.map_id] at r
    have hl := r.length
    refine ⟨p, xs, rfl, .of h, fun w => ?_, fun w t nt => ?_⟩
    · refine q _ H F (.refl s) ?_
      rw [cut_whole a lo hi (by rw [← hl]; exact w)]
      exact .tup hF z (by simpa [eD] using r)
    · refine q _ _ (upd F t _) (.froz s nt) ?_
      exact .tup upd_same (Nat.le_trans (cutV_length _ _ _) z) (by simpa [eD] using (r.cut lo hi).mono (same_new (s.free nt)))
theorem s_cutLD : Sl3 v .N (eL eD) (eL eD) fun xs lo hi => .ok (cut xs lo hi) where
  calm := fun _ _ _ _ => nofun
  run := fun X hX => sl_list.weak fun x lo hi H Q ⟨F, a, s, n, c, g, q⟩ => by
    cases g
    obtain ⟨p, xs, rfl, h, r, z⟩ := nwLst s n
    obtain ⟨ds, e, q⟩ := q
    simp only [eL, PyData.list.injEq] at e
    subst e
    refine ⟨p, xs, rfl, .of h, fun t nt => ?_⟩
    refine q t _ _ F (.laid s nt) nt (s.free nt) upd_same (Nat.le_trans (cutV_length _ _ _) z) ?_
    simpa [eD] using r.cut lo hi
theorem Sl3.of {e : γ → D} {g : α → Option Int → Option Int → R γ} {g' : β → Option Int → Option Int → R δ} {eb : β → D} {ed : δ → D} {f : β → α} {k : δ → γ} (o : Sl3 v μ ea e g) (hf : ∀ b, ea (f b) = eb b) (hk : ∀ d, e (k d) = ed d)
    (h : ∀ b lo hi, g (f b) lo hi = (g' b lo hi).map k) : Sl3 v μ eb ed g' where
  calm := fun b lo hi x q => o.calm (f b) lo hi x (by rw [h, q]; rfl)
  run := fun X hX => (o.run X hX).weak fun x lo hi H Q ⟨F, b, s, n, c, g, q⟩ => ⟨F, f b, s, by rw [hf]; exact n, k c, by rw [h, g]; rfl, by rw [hk]; exact q⟩
theorem s_cutT {e : α → D} : Sl3 v .V (eT e) (eT e) fun xs lo hi => .ok (cut xs lo hi) :=
  s_cutTD.of (f := fun xs => xs.map e) (k := fun xs => xs.map e) (fun b => by simp [eT, eD]) (fun d => by simp [eT, eD]) fun b lo hi => by simp [cut_map]
theorem s_cutL {e : α → D} : Sl3 v .N (eL e) (eL e) fun xs lo hi => .ok (cut xs lo hi) :=
  s_cutLD.of (f := fun xs => xs.map e) (k := fun xs => xs.map e) (fun b => by simp [eL, eD]) (fun d => by simp [eL, eD]) fun b lo hi => by simp [cut_map]
end Cw
namespace Cw
open PySem PySem.Spec PyProof.Rows L2
variable {α β γ δ ε ζ : Type} {v : Vw} {ρ : Rho} {μ : Md} {ea : α → D} {eb : β → D} {ec : γ → D} {a b : Expr} {ma : R α} {mb : R β} {p pos : Pos}

/-! ## argument lists -/
def WantA (v : Vw) (σ : L2.St) (F H : Hp) (m : R (List D)) (Q : List V → Hp → Prop) : Prop :=
  match m with
  | .ok ds => ∀ us H' F', Step F H F' H' → RpA F' us ds → Q us H'
  | .exc x => ∀ H' F', Step F H F' H' → v.W (.ref (v.cls x)) none σ H'
  | .bad => False
theorem WantA.step {σ : L2.St} {F H F1 H1 : Hp} {m : R (List D)} {Q : List V → Hp → Prop} (s : Step F H F1 H1) (h : WantA v σ F H m Q) : WantA v σ F1 H1 m Q := by
  cases m with
  | ok a => exact fun us H' F' t => h us H' F' (s.trans t)
  | exc x => exact fun H' F' t => h H' F' (s.trans t)
  | bad => exact h
def rdA (v : Vw) (ρ : Rho) (m : R (List D)) : TA := fun σ H Q => ∃ B F, EnvOk v.K B F H σ ρ ∧ WantA v σ F H m Q
def SA (v : Vw) (ρ : Rho) (es : List Expr) (m : R (List D)) : Prop := ∀ X, v.Has X → PA X es (rdA v ρ m)
theorem _root_.L2.PA.weak {X : Cx} {es : List Expr} {t t' : TA} (h : PA X es t) (f : ∀ σ H Q, t' σ H Q → t σ H Q) : PA X es t' :=
  ⟨fun pos pins s σ H Q I q => h.run pos pins s σ H Q I (f σ H Q q)⟩
theorem sa_nil : SA v ρ [] (.ok []) := fun X hX => pa_nil.weak fun σ H Q ⟨B, F, hE, hW⟩ => hW [] H F (.refl hE.sub) .nil
theorem sa_cons {e : Expr} {es : List Expr} {ms : R (List D)} (h : Sx v .V ρ e ea ma) (t : SA v ρ es ms) (hs : ∀ env, starEach (e :: es) env = (false, eval e env) :: starEach es env := by intro _; rfl) :
    SA v ρ (e :: es) (ma.bind fun a => ms.bind fun ds => .ok (ea a :: ds)) := fun X hX => (pa_cons (h X hX) (t X hX) (hs _)).weak fun σ H Q ⟨B, F, hE, hW⟩ => by
  refine ⟨B, F, hE, ?_⟩
  cases ma with
  | ok a =>
    intro u H1 F1 s1 r1
    refine ⟨B, F1, hE.step s1, ?_⟩
    replace hW := hW.step s1
    cases ms with
    | ok ds => exact fun us H2 F2 s2 r2 => hW (u :: us) H2 F2 s2 (.cons (r1.mono s2.fr) r2)
    | exc x => exact hW
    | bad => exact hW
  | exc x => exact hW
  | bad => exact hW
namespace R
def seq : List (R α) → R (List α)
  | [] => .ok []
  | m :: ms => m.bind fun a => (seq ms).bind fun as => .ok (a :: as)
theorem seq_length : ∀ {ms : List (R α)} {as : List α}, seq ms = .ok as → as.length = ms.length
  | [], as, h => by cases h; rfl
  | m :: ms, as, h => by
    unfold seq at h
    cases m with
    | ok a =>
      rw [R.bind_ok] at h
      cases q : seq ms with
      | ok bs => rw [q] at h; cases h; simp [seq_length q]
      | exc x => rw [q] at h; cases h
      | bad => rw [q] at h; cases h
    | exc x => cases h
    | bad => cases h
end R
theorem sa_seq {e : Expr} {es : List Expr} {m : R D} {ms : List (R D)} (h : Sx v .V ρ e eD m) (t : SA v ρ es (R.seq ms)) (hs : ∀ env, starEach (e :: es) env = (false, eval e env) :: starEach es env := by intro _; rfl) :
    SA v ρ (e :: es) (R.seq (m :: ms)) := sa_cons h t hs

/-! ## displays -/
theorem small_line {n : Nat} (h : n ≤ 1000) : n ≤ sizeLine := by rw [sizeLine_eq]; omega
theorem sx_tupS {es : List Expr} {m : R (List D)} {k : Nat} (n : Nat) (hn : n ≤ 1000) (hl : ∀ ds, m = .ok ds → ds.length = n) (h : SA v ρ es m) : Sx v .V ρ (.Tuple es k pos) (fun ds => PyData.tuple ds) m := fun X hX =>
  (pe_tup (h X hX)).weak fun σ H Q ⟨B, F, hE, hW⟩ => by
    refine ⟨B, F, hE, ?_⟩
    cases m with
    | ok ds =>
      refine fun us H1 F1 s1 r1 => ⟨by rw [r1.length, hl ds rfl]; exact small_line hn, fun t nt => ?_⟩
      exact hW _ _ (upd F1 t _) (s1.trans (.froz s1.sub nt)) (.tup upd_same (by rw [r1.length, hl ds rfl]; exact small_line hn) (r1.mono (same_new (s1.sub.free nt))))
    | exc x => exact hW
    | bad => exact hW
theorem sx_lstS {es : List Expr} {m : R (List D)} (n : Nat) (hn : n ≤ 1000) (hl : ∀ ds, m = .ok ds → ds.length = n) (h : SA v ρ es m) : Sx v .N ρ (.List es pos) (fun ds => PyData.list ds) m := fun X hX =>
  (pe_lst (h X hX)).weak fun σ H Q ⟨B, F, hE, hW⟩ => by
    refine ⟨B, F, hE, ?_⟩
    cases m with
    | ok ds =>
      refine fun us H1 F1 s1 r1 => ⟨by rw [r1.length, hl ds rfl]; exact small_line hn, fun t nt => ?_⟩
      obtain ⟨ds', e, q⟩ := hW
      cases e
      exact q t us _ F1 (s1.trans (.laid s1.sub nt)) (s1.hp.free nt) (s1.sub.free nt) upd_same (by rw [r1.length, hl ds rfl]; exact small_line hn) r1
    | exc x => exact hW
    | bad => exact hW
theorem sx_to {m : R α} {f : α → β} {e : Expr} (h : Sx v μ ρ e ea m) (hf : ∀ a, eb (f a) = ea a) : Sx v μ ρ e eb (m.bind fun a => .ok (f a)) := sx_as h hf
theorem Sx.cast {e : Expr} {m m' : R α} (h : Sx v μ ρ e ea m) (q : m = m') : Sx v μ ρ e ea m' := q ▸ h
/-- what is wanted of m' is wanted of m -/
def Cv (enc : α → D) (enc' : β → D) (m : R α) (m' : R β) : Prop :=
  match m' with
  | .ok b => ∃ a, m = .ok a ∧ enc a = enc' b
  | .exc x => m = .exc x
  | .bad => True
theorem Sx.cv {e : Expr} {m : R α} {m' : R β} (h : Sx v μ ρ e ea m) (c : Cv ea eb m m') : Sx v μ ρ e eb m' := fun X hX => (h X hX).weak fun σ H Q ⟨B, F, hE, hW⟩ => ⟨B, F, hE, by
  cases m' with
  | ok b => obtain ⟨a, rfl, e⟩ := c; show Po μ F H (ea a) Q; rw [e]; exact hW
  | exc x => have c : m = .exc x := c; subst c; exact hW
  | bad => exact hW.elim⟩
/-! displays of fixed parts -/
theorem sx_tup0 {k : Nat} {e : α → D} : Sx v .V ρ (.Tuple [] k pos) (eT e) (.ok []) := (sx_tupS 0 (by decide) (fun ds q => by cases q; rfl) sa_nil).cv ⟨_, rfl, rfl⟩
theorem sx_lst0 {e : α → D} : Sx v .N ρ (.List [] pos) (eL e) (.ok []) := (sx_lstS 0 (by decide) (fun ds q => by cases q; rfl) sa_nil).cv ⟨_, rfl, rfl⟩
section
variable {e1 e2 e3 e4 : Expr} {k : Nat} {m1 : R α} {m2 : R β} {m3 : R γ} {m4 : R δ} {f1 : α → D} {f2 : β → D} {f3 : γ → D} {f4 : δ → D} {enc : ε → D}
theorem sx_tup1 (f : α → ε) (hf : ∀ a, enc (f a) = .tuple [f1 a]) (h1 : Sx v .V ρ e1 f1 m1) (hs1 : ∀ env, starEach [e1] env = (false, eval e1 env) :: starEach [] env := by intro _; rfl) :
    Sx v .V ρ (.Tuple [e1] k pos) enc (m1.bind fun a => .ok (f a)) :=
  (sx_tupS 1 (by decide) (fun ds q => by cases m1 <;> cases q; rfl) (sa_cons h1 sa_nil hs1)).cv (by cases m1 <;> simp [Cv, hf])
theorem sx_tup2 (f : α → β → ε) (hf : ∀ a b, enc (f a b) = .tuple [f1 a, f2 b]) (h1 : Sx v .V ρ e1 f1 m1) (h2 : Sx v .V ρ e2 f2 m2)
    (hs1 : ∀ env, starEach [e1, e2] env = (false, eval e1 env) :: starEach [e2] env := by intro _; rfl) (hs2 : ∀ env, starEach [e2] env = (false, eval e2 env) :: starEach [] env := by intro _; rfl) :
    Sx v .V ρ (.Tuple [e1, e2] k pos) enc (m1.bind fun a => m2.bind fun b => .ok (f a b)) :=
  (sx_tupS 2 (by decide) (fun ds q => by cases m1 <;> cases m2 <;> cases q; rfl) (sa_cons h1 (sa_cons h2 sa_nil hs2) hs1)).cv (by cases m1 <;> cases m2 <;> simp [Cv, hf])
theorem sx_tup3 (f : α → β → γ → ε) (hf : ∀ a b c, enc (f a b c) = .tuple [f1 a, f2 b, f3 c]) (h1 : Sx v .V ρ e1 f1 m1) (h2 : Sx v .V ρ e2 f2 m2) (h3 : Sx v .V ρ e3 f3 m3)
    (hs1 : ∀ env, starEach [e1, e2, e3] env = (false, eval e1 env) :: starEach [e2, e3] env := by intro _; rfl) (hs2 : ∀ env, starEach [e2, e3] env = (false, eval e2 env) :: starEach [e3] env := by intro _; rfl)
    (hs3 : ∀ env, starEach [e3] env = (false, eval e3 env) :: starEach [] env := by intro _; rfl) :
    Sx v .V ρ (.Tuple [e1, e2, e3] k pos) enc (m1.bind fun a => m2.bind fun b => m3.bind fun c => .ok (f a b c)) :=
  (sx_tupS 3 (by decide) (fun ds q => by cases m1 <;> cases m2 <;> cases m3 <;> cases q; rfl) (sa_cons h1 (sa_cons h2 (sa_cons h3 sa_nil hs3) hs2) hs1)).cv (by cases m1 <;> cases m2 <;> cases m3 <;> simp [Cv, hf])
theorem sx_tup4 (f : α → β → γ → δ → ε) (hf : ∀ a b c d, enc (f a b c d) = .tuple [f1 a, f2 b, f3 c, f4 d]) (h1 : Sx v .V ρ e1 f1 m1) (h2 : Sx v .V ρ e2 f2 m2) (h3 : Sx v .V ρ e3 f3 m3) (h4 : Sx v .V ρ e4 f4 m4)
    (hs1 : ∀ env, starEach [e1, e2, e3, e4] env = (false, eval e1 env) :: starEach [e2, e3, e4] env := by intro _; rfl) (hs2 : ∀ env, starEach [e2, e3, e4] env = (false, eval e2 env) :: starEach [e3, e4] env := by intro _; rfl)
    (hs3 : ∀ env, starEach [e3, e4] env = (false, eval e3 env) :: starEach [e4] env := by intro _; rfl) (hs4 : ∀ env, starEach [e4] env = (false, eval e4 env) :: starEach [] env := by intro _; rfl) :
    Sx v .V ρ (.Tuple [e1, e2, e3, e4] k pos) enc (m1.bind fun a => m2.bind fun b => m3.bind fun c => m4.bind fun d => .ok (f a b c d)) :=
  (sx_tupS 4 (by decide) (fun ds q => by cases m1 <;> cases m2 <;> cases m3 <;> cases m4 <;> cases q; rfl) (sa_cons h1 (sa_cons h2 (sa_cons h3 (sa_cons h4 sa_nil hs4) hs3) hs2) hs1)).cv (by cases m1 <;> cases m2 <;> cases m3 <;> cases m4 <;> simp [Cv, hf])
theorem sx_lst1 (f : α → ε) (hf : ∀ a, enc (f a) = .list [f1 a]) (h1 : Sx v .V ρ e1 f1 m1) (hs1 : ∀ env, starEach [e1] env = (false, eval e1 env) :: starEach [] env := by intro _; rfl) :
    Sx v .N ρ (.List [e1] pos) enc (m1.bind fun a => .ok (f a)) :=
  (sx_lstS 1 (by decide) (fun ds q => by cases m1 <;> cases q; rfl) (sa_cons h1 sa_nil hs1)).cv (by cases m1 <;> simp [Cv, hf])
theorem sx_lst2 (f : α → β → ε) (hf : ∀ a b, enc (f a b) = .list [f1 a, f2 b]) (h1 : Sx v .V ρ e1 f1 m1) (h2 : Sx v .V ρ e2 f2 m2)
    (hs1 : ∀ env, starEach [e1, e2] env = (false, eval e1 env) :: starEach [e2] env := by intro _; rfl) (hs2 : ∀ env, starEach [e2] env = (false, eval e2 env) :: starEach [] env := by intro _; rfl) :
    Sx v .N ρ (.List [e1, e2] pos) enc (m1.bind fun a => m2.bind fun b => .ok (f a b)) :=
  (sx_lstS 2 (by decide) (fun ds q => by cases m1 <;> cases m2 <;> cases q; rfl) (sa_cons h1 (sa_cons h2 sa_nil hs2) hs1)).cv (by cases m1 <;> cases m2 <;> simp [Cv, hf])
theorem sx_lst4 (f : α → β → γ → δ → ε) (hf : ∀ a b c d, enc (f a b c d) = .list [f1 a, f2 b, f3 c, f4 d]) (h1 : Sx v .V ρ e1 f1 m1) (h2 : Sx v .V ρ e2 f2 m2) (h3 : Sx v .V ρ e3 f3 m3) (h4 : Sx v .V ρ e4 f4 m4)
    (hs1 : ∀ env, starEach [e1, e2, e3, e4] env = (false, eval e1 env) :: starEach [e2, e3, e4] env := by intro _; rfl) (hs2 : ∀ env, starEach [e2, e3, e4] env = (false, eval e2 env) :: starEach [e3, e4] env := by intro _; rfl)
    (hs3 : ∀ env, starEach [e3, e4] env = (false, eval e3 env) :: starEach [e4] env := by intro _; rfl) (hs4 : ∀ env, starEach [e4] env = (false, eval e4 env) :: starEach [] env := by intro _; rfl) :
    Sx v .N ρ (.List [e1, e2, e3, e4] pos) enc (m1.bind fun a => m2.bind fun b => m3.bind fun c => m4.bind fun d => .ok (f a b c d)) :=
  (sx_lstS 4 (by decide) (fun ds q => by cases m1 <;> cases m2 <;> cases m3 <;> cases m4 <;> cases q; rfl) (sa_cons h1 (sa_cons h2 (sa_cons h3 (sa_cons h4 sa_nil hs4) hs3) hs2) hs1)).cv (by cases m1 <;> cases m2 <;> cases m3 <;> cases m4 <;> simp [Cv, hf])
end
/-- many parts of one kind -/
theorem sx_tupM {es : List Expr} {ms : List (R D)} {k : Nat} (hn : ms.length ≤ 1000 := by decide) (h : SA v ρ es (R.seq ms)) : Sx v .V ρ (.Tuple es k pos) (eT eD) (R.seq ms) :=
  (sx_tupS ms.length hn (fun ds q => R.seq_length q) h).cv (by cases R.seq ms <;> simp [Cv, eT, eD])
theorem sx_lstM {es : List Expr} {ms : List (R D)} (hn : ms.length ≤ 1000 := by decide) (h : SA v ρ es (R.seq ms)) : Sx v .N ρ (.List es pos) (eL eD) (R.seq ms) :=
  (sx_lstS ms.length hn (fun ds q => R.seq_length q) h).cv (by cases R.seq ms <;> simp [Cv, eL, eD])

/-! ## conversions, sums .. -/
theorem Cl1.conv {f : Value} {g : α → R γ} {g' : β → R δ} {ed : δ → D} (c : Cl1 v f μ ea ec g) (k : β → α) (hk : ∀ b, ea (k b) = eb b) (h : ∀ b, Cv ec ed (g (k b)) (g' b)) (hx : ∀ b x, g' b ≠ .exc x) : Cl1 v f μ eb ed g' where
  calm := hx
  run := fun X hX => (c.run X hX).weak fun xs H Q ⟨F, x, b, e, s, n, c, g, q⟩ => by
    have hc := h b
    rw [g] at hc
    obtain ⟨a, h1, h2⟩ := hc
    exact ⟨F, x, k b, e, s, by rw [hk]; exact n, a, h1, by rw [h2]; exact q⟩
theorem c_listT {e : α → D} : Cl1 v (.type "list") .N (eT e) (eL e) fun xs => .ok xs where
  calm := fun _ _ => nofun
  run := fun X hX => call_list_of.weak fun xs H Q ⟨F, x, ys, e, s, n, c, g, q⟩ => by
    cases g
    subst e
    obtain ⟨p, xs, rfl, h, r, z⟩ := nwSeq s n (.inr rfl)
    refine ⟨p, xs, rfl, h, fun t nt => ?_⟩
    obtain ⟨ds, e2, q⟩ := q
    cases e2
    exact q t _ _ F (.laid s nt) nt (s.free nt) upd_same z r
theorem c_listL {e : α → D} : Cl1 v (.type "list") .N (eL e) (eL e) fun xs => .ok xs where
  calm := fun _ _ => nofun
  run := fun X hX => call_list_of.weak fun xs H Q ⟨F, x, ys, e, s, n, c, g, q⟩ => by
    cases g
    subst e
    obtain ⟨p, xs, rfl, h, r, z⟩ := nwSeq s n (.inl rfl)
    refine ⟨p, xs, rfl, h, fun t nt => ?_⟩
    obtain ⟨ds, e2, q⟩ := q
    cases e2
    exact q t _ _ F (.laid s nt) nt (s.free nt) upd_same z r
theorem c_tupL {e : α → D} : Cl1 v (.type "tuple") .V (eL e) (eT e) fun xs => .ok xs where
  calm := fun _ _ => nofun
  run := fun X hX => call_tuple_of.weak fun xs H Q ⟨F, x, ys, e, s, n, c, g, q⟩ => by
    cases g
    subst e
    obtain ⟨p, xs, rfl, h, r, z⟩ := nwLst s n
    refine ⟨p, xs, rfl, .inl ⟨.of h, fun t nt => ?_⟩⟩
    exact q _ _ (upd F t _) (.froz s nt) (.tup upd_same z (r.mono (same_new (s.free nt))))
theorem c_tupT {e : α → D} : Cl1 v (.type "tuple") .V (eT e) (eT e) fun xs => .ok xs where
  calm := fun _ _ => nofun
  run := fun X hX => call_tuple_of.weak fun xs H Q ⟨F, x, ys, e, s, n, c, g, q⟩ => by
    cases g
    subst e
    obtain ⟨p, xs, rfl, h, hF, r, z⟩ := nwTup s n
    exact ⟨p, xs, rfl, .inr ⟨.of h, q _ H F (.refl s) (.tup hF z r)⟩⟩
theorem c_int : Cl1 v (.type "int") .V eI eI fun i => .ok i where
  calm := fun _ _ => nofun
  run := fun X hX => call_int1.weak fun xs H Q ⟨F, x, ys, e, s, n, c, g, q⟩ => by
    cases g
    subst e
    exact .inl ⟨_, by rw [nwInt n], q _ H F (.refl s) (.int _)⟩
theorem c_intB : Cl1 v (.type "int") .V eB eI fun i => .ok (if i then 1 else 0) where
  calm := fun _ _ => nofun
  run := fun X hX => call_int1.weak fun xs H Q ⟨F, x, ys, e, s, n, c, g, q⟩ => by
    cases g
    subst e
    exact .inr ⟨_, by rw [nwBl n], q _ H F (.refl s) (.int _)⟩
theorem c_abs : Cl1 v (.builtin "abs") .V eI eI fun i => .ok (if i < 0 then -i else i) where
  calm := fun _ _ => nofun
  run := fun X hX => call_abs.weak fun xs H Q ⟨F, x, ys, e, s, n, c, g, q⟩ => by
    cases g
    subst e
    exact ⟨_, by rw [nwInt n], q _ H F (.refl s) (.int _)⟩
theorem c_max2 : Cl2 v (.builtin "max") .V eI eI eI fun i j => .ok (max i j) where
  calm := fun _ _ _ => nofun
  run := fun X hX => (call_max2 hX.calm).weak fun xs H Q ⟨F, x, y, i, j, e, s, n, n2, c, g, q⟩ => by
    cases g
    subst e
    refine ⟨i, j, by rw [nwInt n, nwInt n2], ?_⟩
    have : (if j > i then j else i) = max i j := by rw [Int.max_def]; split <;> split <;> omega
    rw [this]
    exact q _ H F (.refl s) (.int _)
theorem c_min2 : Cl2 v (.builtin "min") .V eI eI eI fun i j => .ok (min i j) where
  calm := fun _ _ _ => nofun
  run := fun X hX => (call_min2 hX.calm).weak fun xs H Q ⟨F, x, y, i, j, e, s, n, n2, c, g, q⟩ => by
    cases g
    subst e
    refine ⟨i, j, by rw [nwInt n, nwInt n2], ?_⟩
    have : (if j < i then j else i) = min i j := by rw [Int.min_def]; split <;> split <;> omega
    rw [this]
    exact q _ H F (.refl s) (.int _)
theorem c_sumL : Cl1 v (.builtin "sum") .V (eL eI) eI fun ns => .ok ns.sum where
  calm := fun _ _ => nofun
  run := fun X hX => (cr_sum hX.calm).weak fun xs H Q ⟨F, x, ns, e, s, n, c, g, q⟩ => by
    cases g
    subst e
    obtain ⟨p, xs, rfl, h, r, z⟩ := nwLst s n
    obtain rfl := r.ints
    exact ⟨p, ns, rfl, .of h, q _ H F (.refl s) (.int _)⟩
def maxR (ns : List Int) : R Int := match ns with
  | [] => .bad
  | n :: ns => .ok (ns.foldl max n)
def minR (ns : List Int) : R Int := match ns with
  | [] => .bad
  | n :: ns => .ok (ns.foldl min n)
theorem foldl_max : ∀ (ns : List Int) (n : Int), (ns.foldl max n = n ∨ ns.foldl max n ∈ ns) ∧ n ≤ ns.foldl max n ∧ ∀ y ∈ ns, y ≤ ns.foldl max n
  | [], n => by simp
  | m :: ns, n => by
    obtain ⟨h1, h2, h3⟩ := foldl_max ns (max n m)
    rw [List.foldl_cons]
    have hm : max n m = n ∨ max n m = m := by omega
    refine ⟨?_, by omega, ?_⟩
    · rcases h1 with h1 | h1
      · rcases hm with z | z
        · left; rw [h1, z]
        · right; rw [h1, z]; exact List.mem_cons_self
      · right; exact List.mem_cons_of_mem _ h1
    · intro y hy
      rcases List.mem_cons.mp hy with rfl | hy
      · omega
      · exact h3 y hy
theorem foldl_min : ∀ (ns : List Int) (n : Int), (ns.foldl min n = n ∨ ns.foldl min n ∈ ns) ∧ ns.foldl min n ≤ n ∧ ∀ y ∈ ns, ns.foldl min n ≤ y
  | [], n => by simp
  | m :: ns, n => by
    obtain ⟨h1, h2, h3⟩ := foldl_min ns (min n m)
    rw [List.foldl_cons]
    have hm : min n m = n ∨ min n m = m := by omega
    refine ⟨?_, by omega, ?_⟩
    · rcases h1 with h1 | h1
      · rcases hm with z | z
        · left; rw [h1, z]
        · right; rw [h1, z]; exact List.mem_cons_self
      · right; exact List.mem_cons_of_mem _ h1
    · intro y hy
      rcases List.mem_cons.mp hy with rfl | hy
      · omega
      · exact h3 y hy
theorem c_maxL : Cl1 v (.builtin "max") .V (eL eI) eI maxR where
  calm := fun a _ => by cases a <;> nofun
  run := fun X hX => (cr_max hX.calm).weak fun xs H Q ⟨F, x, ns, e, s, n, c, g, q⟩ => by
    cases ns with
    | nil => cases g
    | cons m ns =>
      cases g
      subst e
      obtain ⟨p, xs, rfl, h, r, z⟩ := nwLst s n
      obtain rfl := r.ints
      refine ⟨p, m :: ns, rfl, .of h, by simp, fun k h1 h2 => ?_⟩
      obtain ⟨z1, z2, z3⟩ := foldl_max ns m
      have : k = ns.foldl max m := by
        have a1 : k ≤ ns.foldl max m := by
          rcases List.mem_cons.mp h1 with rfl | h1
          · exact z2
          · exact z3 k h1
        have a2 : ns.foldl max m ≤ k := by
          rcases z1 with z1 | z1
          · rw [z1]; exact h2 m List.mem_cons_self
          · exact h2 _ (List.mem_cons_of_mem _ z1)
        omega
      rw [this]
      exact q _ H F (.refl s) (.int _)
theorem c_minL : Cl1 v (.builtin "min") .V (eL eI) eI minR where
  calm := fun a _ => by cases a <;> nofun
  run := fun X hX => (cr_min hX.calm).weak fun xs H Q ⟨F, x, ns, e, s, n, c, g, q⟩ => by
    cases ns with
    | nil => cases g
    | cons m ns =>
      cases g
      subst e
      obtain ⟨p, xs, rfl, h, r, z⟩ := nwLst s n
      obtain rfl := r.ints
      refine ⟨p, m :: ns, rfl, .of h, by simp, fun k h1 h2 => ?_⟩
      obtain ⟨z1, z2, z3⟩ := foldl_min ns m
      have : k = ns.foldl min m := by
        have a1 : ns.foldl min m ≤ k := by
          rcases List.mem_cons.mp h1 with rfl | h1
          · exact z2
          · exact z3 k h1
        have a2 : k ≤ ns.foldl min m := by
          rcases z1 with z1 | z1
          · rw [z1]; exact h2 m List.mem_cons_self
          · exact h2 _ (List.mem_cons_of_mem _ z1)
        omega
      rw [this]
      exact q _ H F (.refl s) (.int _)
/-- a sort that the kernel reckons too -/
def ins (le : α → α → Bool) (x : α) : List α → List α
  | [] => [x]
  | y :: ys => if le x y then x :: y :: ys else y :: ins le x ys
def isort (le : α → α → Bool) : List α → List α
  | [] => []
  | x :: xs => ins le x (isort le xs)
theorem ins_perm (le : α → α → Bool) (x : α) : ∀ ys : List α, (ins le x ys).Perm (x :: ys)
  | [] => .refl _
  | y :: ys => by
    unfold ins
    split
    · exact .refl _
    · exact ((ins_perm le x ys).cons y).trans (.swap x y ys)
theorem isort_perm (le : α → α → Bool) : ∀ xs : List α, (isort le xs).Perm xs
  | [] => .refl _
  | x :: xs => (ins_perm le x _).trans ((isort_perm le xs).cons x)
theorem ins_sorted {le : α → α → Bool} (tot : ∀ a b, le a b = true ∨ le b a = true) (tr : ∀ a b c, le a b = true → le b c = true → le a c = true) (x : α) : ∀ ys : List α, ys.Pairwise (fun a b => le a b = true) → (ins le x ys).Pairwise (fun a b => le a b = true)
  | [], _ => by simp [ins]
  | y :: ys, h => by
    rw [List.pairwise_cons] at h
    unfold ins
    split
    · rename_i hx
      rw [List.pairwise_cons]
      refine ⟨fun z hz => ?_, by rw [List.pairwise_cons]; exact h⟩
      rcases List.mem_cons.mp hz with rfl | hz
      · exact hx
      · exact tr _ _ _ hx (h.1 z hz)
    · rename_i hx
      rw [List.pairwise_cons]
      refine ⟨fun z hz => ?_, ins_sorted tot tr x ys h.2⟩
      rcases List.mem_cons.mp ((ins_perm le x ys).mem_iff.mp hz) with rfl | hz
      · rcases tot z y with q | q
        · exact absurd q hx
        · exact q
      · exact h.1 z hz
theorem isort_sorted {le : α → α → Bool} (tot : ∀ a b, le a b = true ∨ le b a = true) (tr : ∀ a b c, le a b = true → le b c = true → le a c = true) : ∀ xs : List α, (isort le xs).Pairwise (fun a b => le a b = true)
  | [] => .nil
  | x :: xs => ins_sorted tot tr x _ (isort_sorted tot tr xs)
def leI (a b : Int) : Bool := decide (a ≤ b)
def sortI (ns : List Int) : List Int := isort leI ns
theorem sortI_perm (ns : List Int) : (sortI ns).Perm ns := isort_perm _ ns
theorem sortI_sorted (ns : List Int) : (sortI ns).Pairwise (· ≤ ·) := by
  have h := isort_sorted (le := leI) (fun a b => by simp [leI]; omega) (fun a b c h1 h2 => by simp [leI] at *; omega) ns
  exact h.imp (by simp [leI])
theorem perm_sorted_eq : ∀ {xs ys : List Int}, xs.Perm ys → xs.Pairwise (· ≤ ·) → ys.Pairwise (· ≤ ·) → xs = ys := fun {xs ys} h hx hy =>
  h.eq_of_pairwise (fun a b _ _ h1 h2 => by omega) hx hy
theorem c_sortedL : Cl1 v (.builtin "sorted") .N (eL eI) (eL eI) fun ns => .ok (sortI ns) where
  calm := fun _ _ => nofun
  run := fun X hX => cr_sortedI.weak fun xs H Q ⟨F, x, ns, e, s, n, c, g, q⟩ => by
    cases g
    subst e
    obtain ⟨p, xs, rfl, h, r, z⟩ := nwLst s n
    obtain rfl := r.ints
    refine ⟨p, ns, rfl, .of h, fun ns' t h1 h2 nt => ?_⟩
    obtain ⟨ds, e2, q⟩ := q
    cases e2
    have : ns' = sortI ns := perm_sorted_eq (h1.trans (sortI_perm ns).symm) h2 (sortI_sorted ns)
    subst this
    exact q t _ _ F (.laid s nt) nt (s.free nt) upd_same (by rw [List.length_map, (sortI_perm ns).length_eq]; simpa using z) (.of_ints _)
/-! unary, + of sequences -/
theorem sx_neg {m : R Int} (h : Sx v .V ρ a eI m) : Sx v .V ρ (.UnaryOp .USub a pos) eI (m.bind fun i => .ok (-i)) := fun X hX => (pe_un un_neg (h X hX)).weak fun σ H Q ⟨B, F, hE, hW⟩ =>
  ⟨B, F, hE, hW.bind fun c _ hW u H' F' s r => by
    cases r
    exact ⟨c, rfl, Po.step (μ := .V) s hW _ H' F' (.refl s.sub) (.int _)⟩⟩
def catR (xs ys : List α) : R (List α) := if xs.length + ys.length ≤ sizeLine then .ok (xs ++ ys) else .bad
theorem catR_calm (xs ys : List α) (x : Ex) : catR xs ys ≠ .exc x := by unfold catR; split <;> nofun
theorem o_catT {e : α → D} : Op2 v (binaryOp .Add) .V (eT e) (eT e) (eT e) catR where
  calm := catR_calm
  run := fun X hX => op_catA.weak fun x y H Q ⟨F, a, b, s, na, nb, c, g, q⟩ => by
    unfold catR at g
    split at g
    · rename_i hz
      cases g
      obtain ⟨p, xs, rfl, h1, hF1, r1, z1⟩ := nwTup s na
      obtain ⟨p2, ys, rfl, h2, hF2, r2, z2⟩ := nwTup s nb
      have l1 := r1.length
      have l2 := r2.length
      rw [List.length_map] at l1 l2
      refine ⟨p, p2, xs, ys, rfl, rfl, .of h1, .of h2, by omega, fun y0 => ?_, fun y1 y2 => ?_, fun y1 y2 t nt => ?_⟩
      · subst y0
        have : a = [] := List.eq_nil_of_length_eq_zero l1.symm
        subst this
        exact q _ H F (.refl s) (.tup hF2 z2 r2)
      · subst y2
        have : b = [] := List.eq_nil_of_length_eq_zero l2.symm
        subst this
        rw [List.append_nil] at q
        exact q _ H F (.refl s) (.tup hF1 z1 r1)
      · refine q _ _ (upd F t _) (.froz s nt) (.tup upd_same (by rw [List.length_append]; omega) ?_)
        rw [List.map_append]
        exact (r1.append r2).mono (same_new (s.free nt))
    · cases g
theorem o_catL {e : α → D} : Op2 v (binaryOp .Add) .N (eL e) (eL e) (eL e) catR where
  calm := catR_calm
  run := fun X hX => op_cat.weak fun x y H Q ⟨F, a, b, s, na, nb, c, g, q⟩ => by
    unfold catR at g
    split at g
    · rename_i hz
      cases g
      obtain ⟨p, xs, rfl, h1, r1, _⟩ := nwLst s na
      obtain ⟨p2, ys, rfl, h2, r2, _⟩ := nwLst s nb
      have l1 := r1.length
      have l2 := r2.length
      rw [List.length_map] at l1 l2
      refine ⟨p, p2, xs, ys, rfl, rfl, h1, h2, by omega, fun t nt => ?_⟩
      obtain ⟨ds, e2, q⟩ := q
      cases e2
      refine q t _ _ F (.laid s nt) nt (s.free nt) upd_same (by rw [List.length_append]; omega) ?_
      rw [List.map_append]
      exact r1.append r2
    · cases g
/-- data: ints, texts, tuples, lists -/
def addD (x y : D) : R D := match x, y with
  | .int i, .int j => .ok (.int (i + j))
  | .str x, .str y => (addS x y).map .str
  | .tuple xs, .tuple ys => (catR xs ys).map .tuple
  | _, _ => .bad
theorem o_addD : Op2 v (binaryOp .Add) .V eD eD eD addD where
  calm := fun x y z => by
    unfold addD
    split
    · nofun
    · unfold addS; split <;> nofun
    · unfold catR; split <;> nofun
    · nofun
  run := fun X hX => (OpR.or op_add (OpR.or op_add_str op_catA)).weak fun x y H Q ⟨F, a, b, s, na, nb, c, g, q⟩ => by
    unfold addD at g
    split at g
    · cases g
      exact .inl ⟨_, _, nwInt na, nwInt nb, q _ H F (.refl s) (.int _)⟩
    · rename_i i j
      cases h : addS i j with
      | ok z =>
        rw [h] at g
        cases g
        unfold addS at h
        split at h
        · rename_i hz
          cases h
          exact .inr (.inl ⟨_, _, nwStr na, nwStr nb, hz, q _ H F (.refl s) (.str _)⟩)
        · cases h
      | exc x => rw [h] at g; cases g
      | bad => rw [h] at g; cases g
    · rename_i i j
      cases h : catR i j with
      | ok z =>
        rw [h] at g
        cases g
        unfold catR at h
        split at h
        · rename_i hz
          cases h
          refine .inr (.inr ?_)
          obtain ⟨p, xs, rfl, h1, hF1, r1, z1⟩ := nwTup s na
          obtain ⟨p2, ys, rfl, h2, hF2, r2, z2⟩ := nwTup s nb
          have l1 := r1.length
          have l2 := r2.length
          refine ⟨p, p2, xs, ys, rfl, rfl, .of h1, .of h2, by omega, fun y0 => ?_, fun y1 y2 => ?_, fun y1 y2 t nt => ?_⟩
          · subst y0
            have : i = [] := List.eq_nil_of_length_eq_zero l1.symm
            subst this
            exact q _ H F (.refl s) (.tup hF2 z2 r2)
          · subst y2
            have : j = [] := List.eq_nil_of_length_eq_zero l2.symm
            subst this
            rw [List.append_nil] at q
            exact q _ H F (.refl s) (.tup hF1 z1 r1)
          · exact q _ _ (upd F t _) (.froz s nt) (.tup upd_same (by rw [List.length_append]; omega) ((r1.append r2).mono (same_new (s.free nt))))
        · cases h
      | exc x => rw [h] at g; cases g
      | bad => rw [h] at g; cases g
    · cases g
end Cw
namespace Cw
open PySem PySem.Spec PyProof.Rows L2
variable {α β γ δ ε ζ : Type} {v : Vw} {ρ : Rho} {μ : Md} {ea : α → D} {eb : β → D} {ec : γ → D} {a b : Expr} {ma : R α} {mb : R β} {p pos : Pos}

/-! ## what is walked -/
/-- at each turn, wherever G holds -/
def ItOk (G : Hp → Hp → Prop) (J : It) (xs : List α) (enc : α → D) : Prop :=
  ∀ i F H, Same F H → G F H → (xs.length ≤ i → J.stop i H) ∧ ∀ x, xs[i]? = some x → J.go i H ∧ ∀ u H', J.yld i H u H' → ∃ F', Step F H F' H' ∧ Rp F' u (enc x)
def WantI (v : Vw) (st : Bool) (σ : L2.St) (F H : Hp) (enc : α → D) (m : R (List α)) (R' : It → Hp → Prop) : Prop :=
  match m with
  | .ok xs => ∀ J H' F', Step F H F' H' → xs.length ≤ sizeLine → ItOk (fun F1 H1 => if st then Same F' F1 else Step F' H' F1 H1) J xs enc → R' J H'
  | .exc x => ∀ H' F', Step F H F' H' → v.W (.ref (v.cls x)) none σ H'
  | .bad => False
def rdI (v : Vw) (st : Bool) (ρ : Rho) (enc : α → D) (m : R (List α)) : TI := fun σ H R' => ∃ B F, EnvOk v.K B F H σ ρ ∧ WantI v st σ F H enc m R'
/-- a source; st: it stands whatever the turns do -/
def Si (v : Vw) (st : Bool) (ρ : Rho) (tg e : Expr) (enc : α → D) (m : R (List α)) : Prop := ∀ X, v.Has X → PI X tg e (rdI v st ρ enc m)
theorem _root_.L2.PI.weak {X : Cx} {tg e : Expr} {t t' : TI} (h : PI X tg e t) (f : ∀ σ H Q, t' σ H Q → t σ H Q) : PI X tg e t' :=
  ⟨fun pins s σ H Q I q => h.run pins s σ H Q I (f σ H Q q)⟩
theorem si_st {tg e : Expr} {m : R (List α)} (h : Si v true ρ tg e ea m) : Si v false ρ tg e ea m := fun X hX => (h X hX).weak fun σ H Q ⟨B, F, hE, hW⟩ => ⟨B, F, hE, by
  cases m with
  | ok xs => exact fun J H' F' s z i => hW J H' F' s z fun k F1 H1 sb g => i k F1 H1 sb (by simp only [if_true] at *; exact g.fr)
  | exc x => exact hW
  | bad => exact hW⟩
theorem itl_ok {K : PySem.W.Frag} {G : Hp → Hp → Prop} {q : Addr} {us : List V} {xs : List α} (h : ∀ F H, Same F H → G F H → H q = some (.lst us) ∧ RpA F us (xs.map ea)) : ItOk G (Itl K q) xs ea := fun i F H sb g => by
  obtain ⟨h1, r⟩ := h F H sb g
  have hl := r.length
  rw [List.length_map] at hl
  refine ⟨fun hi => ⟨us, .of h1, by omega⟩, fun x hx => ?_⟩
  obtain ⟨u, e1, e2⟩ := r.get (i := i) (d := ea x) (by simp [hx])
  exact ⟨⟨us, u, .of h1, e1⟩, fun w H' ⟨eH, y⟩ => by
    subst eH
    have : some w = some u := (y us (.of h1)).symm.trans e1
    cases this
    exact ⟨F, .refl sb, e2⟩⟩
theorem itt_ok {K : PySem.W.Frag} {G : Hp → Hp → Prop} {q : Addr} {us : List V} {xs : List α} (h : ∀ F H, Same F H → G F H → H q = some (.tup us) ∧ RpA F us (xs.map ea)) : ItOk G (Itt K q) xs ea := fun i F H sb g => by
  obtain ⟨h1, r⟩ := h F H sb g
  have hl := r.length
  rw [List.length_map] at hl
  refine ⟨fun hi => ⟨us, .of h1, by omega⟩, fun x hx => ?_⟩
  obtain ⟨u, e1, e2⟩ := r.get (i := i) (d := ea x) (by simp [hx])
  exact ⟨⟨us, u, .of h1, e1⟩, fun w H' ⟨eH, y⟩ => by
    subst eH
    have : some w = some u := (y us (.of h1)).symm.trans e1
    cases this
    exact ⟨F, .refl sb, e2⟩⟩
theorem itr_ok {G : Hp → Hp → Prop} (lo : Int) (n : Nat) : ItOk G (Itr lo n) ((List.range n).map fun (i : Nat) => lo + (i : Int)) eI := fun i F H sb g => by
  refine ⟨fun hi => by show n ≤ i; simpa using hi, fun x hx => ?_⟩
  have hi : i < n := by
    have := (List.getElem?_eq_some_iff.mp hx).1
    simpa using this
  refine ⟨hi, fun u H' ⟨eH, y⟩ => ?_⟩
  subst eH
  rw [y]
  have : x = lo + (i : Int) := by
    rw [List.getElem?_map, List.getElem?_range hi] at hx
    cases hx; rfl
  rw [this]
  exact ⟨F, .refl sb, .int _⟩
/-- a frozen list; a list read at once (its turns change nothing); a tuple -/
theorem si_listV {tg : Expr} {m : R (List α)} (h : Sx v .V ρ a (eL ea) m) : Si v true ρ tg a ea m := fun X hX => (pi_list (h X hX)).weak fun σ H Q ⟨B, F, hE, hW⟩ => by
  refine ⟨B, F, hE, ?_⟩
  cases m with
  | ok xs =>
    intro u H1 F1 s1 r1
    cases r1 with
    | @lst q us ds e z r =>
      refine ⟨q, rfl, ⟨us, .of (s1.sub _ _ e)⟩, hW _ H1 F1 s1 (by rw [r.length, List.length_map] at z; exact z) (itl_ok (us := us) fun F2 H2 sb g => ?_)⟩
      simp only [if_true] at g
      exact ⟨sb _ _ (g _ _ e), r.mono g⟩
  | exc x => exact hW
  | bad => exact hW
theorem si_listP {tg : Expr} {m : R (List α)} (h : Sx v .P ρ a (eL ea) m) : Si v false ρ tg a ea m := fun X hX => (pi_list (h X hX)).weak fun σ H Q ⟨B, F, hE, hW⟩ => by
  refine ⟨B, F, hE, ?_⟩
  cases m with
  | ok xs =>
    intro u H1 F1 s1 n1
    obtain ⟨q, us, rfl, h1, r, z⟩ := nwLst s1.sub n1
    refine ⟨q, rfl, ⟨us, .of h1⟩, hW _ H1 F1 s1 (by rw [r.length, List.length_map] at z; exact z) (itl_ok (us := us) fun F2 H2 sb g => ?_)⟩
    simp only [Bool.false_eq_true, if_false] at g
    exact ⟨g.hp _ _ h1, r.mono g.fr⟩
  | exc x => exact hW
  | bad => exact hW
theorem si_tup {tg : Expr} {m : R (List α)} (h : Sx v .P ρ a (eT ea) m) : Si v true ρ tg a ea m := fun X hX => (pi_tup (h X hX)).weak fun σ H Q ⟨B, F, hE, hW⟩ => by
  refine ⟨B, F, hE, ?_⟩
  cases m with
  | ok xs =>
    intro u H1 F1 s1 n1
    obtain ⟨q, us, rfl, h1, hF, r, z⟩ := nwTup s1.sub n1
    refine ⟨q, rfl, ⟨us, .of h1⟩, hW _ H1 F1 s1 (by rw [r.length, List.length_map] at z; exact z) (itt_ok (us := us) fun F2 H2 sb g => ?_)⟩
    simp only [if_true] at g
    exact ⟨sb _ _ (g _ _ hF), r.mono g⟩
  | exc x => exact hW
  | bad => exact hW
/-- lo, lo + 1 .. below hi -/
def rng (lo hi : Int) : List Int := (List.range (hi - lo).toNat).map fun (i : Nat) => lo + (i : Int)
theorem rng_length (lo hi : Int) : (rng lo hi).length = (hi - lo).toNat := by simp [rng]
def small (i : Int) : Bool := decide (-(2 ^ 62) ≤ i) && decide (i < 2 ^ 62)
@[irreducible] def rng1 (n : Int) : R (List Int) := if small n && decide (n ≤ 16777216) then .ok (rng 0 n) else .bad
@[irreducible] def rng2 (lo hi : Int) : R (List Int) := if small lo && small hi && decide (hi - lo ≤ 16777216) then .ok (rng lo hi) else .bad
theorem si_rng1 {tg : Expr} {m : R Int} (hm : v.mg "range" = none) (h : Sx v .V ρ a eI m) (hg : v.sc.names.lookup ("range" : Str) = some .globalImplicit := by rfl) (he : ∀ env, starEach [a] env = (false, eval a env) :: starEach [] env := by intro _; rfl) :
    Si v true ρ tg (.Call (.Name "range" p) [a] [] pos) eI (m.bind rng1) := fun X hX => (pi_range1 (hX.gl hg) (by rw [hX.hmg]; exact hm) (sa_cons h sa_nil he X hX) (he _)).weak fun σ H Q ⟨B, F, hE, hW⟩ => by
  refine ⟨B, F, hE, ?_⟩
  cases m with
  | ok n =>
    replace hW : WantI v true σ F H eI (rng1 n) Q := hW
    intro us H1 F1 s1 r1
    cases r1 with
    | cons r t =>
      cases t
      cases r
      unfold rng1 at hW
      split at hW
      · rename_i hs
        simp only [small, Bool.and_eq_true, decide_eq_true_eq] at hs
        refine ⟨n, rfl, hs.1.1, hs.1.2, hW _ H1 F1 s1 (by rw [rng_length, sizeLine_eq]; omega) ?_⟩
        have := @itr_ok (fun F2 H2 => if true = true then Same F1 F2 else Step F1 H1 F2 H2) 0 n.toNat
        unfold rng
        rw [Int.sub_zero]
        exact this
      · exact hW.elim
  | exc x => exact hW
  | bad => exact hW
theorem si_rng2 {tg : Expr} {m n : R Int} (hm : v.mg "range" = none) (h : Sx v .V ρ a eI m) (h' : Sx v .V ρ b eI n) (hg : v.sc.names.lookup ("range" : Str) = some .globalImplicit := by rfl) (he : ∀ env, starEach [a, b] env = (false, eval a env) :: starEach [b] env := by intro _; rfl) (he2 : ∀ env, starEach [b] env = (false, eval b env) :: starEach [] env := by intro _; rfl) :
    Si v true ρ tg (.Call (.Name "range" p) [a, b] [] pos) eI (m.bind fun i => n.bind fun j => rng2 i j) := fun X hX => (pi_range2 (hX.gl hg) (by rw [hX.hmg]; exact hm) (sa_cons h (sa_cons h' sa_nil he2) he X hX) (by rw [he, he2]; rfl) (by rw [he2]; rfl)).weak fun σ H Q ⟨B, F, hE, hW⟩ => by
  refine ⟨B, F, hE, ?_⟩
  cases m with
  | ok i =>
    cases n with
    | ok j =>
      replace hW : WantI v true σ F H eI (rng2 i j) Q := hW
      intro us H1 F1 s1 r1
      cases r1 with
      | cons r t =>
        cases t with
        | cons r' t =>
          cases t
          cases r
          cases r'
          unfold rng2 at hW
          split at hW
          · rename_i hs
            simp only [small, Bool.and_eq_true, decide_eq_true_eq] at hs
            exact ⟨i, j, rfl, ⟨hs.1.1.1, hs.1.1.2, hs.1.2.1, hs.1.2.2⟩, hW _ H1 F1 s1 (by rw [rng_length, sizeLine_eq]; omega) (itr_ok i (j - i).toNat)⟩
          · exact hW.elim
    | exc x => exact hW
    | bad => exact hW
  | exc x => exact hW
  | bad => exact hW

/-! ## targets -/
/-- the target's slots js are set as upd tells -/
def Gt (v : Vw) (tg : Expr) (enc : α → D) (js : List Nat) (upd : α → Rho → Rho) : Prop := ∀ X, v.Has X → PG X tg fun u σ H Q => ∃ B F ρ x, EnvOk v.K B F H σ ρ ∧ Rp F u (enc x) ∧
  ∀ σ' H' F', Step F H F' H' → EnvOk v.K B F' H' σ' (upd x ρ) → (∀ vs : List Nat, (∀ j ∈ js, j ∈ vs) → wipe σ' vs = wipe σ vs) → Q σ' H'
theorem owned_set {i j : Nat} {s : Option Sl} (h : owned (ρ.set i s) j) (hij : j ≠ i) : owned ρ j := by
  obtain ⟨q, e, o⟩ := h
  rw [List.getElem?_set_ne (Ne.symm hij)] at e
  exact ⟨q, e, o⟩
/-- a name is stored: data -/
theorem EnvOk.setSh {K : PySem.W.Frag} {B : Bs} {F H : Hp} {σ : L2.St} {i : Nat} {u : V} {d : D} (h : EnvOk K B F H σ ρ) (hi : i < σ.length) (r : Rp F u d) : EnvOk K B F H (σ.set i (some u)) (ρ.set i (some (.sh d))) where
  sub := h.sub
  prot := h.prot
  fz := h.fz
  nof := h.nof
  slot := fun j s e => by
    by_cases hj : j = i
    · subst hj
      rw [List.getElem?_set_self hi]
      by_cases hl : j < ρ.length
      · rw [List.getElem?_set_self hl] at e
        cases e
        exact ⟨u, rfl, r⟩
      · rw [List.getElem?_eq_none (by simpa using hl)] at e; cases e
    · rw [List.getElem?_set_ne (Ne.symm hj)] at e ⊢
      exact h.slot j s e
  sep := fun j k a n o1 o2 e1 e2 => by
    have hj : j ≠ i := fun z => by
      subst z
      obtain ⟨s, e, o⟩ := o1
      by_cases hl : j < ρ.length
      · rw [List.getElem?_set_self hl] at e; cases e; cases o
      · rw [List.getElem?_eq_none (by simpa using hl)] at e; cases e
    have hk : k ≠ i := fun z => by
      subst z
      obtain ⟨s, e, o⟩ := o2
      by_cases hl : k < ρ.length
      · rw [List.getElem?_set_self hl] at e; cases e; cases o
      · rw [List.getElem?_eq_none (by simpa using hl)] at e; cases e
    rw [List.getElem?_set_ne (Ne.symm hj)] at e1
    rw [List.getElem?_set_ne (Ne.symm hk)] at e2
    exact h.sep j k a n (owned_set o1 hj) (owned_set o2 hk) e1 e2
  out := fun j a o e => by
    have hj : j ≠ i := fun z => by
      subst z
      obtain ⟨s, e, o⟩ := o
      by_cases hl : j < ρ.length
      · rw [List.getElem?_set_self hl] at e; cases e; cases o
      · rw [List.getElem?_eq_none (by simpa using hl)] at e; cases e
    rw [List.getElem?_set_ne (Ne.symm hj)] at e
    exact h.out j a (owned_set o hj) e
/-- .. a new list (or dict) of its own -/
theorem EnvOk.setOw {K : PySem.W.Frag} {B : Bs} {F H : Hp} {σ : L2.St} {i : Nat} {q : Addr} {d : D} (h : EnvOk K B F H σ ρ) (hi : i < σ.length) (n : F q = none) (o : OwnAt F H q d) (nb : B.hp q = none)
    (no : ∀ j, owned ρ j → σ[j]? ≠ some (some (.ref q))) : EnvOk K B F H (σ.set i (some (.ref q))) (ρ.set i (some (.ow d))) where
  sub := h.sub
  prot := h.prot
  fz := h.fz
  nof := h.nof
  slot := fun j s e => by
    by_cases hj : j = i
    · subst hj
      rw [List.getElem?_set_self hi]
      by_cases hl : j < ρ.length
      · rw [List.getElem?_set_self hl] at e
        cases e
        exact ⟨_, rfl, q, rfl, n, o⟩
      · rw [List.getElem?_eq_none (by simpa using hl)] at e; cases e
    · rw [List.getElem?_set_ne (Ne.symm hj)] at e ⊢
      exact h.slot j s e
  sep := fun j k a ne o1 o2 e1 e2 => by
    by_cases hj : j = i
    · subst hj
      rw [List.getElem?_set_self hi] at e1
      cases e1
      rw [List.getElem?_set_ne ne] at e2
      exact no k (owned_set o2 (Ne.symm ne)) e2
    · rw [List.getElem?_set_ne (Ne.symm hj)] at e1
      by_cases hk : k = i
      · subst hk
        rw [List.getElem?_set_self hi] at e2
        cases e2
        exact no j (owned_set o1 hj) e1
      · rw [List.getElem?_set_ne (Ne.symm hk)] at e2
        exact h.sep j k a ne (owned_set o1 hj) (owned_set o2 hk) e1 e2
  out := fun j a o e => by
    by_cases hj : j = i
    · subst hj
      rw [List.getElem?_set_self hi] at e
      cases e
      exact nb
    · rw [List.getElem?_set_ne (Ne.symm hj)] at e
      exact h.out j a (owned_set o hj) e
theorem wipe_set {σ : L2.St} {i : Nat} {u : Option V} : ∀ {vs : List Nat}, i ∈ vs → wipe (σ.set i u) vs = wipe σ vs
  | w :: vs, h => by
    unfold wipe
    by_cases hi : i ∈ vs
    · rw [wipe_set hi]
    · have : w = i := by
        rcases List.mem_cons.mp h with rfl | h
        · rfl
        · exact absurd h hi
      subst this
      have comm : ∀ vs : List Nat, w ∉ vs → wipe (σ.set w u) vs = (wipe σ vs).set w u := fun vs => by
        induction vs with
        | nil => intro _; rfl
        | cons k ks ih =>
          intro hk
          unfold wipe
          rw [ih (fun z => hk (List.mem_cons_of_mem _ z)), List.set_comm _ _ (fun z => hk (by rw [z]; exact List.mem_cons_self))]
      rw [comm vs hi, List.set_set]
theorem lenσ {X : Cx} {pins : List (Addr × Obj)} {σ : L2.St} {H : Hp} {s : Shared} (I : Inv X pins σ H s) {i : Nat} {x : Str} (h : X.N[i]? = some x) : i < σ.length := by rw [I.len]; exact (List.getElem?_eq_some_iff.mp h).1
theorem Vw.Has.loc {X : Cx} (h : v.Has X) {x : Str} (q : Loc v.sc x) : Loc X.env.scope x := by rw [h.hsc]; exact q
/-- a place that may be stored to -/
def Sto (v : Vw) (x : Str) : Prop := v.sc.names.lookup x = some .local ∨ (v.st x = true ∧ v.sc.names.lookup x = some .cell)
theorem Sto.loc {x : Str} (h : Sto v x) : Loc v.sc x := h.elim .inl fun q => .inr q.2
theorem Sto.fn {X : Cx} (hX : v.Has X) {x : Str} (h : Sto v x) : X.fn x = true ∨ X.env.scope.names.lookup x = some .local := by
  rcases h with h | h
  · right; rw [hX.hsc]; exact h
  · left; exact hX.fn x h.1
theorem gt_name {x : Str} (i : Nat) (hN : v.N[i]? = some x := by rfl) (hx : Sto v x := by first | exact Or.inl rfl | exact Or.inr ⟨rfl, rfl⟩) : Gt v (.Name x pos) ea [i] fun a ρ => ρ.set i (some (.sh (ea a))) := fun X hX => by
  have hN' : X.N[i]? = some x := by rw [hX.hN]; exact hN
  refine ⟨fun pins s σ H u w Q I r h => ?_⟩
  obtain ⟨B, F, ρ, y, hE, rr, q⟩ := h
  refine (pg_name (i := i) hX.nd hN' (hX.loc hx.loc) (hx.fn hX)).run pins s σ H u w Q I r ?_
  exact q _ H F (.refl hE.sub) (hE.setSh (lenσ I hN') rr) fun vs hv => wipe_set (hv i (by simp))
theorem _root_.L2.PG.weak {X : Cx} {tg : Expr} {t t' : TG} (h : PG X tg t) (f : ∀ u σ H Q, t' u σ H Q → t u σ H Q) : PG X tg t' :=
  ⟨fun pins s σ H u w Q I r q => h.run pins s σ H u w Q I r (f u σ H Q q)⟩
/-- (x, y) = a pair -/
theorem gt_pair {t1 t2 : Expr} {k : Nat} {j1 j2 : List Nat} {u1 : α → Rho → Rho} {u2 : β → Rho → Rho} (h1 : Gt v t1 ea j1 u1) (h2 : Gt v t2 eb j2 u2)
    (ha : ∀ env, (assignEach [t1, t2] env).map (·.2) = assign t1 env :: (assignEach [t2] env).map (·.2) := by intro _; rfl) (hb : ∀ env, (assignEach [t2] env).map (·.2) = assign t2 env :: (assignEach [] env).map (·.2) := by intro _; rfl)
    (hl : ∀ env, (assignEach [t1, t2] env).length = 2 := by intro _; rfl) (hst : ∀ env, (assignEach [t1, t2] env).findIdx? (·.1) = none := by intro _; rfl) :
    Gt v (.Tuple [t1, t2] k pos) (eP ea eb) (j1 ++ j2) fun p ρ => u2 p.2 (u1 p.1 ρ) := fun X hX =>
  (pg_tup hX.calm (pgs_cons (h1 X hX) (pgs_cons (h2 X hX) pgs_nil (hb _)) (ha _)) (hl _) (hst _)).weak fun u σ H Q ⟨B, F, ρ, x, hE, r, q⟩ => by
    cases r with
    | @tup t us ds e z r =>
      cases r with
      | cons r1 r =>
        cases r with
        | cons r2 r =>
          cases r
          refine ⟨t, _, rfl, .of (hE.sub _ _ e), rfl, _, _, rfl, B, F, ρ, x.1, hE, r1, fun σ1 H1 F1 s1 hE1 w1 => ?_⟩
          refine ⟨_, _, rfl, B, F1, _, x.2, hE1, r2.mono s1.fr, fun σ2 H2 F2 s2 hE2 w2 => ?_⟩
          exact ⟨rfl, q σ2 H2 F2 (s1.trans s2) hE2 fun vs hv => (w2 vs fun j hj => hv j (List.mem_append_right _ hj)).trans (w1 vs fun j hj => hv j (List.mem_append_left _ hj))⟩
theorem gt_trip {t1 t2 t3 : Expr} {k : Nat} {j1 j2 j3 : List Nat} {u1 : α → Rho → Rho} {u2 : β → Rho → Rho} {u3 : γ → Rho → Rho} (h1 : Gt v t1 ea j1 u1) (h2 : Gt v t2 eb j2 u2) (h3 : Gt v t3 ec j3 u3)
    (ha : ∀ env, (assignEach [t1, t2, t3] env).map (·.2) = assign t1 env :: (assignEach [t2, t3] env).map (·.2) := by intro _; rfl) (hb : ∀ env, (assignEach [t2, t3] env).map (·.2) = assign t2 env :: (assignEach [t3] env).map (·.2) := by intro _; rfl)
    (hc : ∀ env, (assignEach [t3] env).map (·.2) = assign t3 env :: (assignEach [] env).map (·.2) := by intro _; rfl)
    (hl : ∀ env, (assignEach [t1, t2, t3] env).length = 3 := by intro _; rfl) (hst : ∀ env, (assignEach [t1, t2, t3] env).findIdx? (·.1) = none := by intro _; rfl) :
    Gt v (.Tuple [t1, t2, t3] k pos) (eP3 ea eb ec) (j1 ++ (j2 ++ j3)) fun p ρ => u3 p.2.2 (u2 p.2.1 (u1 p.1 ρ)) := fun X hX =>
  (pg_tup hX.calm (pgs_cons (h1 X hX) (pgs_cons (h2 X hX) (pgs_cons (h3 X hX) pgs_nil (hc _)) (hb _)) (ha _)) (hl _) (hst _)).weak fun u σ H Q ⟨B, F, ρ, x, hE, r, q⟩ => by
    cases r with
    | @tup t us ds e z r =>
      cases r with
      | cons r1 r =>
        cases r with
        | cons r2 r =>
          cases r with
          | cons r3 r =>
            cases r
            refine ⟨t, _, rfl, .of (hE.sub _ _ e), rfl, _, _, rfl, B, F, ρ, x.1, hE, r1, fun σ1 H1 F1 s1 hE1 w1 => ?_⟩
            refine ⟨_, _, rfl, B, F1, _, x.2.1, hE1, r2.mono s1.fr, fun σ2 H2 F2 s2 hE2 w2 => ?_⟩
            refine ⟨_, _, rfl, B, F2, _, x.2.2, hE2, (r3.mono s1.fr).mono s2.fr, fun σ3 H3 F3 s3 hE3 w3 => ?_⟩
            exact ⟨rfl, q σ3 H3 F3 ((s1.trans s2).trans s3) hE3 fun vs hv => (w3 vs fun j hj => hv j (List.mem_append_right _ (List.mem_append_right _ hj))).trans
              ((w2 vs fun j hj => hv j (List.mem_append_right _ (List.mem_append_left _ hj))).trans (w1 vs fun j hj => hv j (List.mem_append_left _ hj)))⟩
end Cw
namespace Cw
open PySem PySem.Spec PyProof.Rows L2
variable {α β γ δ ε ζ : Type} {v : Vw} {ρ : Rho} {μ : Md} {ea : α → D} {eb : β → D} {ec : γ → D} {a b : Expr} {ma : R α} {mb : R β} {p pos : Pos}

/-! ## comprehensions -/
def Vw.blk (v : Vw) (sc : Scope) : Vw := { v with sc := relS sc v.sc, W := fun _ _ _ _ => False, top := false, st := fun x => sc.names.lookup x == some .cell }
theorem blk_has {X : Cx} (hX : v.Has X) {s : Shared} {H : Hp} {scope : Scope} {cl : List (Str × Addr)} {C : Addr} {fp : List Addr} (hk : scope.kind = .function) :
    (v.blk scope).Has (X.blk s H scope (compEnvC scope cl C X.env) fp) where
  hP := hX.hP
  hw := hX.hw
  hK := hX.hK
  hmg := hX.hmg
  hb := hX.hb
  hN := hX.hN
  hsc := by
    show relabel scope X.env = relS scope v.sc
    rw [← hX.hsc]; rfl
  calm := hX.calm
  room := hX.room
  gd := hX.gd
  tk := takes0
  po := PassesOwn.never
  nd := hX.nd
  fn := fun x h => h
  stk := fun h => by cases h
  kind := hk
def wipeR (ρ : Rho) : List Nat → Rho
  | [] => ρ
  | w :: vs => (wipeR ρ vs).set w none
theorem wipeR_some {i : Nat} {x : Sl} : ∀ {vs : List Nat}, (wipeR ρ vs)[i]? = some (some x) → ρ[i]? = some (some x) ∧ i ∉ vs
  | [], h => ⟨h, by simp⟩
  | w :: vs, h => by
    unfold wipeR at h
    by_cases hi : w = i
    · subst hi
      by_cases hv : w < (wipeR ρ vs).length
      · rw [List.getElem?_set_self hv] at h; cases h
      · rw [List.getElem?_eq_none (by simpa using hv)] at h; cases h
    · rw [List.getElem?_set_ne hi] at h
      obtain ⟨h1, h2⟩ := wipeR_some h
      exact ⟨h1, by simp only [List.mem_cons, not_or]; exact ⟨fun e => hi e.symm, h2⟩⟩
theorem EnvOk.wipe {K : PySem.W.Frag} {B : Bs} {F H : Hp} {σ : L2.St} (h : EnvOk K B F H σ ρ) (vs : List Nat) : EnvOk K B F H (wipe σ vs) (wipeR ρ vs) where
  sub := h.sub
  prot := h.prot
  fz := h.fz
  nof := h.nof
  slot := fun i s e => by
    obtain ⟨e1, ni⟩ := wipeR_some e
    rw [wipe_out ni]
    exact h.slot i s e1
  sep := fun i j a n ⟨s1, e1, o1⟩ ⟨s2, e2, o2⟩ q1 q2 => h.sep i j a n ⟨s1, (wipeR_some e1).1, o1⟩ ⟨s2, (wipeR_some e2).1, o2⟩ (wipe_some q1).1 (wipe_some q2).1
  out := fun i a ⟨s1, e1, o1⟩ q1 => h.out i a ⟨s1, (wipeR_some e1).1, o1⟩ (wipe_some q1).1
namespace R
def consO (o : Option β) (ys : List β) : List β := match o with | some y => y :: ys | none => ys
/-- each item, kept or left out -/
def fmapM (f : α → R (Option β)) : List α → R (List β)
  | [] => .ok []
  | x :: xs => match f x with
    | .ok o => (fmapM f xs).bind fun ys => .ok (consO o ys)
    | _ => .bad
def mapM (f : α → R β) : List α → R (List β)
  | [] => .ok []
  | x :: xs => match f x with
    | .ok y => (mapM f xs).bind fun ys => .ok (y :: ys)
    | _ => .bad
theorem fmapM_map (f : α → R β) : ∀ xs : List α, fmapM (fun x => (f x).bind fun y => .ok (some y)) xs = mapM f xs
  | [] => rfl
  | x :: xs => by
    unfold fmapM mapM
    rw [fmapM_map f xs]
    cases f x <;> rfl
theorem mapM_ok (f : α → β) : ∀ xs : List α, mapM (fun x => .ok (f x)) xs = .ok (xs.map f)
  | [] => rfl
  | x :: xs => by unfold mapM; rw [mapM_ok f xs]; rfl
theorem fmapM_filter (c : α → Bool) (f : α → R β) : ∀ xs : List α, fmapM (fun x => if c x then (f x).bind fun y => .ok (some y) else .ok none) xs = mapM f (xs.filter c)
  | [] => rfl
  | x :: xs => by
    unfold fmapM
    rw [fmapM_filter c f xs]
    cases h : c x with
    | true =>
      rw [List.filter_cons_of_pos h]
      rw [if_pos rfl, show mapM f (x :: xs.filter c) = (match f x with | .ok y => (mapM f (xs.filter c)).bind fun ys => .ok (y :: ys) | _ => .bad) from rfl]
      cases f x <;> rfl
    | false =>
      rw [List.filter_cons_of_neg (by simp [h]), if_neg (by simp)]
      show R.bind (mapM f (xs.filter c)) _ = _
      cases mapM f (xs.filter c) <;> rfl
/-- what the first ones have left -/
theorem fmapM_split {f : α → R (Option β)} : ∀ {xs : List α} {ys : List β} (i : Nat), fmapM f xs = .ok ys → ∃ zs, fmapM f (xs.take i) = .ok zs ∧ zs.length ≤ i ∧
    ∀ x, xs[i]? = some x → ∃ o, f x = .ok o ∧ fmapM f (xs.take (i + 1)) = .ok (zs ++ o.toList)
  | [], ys, i, h => by cases h; exact ⟨[], by simp [fmapM], by simp, fun x e => by simp at e⟩
  | x :: xs, ys, 0, h => by
    refine ⟨[], rfl, by simp, fun y e => ?_⟩
    simp at e
    subst e
    unfold fmapM at h
    cases q : f x with
    | ok o =>
      refine ⟨o, rfl, ?_⟩
      rw [List.take_succ_cons, List.take_zero]
      unfold fmapM
      rw [q]
      cases o <;> rfl
    | exc z => rw [q] at h; cases h
    | bad => rw [q] at h; cases h
  | x :: xs, ys, i + 1, h => by
    unfold fmapM at h
    cases q : f x with
    | ok o =>
      rw [q] at h
      cases q2 : fmapM f xs with
      | ok zs =>
        obtain ⟨zs', h1, h2, h3⟩ := fmapM_split i q2
        refine ⟨consO o zs', ?_, ?_, fun y e => ?_⟩
        · rw [List.take_succ_cons]
          unfold fmapM
          rw [q, h1]
          rfl
        · cases o
          · show zs'.length ≤ _; omega
          · show (_ :: zs').length ≤ _; rw [List.length_cons]; omega
        · obtain ⟨o2, q3, q4⟩ := h3 y (by simpa using e)
          refine ⟨o2, q3, ?_⟩
          rw [List.take_succ_cons]
          unfold fmapM
          rw [q, q4]
          cases o <;> rfl
      | exc z => rw [q2] at h; cases h
      | bad => rw [q2] at h; cases h
    | exc z => rw [q] at h; cases h
    | bad => rw [q] at h; cases h
end R
/-- tests of a comprehension -/
def Tts (v : Vw) (ρ : Rho) (ifs : List Expr) (m : R Bool) : Prop := ∀ X, v.Has X → PTs X ifs (rdT v ρ m)
theorem tts_nil : Tts v ρ [] (.ok true) := fun X hX => ⟨fun pins s σ H Q I ⟨B, F, hE, hW⟩ => pts_nil.run pins s σ H Q I (hW H F (.refl hE.sub))⟩
theorem tts_one {c : Expr} {m : R Bool} (h : Tt v ρ c m) : Tts v ρ [c] m := fun X hX => pts_one (h X hX)
theorem _root_.L2.PTs.weak {X : Cx} {e : List Expr} {t t' : TT} (h : PTs X e t) (f : ∀ σ H Q, t' σ H Q → t σ H Q) : PTs X e t' :=
  ⟨fun pins s σ H Q I q => h.run pins s σ H Q I (f σ H Q q)⟩
/-- within a block nothing is raised -/
theorem want_blk {vb : Vw} {σ : L2.St} {F H : Hp} {enc : α → D} {m : R α} {Q : VK} {a : α} (e : m = .ok a) (h : Po μ F H (enc a) Q) : Want vb μ σ F H enc m Q := by subst e; exact h

theorem wipe_in {σ : L2.St} {i : Nat} : ∀ {vs : List Nat}, i ∈ vs → i < σ.length → (wipe σ vs)[i]? = some none
  | w :: vs, h, hl => by
    unfold wipe
    by_cases hi : w = i
    · subst hi
      rw [List.getElem?_set_self (by rw [wipe_length]; exact hl)]
    · rw [List.getElem?_set_ne hi]
      rcases List.mem_cons.mp h with z | z
      · exact absurd z.symm hi
      · exact wipe_in z hl
theorem wipe_wipe (σ : L2.St) (vs : List Nat) : wipe (wipe σ vs) vs = wipe σ vs := by
  apply List.ext_getElem?
  intro i
  by_cases hi : i ∈ vs
  · by_cases hl : i < σ.length
    · rw [wipe_in hi (by rw [wipe_length]; exact hl), wipe_in hi hl]
    · rw [List.getElem?_eq_none (by rw [wipe_length, wipe_length]; omega), List.getElem?_eq_none (by rw [wipe_length]; omega)]
  · rw [wipe_out hi]
theorem lc_read {B : Bs} {F H : Hp} {σ : L2.St} {Q : VK} {own : List (Str × Nat)} {scope : Scope} {js : List Nat} {upd : α → Rho → Rho} {xs : α → R Bool} {mi : R (List α)} {f : α → R β} {X : Cx}
    (hjs : ∀ j ∈ js, j ∈ own.map (·.2)) (hE : EnvOk v.K B F H σ ρ)
    (hW : Want v .N σ F H (eL eb) (mi.bind fun l => R.fmapM (fun x => (xs x).bind fun c => if c then (f x).bind fun y => .ok (some y) else .ok none) l) Q) :
    tLc (rdI v false ρ ea mi) (fun u σ H Q => ∃ B F ρ x, EnvOk v.K B F H σ ρ ∧ Rp F u (ea x) ∧ ∀ σ' H' F', Step F H F' H' → EnvOk v.K B F' H' σ' (upd x ρ) → (∀ vs : List Nat, (∀ j ∈ js, j ∈ vs) → wipe σ' vs = wipe σ vs) → Q σ' H')
      (fun σ H Q => ∃ x, rdT (v.blk scope) (upd x (wipeR ρ (own.map (·.2)))) (xs x) σ H Q) (fun σ H Q => ∃ x, rd (v.blk scope) .V (upd x (wipeR ρ (own.map (·.2)))) eb (f x) σ H Q) (own.map (·.2)) σ H Q := by
  refine ⟨B, F, hE, ?_⟩
  cases mi with
  | exc x => exact hW
  | bad => exact hW.elim
  | ok l =>
    intro J H1 F1 s1 hz it Dd nD
    replace hW := hW.step s1
    rw [R.bind_ok] at hW
    cases hm : R.fmapM (fun x => (xs x).bind fun c => if c then (f x).bind fun y => .ok (some y) else .ok none) l with
    | bad => rw [hm] at hW; exact hW.elim
    | exc z =>
      exfalso
      have : ∀ (l : List α) z, R.fmapM (fun x => (xs x).bind fun c => if c then (f x).bind fun y => .ok (some y) else .ok none) l ≠ .exc z := by
        intro l
        induction l with
        | nil => intro z h; cases h
        | cons x l ih =>
          intro z h
          unfold R.fmapM at h
          split at h
          · cases q : R.fmapM (fun x => (xs x).bind fun c => if c then (f x).bind fun y => .ok (some y) else .ok none) l with
            | ok _ => rw [q] at h; cases h
            | exc w => exact ih w q
            | bad => rw [q] at h; cases h
          · cases h
      exact this l z hm
    | ok ys =>
      rw [hm] at hW
      obtain ⟨ds, e, hQ⟩ := hW
      simp only [eL, PyData.list.injEq] at e
      subst e
      have hE1 := hE.step s1
      have nF1 : F1 Dd = none := s1.sub.free nD
      -- the invariant
      refine ⟨fun i m H => ∃ F us zs, m = l.length - i ∧ i ≤ l.length ∧ Step F1 H1 F H ∧ F Dd = none ∧ H Dd = some (.lst us) ∧ R.fmapM (fun x => (xs x).bind fun c => if c then (f x).bind fun y => .ok (some y) else .ok none) (l.take i) = .ok zs ∧ RpA F us (zs.map eb),
        ⟨l.length, F1, [], [], by simp, Nat.zero_le _, ?_, nF1, upd_same, by simp [R.fmapM], .nil⟩, ?_⟩
      · exact .laid s1.sub nD
      · rintro i m H2 ⟨F2, us, zs, rfl, hi, s2, nF2, hD, hzs, r⟩
        have hul : us.length = zs.length := by rw [r.length, List.length_map]
        obtain ⟨zs', h1, h2, h3⟩ := R.fmapM_split i hm
        have : zs' = zs := by rw [hzs] at h1; cases h1; rfl
        subst this
        have J1 := it i F2 H2 s2.sub (by simp only [Bool.false_eq_true, if_false]; exact s2)
        by_cases hlt : i < l.length
        · have hx : l[i]? = some l[i] := List.getElem?_eq_getElem hlt
          obtain ⟨go, yl⟩ := J1.2 _ hx
          obtain ⟨o, hf, hnext⟩ := h3 _ hx
          refine .inr ⟨go, fun H' => ∃ F us, Step F1 H1 F H' ∧ F Dd = none ∧ H' Dd = some (.lst us) ∧ RpA F us ((zs' ++ o.toList).map eb), fun H' ⟨F', us', a1, a2, a3, a4⟩ => ⟨l.length - (i + 1), by omega, F', us', _, rfl, hlt, a1, a2, a3, hnext, a4⟩, fun u H3 y => ?_⟩
          obtain ⟨F3, s3, r3⟩ := yl u H3 y
          have s13 := s2.trans s3
          have keepD : ∀ {F' H' : Hp}, Step F2 H2 F' H' → F' Dd = none ∧ H' Dd = some (.lst us) := fun {F' H'} t => by
            refine ⟨?_, t.hp _ _ hD⟩
            cases q : F' Dd with
            | none => rfl
            | some w =>
              rcases t.new Dd (by rw [q]; simp) with z | z
              · exact absurd nF2 z
              · rw [hD] at z; cases z
          refine ⟨B, F3, wipeR ρ (own.map (·.2)), l[i], (hE1.step s13).wipe _, r3, fun σ4 H4 F4 s4 hE4 w4 => ⟨(w4 _ hjs).trans (wipe_wipe σ _), ?_⟩⟩
          have s14 := s3.trans s4
          cases hc : xs l[i] with
          | ok c =>
            rw [hc, R.bind_ok] at hf
            refine ⟨l[i], B, F4, hE4, ?_⟩
            rw [hc]
            intro H5 F5 s5
            have s15 := s14.trans s5
            cases c with
            | true =>
              rw [if_pos rfl] at hf ⊢
              cases hfx : f l[i] with
              | ok y =>
                rw [hfx, R.bind_ok] at hf
                cases hf
                refine ⟨l[i], B, F5, hE4.step s5, want_blk hfx ?_⟩
                intro w H6 F6 s6 r6
                have s16 := s15.trans s6
                obtain ⟨nD6, hD6⟩ := keepD s16
                refine ⟨us, hD6, by rw [hul]; exact Nat.lt_of_lt_of_le (Nat.lt_of_le_of_lt h2 hlt) hz, F6, us ++ [w], ?_, nD6, upd_same, ?_⟩
                · have t := s2.trans s16
                  refine ⟨t.fr, fun b o e => ?_, fun b o e => ?_, t.new⟩
                  · rw [upd_ne (ne_of_none e nD)]; exact t.hp b o e
                  · rw [upd_ne (fun z => by rw [z, nD6] at e; cases e)]; exact t.sub b o e
                · rw [List.map_append]
                  exact (r.mono s16.fr).append (.cons r6 .nil)
              | exc z => rw [hfx] at hf; cases hf
              | bad => rw [hfx] at hf; cases hf
            | false =>
              rw [if_neg (by simp)] at hf ⊢
              cases hf
              obtain ⟨nD5, hD5⟩ := keepD s15
              refine ⟨F5, us, s2.trans s15, nD5, hD5, ?_⟩
              simpa using r.mono s15.fr
          | exc z => rw [hc] at hf; cases hf
          | bad => rw [hc] at hf; cases hf
        · have ei : i = l.length := by omega
          subst ei
          refine .inl ⟨J1.1 (Nat.le_refl _), ?_⟩
          rw [List.take_length, hm] at hzs
          cases hzs
          have len : us.length ≤ sizeLine := by rw [hul]; exact Nat.le_trans h2 hz
          exact hQ Dd us _ F2 s2 nD nF2 hD len r
section
variable {elt tg iter : Expr} {ifs : List Expr} {scope : Scope} {own : List (Str × Nat)} {js : List Nat} {upd : α → Rho → Rho} {c : α → R Bool} {mi : R (List α)} {f : α → R β}
theorem sx_lcG (hjs : ∀ j ∈ js, j ∈ own.map (·.2)) (hi : Si v false ρ tg iter ea mi) (ok : blkC v.N v.sc scope own = true) (hg : Gt (v.blk scope) tg ea js upd)
    (ht : ∀ x, Tts (v.blk scope) (upd x (wipeR ρ (own.map (·.2)))) ifs (c x)) (he : ∀ x, Sx (v.blk scope) .V (upd x (wipeR ρ (own.map (·.2)))) elt eb (f x)) (hs : ∀ env x, foldedSetIterable iter env x = pure x := by intro _ _; rfl) :
    Sx v .N ρ (.ListComp elt [⟨tg, iter, ifs, 0⟩] scope pos) (eL eb) (mi.bind fun l => R.fmapM (fun x => (c x).bind fun t => if t then (f x).bind fun y => .ok (some y) else .ok none) l) := fun X hX =>
  have hk := (blkOk_by ok).kind
  (pe_lc (own := own) hX.calm hX.nd (hi X hX) (by rw [hX.hN, hX.hsc]; exact blkOk_by ok) (fun s H C cl fp => hg _ (blk_has hX hk))
    (fun s H C cl fp => ⟨fun pins s σ H Q I ⟨x, h⟩ => (ht x _ (blk_has hX hk)).run pins s σ H Q I h⟩) (fun s H C cl fp => ⟨fun pins s σ H Q I ⟨x, h⟩ => (he x _ (blk_has hX hk)).run pins s σ H Q I h⟩) (hs _)).weak
    fun σ H Q ⟨B, F, hE, hW⟩ => lc_read (X := X) hjs hE hW
/-- the statement y = [..] of one line: y's slot i -/
theorem ps_lcG {i : Nat} {y : Str} {py spos : Pos} (hjs : ∀ j ∈ js, j ∈ own.map (·.2)) (hy : v.N[i]? = some y) (hyl : v.sc.names.lookup y = some .local) (hl : (py.line == pos.line) = true) (hn : (scope.names.any fun (n, k) => n == y && (k == .local || k == .cell)) = false)
    (hi : Si v false ρ tg iter ea mi) (ok : blkC v.N v.sc scope own = true) (hg : Gt (v.blk scope) tg ea js upd)
    (ht : ∀ x, Tts (v.blk scope) (upd x (wipeR ρ (own.map (·.2)))) ifs (c x)) (he : ∀ x, Sx (v.blk scope) .V (upd x (wipeR ρ (own.map (·.2)))) elt eb (f x)) (hs : ∀ env x, foldedSetIterable iter env x = pure x := by intro _ _; rfl) (X : Cx) (hX : v.Has X) :
    PS X (.Assign [.Name y py] (.ListComp elt [⟨tg, iter, ifs, 0⟩] scope pos) spos) (tAsg (rd v .N ρ (eL eb) (mi.bind fun l => R.fmapM (fun x => (c x).bind fun t => if t then (f x).bind fun y => .ok (some y) else .ok none) l)) (gName i)) := by
  have hk := (blkOk_by ok).kind
  have hyl' : X.env.scope.names.lookup y = some .local := by rw [hX.hsc]; exact hyl
  have h := ps_setLc (own := own) (spos := spos) (tt := fun σ H Q => ∃ x, rdT (v.blk scope) (upd x (wipeR ρ (own.map (·.2)))) (c x) σ H Q) (te := fun σ H Q => ∃ x, rd (v.blk scope) .V (upd x (wipeR ρ (own.map (·.2)))) eb (f x) σ H Q) hX.calm hX.nd (by rw [hX.hN]; exact hy) hyl' (sw_true hX.kind hyl' hl hn) (hi X hX) (by rw [hX.hN, hX.hsc]; exact blkOk_by ok) (fun s H C cl fp => hg _ (blk_has hX hk))
    (fun s H C cl fp => ⟨fun pins s σ H Q I ⟨x, h⟩ => (ht x _ (blk_has hX hk)).run pins s σ H Q I h⟩) (fun s H C cl fp => ⟨fun pins s σ H Q I ⟨x, h⟩ => (he x _ (blk_has hX hk)).run pins s σ H Q I h⟩) (hs _)
  exact ⟨fun pins s σ H D' I ⟨B, F, hE, hW⟩ => h.run pins s σ H D' I (lc_read (X := X) hjs hE hW)⟩
end

/-! ## defs -/
/-- a def at f keeps the promise sp, called where no guard stands -/
structure FnG (P : Program) (w : World) (K : PySem.W.Frag) (mg : Str → Option Value) (base : Heap) (k : Nat) (f : Addr) (fd : FuncData) (ps : List Str) (sp : Sp) : Prop where
  len : ∀ vs H Q E, sp vs H Q E → vs.length = ps.length
  go : ∀ (A : Around) (out : List PySem.Env) (s : Shared) (H : Hp) (args : Args) (us : List Value) (vs : List V) (Q : VK) (E : XK), Room k A → A.guards = some [] → Env0 P w K mg base A out s H → BindsTo s fd args (ps.zip us) → Vals vs us →
    sp vs H Q E → codeAny (model P w) A (.call (.ref f) args) (CR (L2.CX P w) out P w H s Q E) s
theorem FnG.mono {P : Program} {w : World} {K : PySem.W.Frag} {mg : Str → Option Value} {base : Heap} {j k : Nat} {f : Addr} {fd : FuncData} {ps : List Str} {sp : Sp} (h : FnG P w K mg base j f fd ps sp) (l : j ≤ k) : FnG P w K mg base k f fd ps sp :=
  ⟨h.len, fun A out s H args us vs Q E hr => h.go A out s H args us vs Q E (hr.mono l)⟩
/-- a def of the program, by its name -/
structure Df (G : Pg) (k : Nat) (x : Str) (ps : List Str) (sp : Sp) : Prop where
  ex : ∃ f fd, FnG G.P G.w G.K G.mg G.base k f fd ps sp ∧ G.mg x = some (.ref f) ∧ PySem.W.keepIn G.K (.ref f) = true ∧ Binds G.K fd ps []
theorem Df.mono {G : Pg} {j k : Nat} {x : Str} {ps : List Str} {sp : Sp} (h : Df G j x ps sp) (l : j ≤ k) : Df G k x ps sp :=
  let ⟨f, fd, h1, h2⟩ := h.ex
  ⟨f, fd, h1.mono l, h2⟩
section
variable {X : Cx} {k : Nat} {f : Addr} {fd : FuncData} {ps : List Str} {sp : Sp} {E : L2.St → XK} {x : Str} {t : TA} {e : Expr} {es : List Expr}
theorem run_g {pins : List (Addr × Obj)} {σ : L2.St} {H : Hp} {s : Shared} {Q : VK} {us : List Value} {vs : List V} (h : FnG X.prog X.w X.K X.mg X.base k f fd ps sp) (hr : Room k X.A) (hgd : X.A.guards = some []) (hb : Binds X.K fd ps [])
    (hx : PassesAt (L2.CX X.prog X.w) X σ (E σ)) (I : Inv X pins σ H s) (r : Vals vs us) (q : sp vs H Q (E σ)) : wpAny (model X.prog X.w) X.A (call (.ref f) us) (EP X pins σ Q) X.xe s := by
  have hl : us.length = ps.length := r.length.symm.trans (h.len _ _ _ _ q)
  have bb := hb s us I.kIn (by simpa using hl)
  simp only [List.append_nil] at bb
  refine wpAny_call (codeAny_mono (h.go X.A X.stack s H ⟨us, []⟩ us vs Q (E σ) hr hgd I.env0 bb r q) fun res s' hq => ?_)
  match res, hq with
  | .error e, hq => exact hx pins H s e s' I hq
  | .ok (.ret u), hq => exact I.after hq
  | .ok .next, hq => exact False.elim hq
  | .ok .brk, hq => exact False.elim hq
  | .ok .cont, hq => exact False.elim hq
theorem pe_callG (h : FnG X.prog X.w X.K X.mg X.base k f fd ps sp) (hr : Room k X.A) (hgd : X.A.guards = some []) (hg : Gl X x) (hm : X.mg x = some (.ref f)) (hk : PySem.W.keepIn X.K (.ref f) = true) (hb : Binds X.K fd ps [])
    (hx : ∀ σ, PassesAt (L2.CX X.prog X.w) X σ (E σ)) (ha : PA X (e :: es) t) (hdb : (x == ("__debug__" : Str)) = false := by decide)
    (he : starEach (e :: es) X.env = (false, eval e X.env) :: starEach es X.env := by rfl) (hpl : (backTo pos (starEach es X.env)).any (·.1) = false := by rfl) :
    PE X (.Call (.Name x p) (e :: es) [] pos) (tCallS sp E t) := by
  refine ⟨fun pins s σ H Q I q => ?_⟩
  refine wpAny_Call_Name_kw (ld_glob I hg hm ?_ hdb)
  exact PySem.W.callWith_K (h₀ := X.base) I.ok.mod.kin hk (thn (ha.run pos pins s σ H _ I q) fun us s1 ⟨vs, H1, I1, r, q1⟩ => ⟨I1.kIn, run_g h hr hgd hb (hx σ) I1 r q1⟩) he hpl
theorem pe_callG0 (h : FnG X.prog X.w X.K X.mg X.base k f fd ps sp) (hr : Room k X.A) (hgd : X.A.guards = some []) (hg : Gl X x) (hm : X.mg x = some (.ref f)) (hk : PySem.W.keepIn X.K (.ref f) = true) (hb : Binds X.K fd ps [])
    (hx : ∀ σ, PassesAt (L2.CX X.prog X.w) X σ (E σ)) (hdb : (x == ("__debug__" : Str)) = false := by decide) : PE X (.Call (.Name x p) [] [] pos) (tCallS sp E tNil) := by
  refine ⟨fun pins s σ H Q I q => ?_⟩
  exact wpAny_Call_Name_kw (ld_glob I hg hm (PySem.W.callWith_K0 I.kIn hk (run_g (us := []) h hr hgd hb (hx σ) I .nil q)) hdb)
end
/-- what a pure def promises: at the data ds it comes to r -/
def PromP (cls : Ex → Addr) (ds : List D) (r : R D) : Sp := fun vs H Q E => ∃ F, Same F H ∧ RpA F vs ds ∧
  match r with
  | .ok d => ∀ u H' F', Step F H F' H' → Rp F' u d → Q u H'
  | .exc x => ∀ H' F', Step F H F' H' → E (.ref (cls x)) none H'
  | .bad => False
def spP (cls : Ex → Addr) (ea : α → List D) (eb : β → D) (f : α → R β) : Sp := fun vs H Q E => ∃ a, PromP cls (ea a) ((f a).map eb) vs H Q E
/-- the arguments, typed: each in its place -/
def Sar (v : Vw) (ρ : Rho) (es : List Expr) (enc : α → List D) (m : R α) : Prop := SA v ρ es (m.map enc)
theorem sar_nil : Sar v ρ [] (fun (_ : Unit) => []) (.ok ()) := sa_nil
theorem sar_cons {e : Expr} {es : List Expr} {eb : β → List D} {mb : R β} (h : Sx v .V ρ e ea ma) (t : Sar v ρ es eb mb) (hs : ∀ env, starEach (e :: es) env = (false, eval e env) :: starEach es env := by intro _; rfl) :
    Sar v ρ (e :: es) (fun (q : α × β) => ea q.1 :: eb q.2) (ma.bind fun a => mb.bind fun b => .ok (a, b)) := by
  have q := sa_cons h t hs
  unfold Sar
  have : (ma.bind fun a => (mb.map eb).bind fun ds => R.ok (ea a :: ds)) = (ma.bind fun a => mb.bind fun b => R.ok (a, b)).map (fun (q : α × β) => ea q.1 :: eb q.2) := by
    cases ma <;> cases mb <;> rfl
  rw [← this]
  exact q
theorem sx_callG {k : Nat} {x : Str} {ps : List Str} {enc : α → List D} {f : α → R β} {e : Expr} {es : List Expr} {m : R α} (h : Df v.pg k x ps (spP v.cls enc eb f)) (hk : k ≤ v.k) (ha : Sar v ρ (e :: es) enc m)
    (hg : v.sc.names.lookup x = some .globalImplicit := by rfl) (hdb : (x == ("__debug__" : Str)) = false := by decide) (he : ∀ env, starEach (e :: es) env = (false, eval e env) :: starEach es env := by intro _; rfl)
    (hpl : ∀ env, (backTo pos (starEach es env)).any (·.1) = false := by intro _; rfl) : Sx v .V ρ (.Call (.Name x p) (e :: es) [] pos) eb (m.bind f) := fun X hX => by
  obtain ⟨fa, fd, hf, hm, hkp, hb⟩ := h.ex
  refine (pe_callG (k := k) (sp := spP v.cls enc eb f) (E := fun σ => WE v.W σ) (by rw [hX.hP, hX.hw, hX.hK, hX.hmg, hX.hb]; exact hf) (hX.room.mono hk) hX.gd (hX.gl hg) (by rw [hX.hmg]; exact hm) (by rw [hX.hK]; exact hkp) (by rw [hX.hK]; exact hb) (fun σ => passAt hX.tk σ)
    (ha X hX) hdb (he _) (hpl _)).weak fun σ H Q ⟨B, F, hE, hW⟩ => ?_
  refine ⟨B, F, hE, ?_⟩
  cases m with
  | ok a =>
    intro us H1 F1 s1 r1
    refine ⟨a, F1, s1.sub, r1, ?_⟩
    replace hW := hW.step s1
    rw [R.bind_ok] at hW
    cases hfa : f a with
    | ok c => rw [hfa] at hW; exact hW
    | exc x => rw [hfa] at hW; exact hW
    | bad => rw [hfa] at hW; exact hW
  | exc x => exact hW
  | bad => exact hW
theorem sx_callG0 {k : Nat} {x : Str} {f : Unit → R β} (h : Df v.pg k x [] (spP v.cls (fun _ => []) eb f)) (hk : k ≤ v.k) (hg : v.sc.names.lookup x = some .globalImplicit := by rfl) (hdb : (x == ("__debug__" : Str)) = false := by decide) :
    Sx v .V ρ (.Call (.Name x p) [] [] pos) eb (f ()) := fun X hX => by
  obtain ⟨fa, fd, hf, hm, hkp, hb⟩ := h.ex
  refine (pe_callG0 (k := k) (sp := spP v.cls (fun _ => []) eb f) (E := fun σ => WE v.W σ) (by rw [hX.hP, hX.hw, hX.hK, hX.hmg, hX.hb]; exact hf) (hX.room.mono hk) hX.gd (hX.gl hg) (by rw [hX.hmg]; exact hm) (by rw [hX.hK]; exact hkp) (by rw [hX.hK]; exact hb) (fun σ => passAt hX.tk σ)
    hdb).weak fun σ H Q ⟨B, F, hE, hW⟩ => ?_
  refine ⟨(), F, hE.sub, .nil, ?_⟩
  cases hfa : f () with
  | ok c => rw [hfa] at hW; exact hW
  | exc x => rw [hfa] at hW; exact hW
  | bad => rw [hfa] at hW; exact hW
end Cw
namespace Cw
open PySem PySem.Spec PyProof.Rows L2
variable {α β γ δ ε ζ τ : Type} {v : Vw} {ρ : Rho} {μ : Md} {ea : α → D} {eb : β → D} {ec : γ → D} {a b : Expr} {ma : R α} {mb : R β} {p pos : Pos}

/-! ## statements: m is what the whole of the def comes to from here -/
/-- the answer's form, what is known of the slots behind the def, and where one of the two errors goes out -/
structure Rt (β : Type) where
  enc : β → D
  re : β → Rho
  rx : Rho
structure Kt (β : Type) : Type 1 where
  τ : Type
  N : τ → Rho
  K : τ → R β
def kNo {β : Type} : Kt β := ⟨Empty, fun e => e.elim, fun e => e.elim⟩
structure Cs (β : Type) : Type 1 where
  nx : Kt β
  bk : Kt β := kNo
  ct : Kt β := kNo
abbrev Cs.to (C : Cs β) {τ : Type} (N : τ → Rho) (K : τ → R β) : Cs β := { C with nx := ⟨τ, N, K⟩ }
def WantS (v : Vw) (B : Bs) (G : Rt β) (F : Hp) (m : R β) (D' : Ends) : Prop :=
  match m with
  | .ok b => ∀ u σ' H' F', Same F F' → EnvOk v.K B F' H' σ' (G.re b) → Rp F' u (G.enc b) → D'.rt u H'
  | .exc x => ∀ σ' H' F', Same F F' → EnvOk v.K B F' H' σ' G.rx → v.W (.ref (v.cls x)) none σ' H'
  | .bad => False
theorem WantS.mono {B : Bs} {G : Rt β} {F F1 : Hp} {m : R β} {D' : Ends} (s : Same F F1) (h : WantS v B G F m D') : WantS v B G F1 m D' := by
  cases m with
  | ok b => exact fun u σ' H' F' t => h u σ' H' F' (s.trans t)
  | exc x => exact fun σ' H' F' t => h σ' H' F' (s.trans t)
  | bad => exact h
def Kt.Good (k : Kt β) (v : Vw) (B : Bs) (G : Rt β) (F : Hp) (D' : Ends) (P : L2.St → Hp → Prop) : Prop :=
  ∀ t σ' H' F', Same F F' → EnvOk v.K B F' H' σ' (k.N t) → WantS v B G F' (k.K t) D' → P σ' H'
theorem Kt.Good.mono {k : Kt β} {B : Bs} {G : Rt β} {F F1 : Hp} {D' : Ends} {P : L2.St → Hp → Prop} (s : Same F F1) (h : k.Good v B G F D' P) : k.Good v B G F1 D' P :=
  fun t σ' H' F' q => h t σ' H' F' (s.trans q)
structure Goods (C : Cs β) (v : Vw) (B : Bs) (G : Rt β) (F : Hp) (D' : Ends) : Prop where
  nx : C.nx.Good v B G F D' D'.nx
  bk : C.bk.Good v B G F D' D'.bk
  ct : C.ct.Good v B G F D' D'.ct
theorem Goods.mono {C : Cs β} {B : Bs} {G : Rt β} {F F1 : Hp} {D' : Ends} (s : Same F F1) (h : Goods C v B G F D') : Goods C v B G F1 D' := ⟨h.nx.mono s, h.bk.mono s, h.ct.mono s⟩
def rdS (v : Vw) (G : Rt β) (C : Cs β) (ρ : Rho) (m : R β) : TS := fun D' σ H => ∃ B F, EnvOk v.K B F H σ ρ ∧ WantS v B G F m D' ∧ Goods C v B G F D'
def Ss (v : Vw) (G : Rt β) (C : Cs β) (ρ : Rho) (sts : List Stmt) (m : R β) : Prop := ∀ X, v.Has X → PSs X sts (rdS v G C ρ m)
def S1 (v : Vw) (G : Rt β) (C : Cs β) (ρ : Rho) (st : Stmt) (m : R β) : Prop := ∀ X, v.Has X → PS X st (rdS v G C ρ m)
theorem _root_.L2.PS.weak {X : Cx} {st : Stmt} {t t' : TS} (h : PS X st t) (f : ∀ D' σ H, t' D' σ H → t D' σ H) : PS X st t' :=
  ⟨fun pins s σ H D' I q => h.run pins s σ H D' I (f D' σ H q)⟩
theorem _root_.L2.PSs.weak {X : Cx} {st : List Stmt} {t t' : TS} (h : PSs X st t) (f : ∀ D' σ H, t' D' σ H → t D' σ H) : PSs X st t' :=
  ⟨fun pins s σ H D' I q => h.run pins s σ H D' I (f D' σ H q)⟩
variable {G : Rt β} {C : Cs β} {rest : List Stmt}
theorem ss_nil {ρ' : Rho} {m : R β} (t : C.nx.τ) (l : Le ρ (C.nx.N t)) (hm : C.nx.K t = m) : Ss v G C ρ [] m := fun X hX => pss_nil.weak fun D' σ H ⟨B, F, hE, hW, g⟩ => by
  subst hm
  exact g.nx t σ H F (.refl F) (hE.le l) hW
theorem ss_cons {st : Stmt} {m : R β} {N : τ → Rho} {K : τ → R β} (h1 : S1 v G (C.to N K) ρ st m) (h2 : ∀ t, Ss v G C (N t) rest (K t)) : Ss v G C ρ (st :: rest) m := fun X hX =>
  (pss_cons (h1 X hX) (u := fun D' σ H => ∃ t, rdS v G C (N t) (K t) D' σ H) ⟨fun pins s σ H D' I ⟨t, q⟩ => (h2 t X hX).run pins s σ H D' I q⟩).weak fun D' σ H ⟨B, F, hE, hW, g⟩ =>
    ⟨B, F, hE, hW, fun t σ' H' F' s hE' hW' => ⟨t, B, F', hE', hW', g.mono s⟩, g.bk, g.ct⟩
/-- what an expression leaves for the rest -/
theorem wantS {σ : L2.St} {H F : Hp} {B : Bs} {enc : α → D} {m : R α} {k : α → R β} {D' : Ends} {Q : VK} (hE : EnvOk v.K B F H σ ρ) (hx : Le ρ G.rx) (hW : WantS v B G F (m.bind k) D')
    (go : ∀ a, m = .ok a → WantS v B G F (k a) D' → Po μ F H (enc a) Q) : rd v μ ρ enc m σ H Q := by
  refine ⟨B, F, hE, ?_⟩
  cases m with
  | ok a => exact go a rfl hW
  | exc x => exact fun H' F' s => hW σ H' F' s.fr ((hE.step s).le hx)
  | bad => exact hW
theorem wantT {σ : L2.St} {H F : Hp} {B : Bs} {m : R Bool} {k : Bool → R β} {D' : Ends} {Q : Bool → Hp → Prop} (hE : EnvOk v.K B F H σ ρ) (hx : Le ρ G.rx) (hW : WantS v B G F (m.bind k) D')
    (go : ∀ a, m = .ok a → WantS v B G F (k a) D' → ∀ H' F', Step F H F' H' → Q a H') : rdT v ρ m σ H Q := by
  refine ⟨B, F, hE, ?_⟩
  cases m with
  | ok a => exact go a rfl hW
  | exc x => exact fun H' F' s => hW σ H' F' s.fr ((hE.step s).le hx)
  | bad => exact hW
theorem ss_one {st : Stmt} {m : R β} (h : S1 v G C ρ st m) : Ss v G C ρ [st] m := fun X hX => pss_one (h X hX)
/-- a statement behind which nothing comes -/
theorem ss_dead {st : Stmt} {m : R β} (h : S1 v G (C.to (fun e : Empty => e.elim) (fun e : Empty => e.elim)) ρ st m) : Ss v G C ρ (st :: rest) m := ss_cons h fun t => t.elim
theorem s1_ret {e : Expr} {m : R α} {f : α → β} (h : Sx v .V ρ e ea m) (hf : ∀ a, G.enc (f a) = ea a) (hl : ∀ a, Le ρ (G.re (f a)) := by intro _; exact .nil) (hx : Le ρ G.rx := by first | exact .nil | exact .k .nil | exact .refl _) :
    S1 v G C ρ (.Return (some e) pos) (m.bind fun a => .ok (f a)) := fun X hX => (ps_ret (h X hX)).weak fun D' σ H ⟨B, F, hE, hW, g⟩ =>
  wantS hE hx hW fun a _ hW u H' F' s r => hW u σ H' F' s.fr ((hE.step s).le (hl a)) (by rw [hf]; exact r)
theorem s1_ret0 {e : Expr} {m : R β} (h : Sx v .V ρ e G.enc m) (hl : ∀ a, Le ρ (G.re a) := by intro _; exact .nil) (hx : Le ρ G.rx := by first | exact .nil | exact .k .nil | exact .refl _) :
    S1 v G C ρ (.Return (some e) pos) m := fun X hX => by
  have q := s1_ret (C := C) (G := G) (pos := pos) (f := id) h (fun _ => rfl) hl hx X hX
  have : (m.bind fun a => R.ok (id a)) = m := by cases m <;> rfl
  rw [this] at q
  exact q
theorem s1_set {e : Expr} {x : Str} {pos' : Pos} {m : R α} {k : α → R β} (i : Nat) (h : Sx v .V ρ e ea m) (hN : v.N[i]? = some x := by rfl) (hx : Sto v x := by first | exact Or.inl rfl | exact Or.inr ⟨rfl, rfl⟩)
    (hs : ∀ env, swapsWith e (some (.Name x pos')) pos.line env = pure false := by intro _; rfl) (hr : Le ρ G.rx := by first | exact .nil | exact .k .nil | exact .refl _) :
    S1 v G (C.to (fun a => ρ.set i (some (.sh (ea a)))) k) ρ (.Assign [.Name x pos'] e pos) (m.bind k) := fun X hX => by
  have hN' : X.N[i]? = some x := by rw [hX.hN]; exact hN
  have h1 := ps_set (pos := pos) (pos' := pos') hX.nd hN' (hX.loc hx.loc) (h X hX) (hs _) (hx.fn hX)
  refine ⟨fun pins s σ H D' I ⟨B, F, hE, hW, g⟩ => h1.run pins s σ H D' I ?_⟩
  refine wantS hE hr hW fun a _ hW u H' F' t r => ?_
  exact g.nx a _ H' F' t.fr ((hE.step t).setSh (lenσ I hN') r) (hW.mono t.fr)
/-- a fresh address is no owned one's -/
theorem EnvOk.fresh {K : PySem.W.Frag} {B : Bs} {F H : Hp} {σ : L2.St} (h : EnvOk K B F H σ ρ) {q : Addr} (n : H q = none) : B.hp q = none ∧ ∀ j, owned ρ j → σ[j]? ≠ some (some (.ref q)) := by
  refine ⟨h.prot.free n, fun j ⟨s, e, o⟩ z => ?_⟩
  obtain ⟨w, h1, h2⟩ := h.slot j s e
  rw [h1] at z
  cases z
  cases s with
  | sh d => cases o
  | scr a ns => cases o
  | ow d => obtain ⟨a, e, _, q2⟩ := h2; cases e; obtain ⟨o, ho⟩ := q2.some; rw [n] at ho; cases ho
  | io a d => obtain ⟨e, _, q2⟩ := h2; cases e; obtain ⟨o, ho⟩ := q2.some; rw [n] at ho; cases ho
theorem setN {K : PySem.W.Frag} {B : Bs} {F H F' H' : Hp} {σ : L2.St} {i : Nat} {q : Addr} {xs : List V} {ds : List D} (hE : EnvOk K B F H σ ρ) (t : Step F H F' H') (np : H q = none) (nf : F' q = none) (e : H' q = some (.lst xs)) (z : xs.length ≤ sizeLine) (r : RpA F' xs ds)
    (hi : i < σ.length) : EnvOk K B F' H' (σ.set i (some (.ref q))) (ρ.set i (some (.ow (.list ds)))) := by
  obtain ⟨h1, h2⟩ := hE.fresh np
  exact (hE.step t).setOw hi nf ⟨xs, e, z, r⟩ h1 h2
/-- .. of its own -/
theorem s1_setN {e : Expr} {x : Str} {pos' : Pos} {m : R α} {k : α → R β} (i : Nat) (h : Sx v .N ρ e ea m) (hl : ∀ a, ∃ ds, ea a = .list ds) (hN : v.N[i]? = some x := by rfl) (hx : Sto v x := by first | exact Or.inl rfl | exact Or.inr ⟨rfl, rfl⟩)
    (hs : ∀ env, swapsWith e (some (.Name x pos')) pos.line env = pure false := by intro _; rfl) (hr : Le ρ G.rx := by first | exact .nil | exact .k .nil | exact .refl _) :
    S1 v G (C.to (fun a => ρ.set i (some (.ow (ea a)))) k) ρ (.Assign [.Name x pos'] e pos) (m.bind k) := fun X hX => by
  have hN' : X.N[i]? = some x := by rw [hX.hN]; exact hN
  have h1 := ps_set (pos := pos) (pos' := pos') hX.nd hN' (hX.loc hx.loc) (h X hX) (hs _) (hx.fn hX)
  refine ⟨fun pins s σ H D' I ⟨B, F, hE, hW, g⟩ => h1.run pins s σ H D' I ?_⟩
  refine wantS hE hr hW fun a _ hW => ?_
  obtain ⟨ds, hq⟩ := hl a
  refine ⟨ds, hq, fun q xs H' F' t np nf e z r => g.nx a _ H' F' t.fr ?_ (hW.mono t.fr)⟩
  show EnvOk v.K B F' H' _ (ρ.set i (some (.ow (ea a))))
  rw [hq]
  exact setN hE t np nf e z r (lenσ I hN')
theorem s1_lc {elt tg iter : Expr} {ifs : List Expr} {scope : Scope} {own : List (Str × Nat)} {js : List Nat} {upd : α → Rho → Rho} {c : α → R Bool} {mi : R (List α)} {f : α → R γ} {y : Str} {py spos : Pos} {μ : Md} {k : List γ → R β} {s : List γ → Sl} (i : Nat)
    (hjs : ∀ j ∈ js, j ∈ own.map (·.2)) (hy : v.N[i]? = some y) (hyl : v.sc.names.lookup y = some .local) (hl : (py.line == pos.line) = true) (hn : (scope.names.any fun (n, k) => n == y && (k == .local || k == .cell)) = false)
    (hi : Si v false ρ tg iter ea mi) (ok : blkC v.N v.sc scope own = true) (hg : Gt (v.blk scope) tg ea js upd)
    (ht : ∀ x, Tts (v.blk scope) (upd x (wipeR ρ (own.map (·.2)))) ifs (c x)) (he : ∀ x, Sx (v.blk scope) .V (upd x (wipeR ρ (own.map (·.2)))) elt ec (f x)) (hsl : s = (fun l => .sh (eL ec l)) ∨ s = (fun l => .ow (eL ec l)))
    (hs : ∀ env x, foldedSetIterable iter env x = pure x := by intro _ _; rfl) (hr : Le ρ G.rx := by first | exact .nil | exact .k .nil | exact .refl _) :
    S1 v G (C.to (fun l => ρ.set i (some (s l))) k) ρ (.Assign [.Name y py] (.ListComp elt [⟨tg, iter, ifs, 0⟩] scope pos) spos)
      ((mi.bind fun l => R.fmapM (fun x => (c x).bind fun t => if t then (f x).bind fun y => .ok (some y) else .ok none) l).bind k) := fun X hX => by
  have h1 := ps_lcG (spos := spos) hjs hy hyl hl hn hi ok hg ht he hs X hX
  have hN' : X.N[i]? = some y := by rw [hX.hN]; exact hy
  refine ⟨fun pins st σ H D' I ⟨B, F, hE, hW, g⟩ => h1.run pins st σ H D' I ?_⟩
  refine wantS hE hr hW fun l _ hW => ?_
  refine ⟨l.map ec, rfl, fun q xs H' F' t np nf e z r => ?_⟩
  rcases hsl with rfl | rfl
  · have t2 := t.frz np nf e
    exact g.nx l _ H' _ t2.fr ((hE.step t2).setSh (lenσ I hN') (.lst upd_same z (r.mono (same_new nf)))) (hW.mono t2.fr)
  · exact g.nx l _ H' F' t.fr (setN hE t np nf e z r (lenσ I hN')) (hW.mono t.fr)
/-! if -/
theorem s1_if {c : Expr} {A A' : List Stmt} {mc : R Bool} {m1 m2 : R β} (hc : Tt v ρ c mc) (h1 : Ss v G C ρ A m1) (h2 : Ss v G C ρ A' m2) (hx : Le ρ G.rx := by first | exact .nil | exact .k .nil | exact .refl _) : S1 v G C ρ (.If c A A' pos) (mc.bind fun t => if t then m1 else m2) := fun X hX =>
  (ps_if (hc X hX) (h1 X hX) (h2 X hX)).weak fun D' σ H ⟨B, F, hE, hW, g⟩ => wantT hE hx hW fun t _ hW H' F' s => by
    cases t with
    | true => exact ⟨B, F', hE.step s, hW.mono s.fr, g.mono s.fr⟩
    | false => exact ⟨B, F', hE.step s, hW.mono s.fr, g.mono s.fr⟩
/-- .. that meets again: what the two ways leave -/
theorem s1_ifJ {c : Expr} {A A' : List Stmt} {mc : R Bool} {j1 j2 : R τ} {N : τ → Rho} {K : τ → R β} (hc : Tt v ρ c mc) (h1 : Ss v G (C.to N K) ρ A (j1.bind K)) (h2 : Ss v G (C.to N K) ρ A' (j2.bind K)) (hx : Le ρ G.rx := by first | exact .nil | exact .k .nil | exact .refl _) :
    S1 v G (C.to N K) ρ (.If c A A' pos) ((mc.bind fun t => if t then j1 else j2).bind K) := by
  have h := s1_if (pos := pos) hc h1 h2 hx
  have : (mc.bind fun t => if t then j1.bind K else j2.bind K) = (mc.bind fun t => if t then j1 else j2).bind K := by
    cases mc with
    | ok t => cases t <;> rfl
    | exc x => rfl
    | bad => rfl
  rw [← this]
  exact h
/-- an expression whose value is dropped -/
theorem s1_expr {e : Expr} {m : R α} {k : α → R β} (h : Sx v .V ρ e ea m) (hs : ∀ env, swapsWith e none pos.line env = pure false := by intro _; rfl) (hr : Le ρ G.rx := by first | exact .nil | exact .k .nil | exact .refl _) :
    S1 v G (C.to (fun _ => ρ) k) ρ (.Expr e pos) (m.bind k) := fun X hX => (ps_expr (h X hX) (hs _)).weak fun D' σ H ⟨B, F, hE, hW, g⟩ =>
  wantS hE hr hW fun a _ hW u H' F' t r => g.nx a _ H' F' t.fr (hE.step t) (hW.mono t.fr)
theorem s1_pass {k : Unit → R β} : S1 v G (C.to (fun _ => ρ) k) ρ (.Pass pos) (k ()) := fun X hX => ps_pass.weak fun D' σ H ⟨B, F, hE, hW, g⟩ => g.nx () σ H F (.refl F) hE hW
theorem s1_break {m : R β} (t : C.bk.τ) (l : Le ρ (C.bk.N t)) (hm : C.bk.K t = m) : S1 v G C ρ (.Break pos) m := fun X hX => ps_break.weak fun D' σ H ⟨B, F, hE, hW, g⟩ => by
  subst hm
  exact g.bk t σ H F (.refl F) (hE.le l) hW
theorem s1_cont {m : R β} (t : C.ct.τ) (l : Le ρ (C.ct.N t)) (hm : C.ct.K t = m) : S1 v G C ρ (.Continue pos) m := fun X hX => ps_continue.weak fun D' σ H ⟨B, F, hE, hW, g⟩ => by
  subst hm
  exact g.ct t σ H F (.refl F) (hE.le l) hW
/-- a name's own thing is let go: from now on it is data -/
theorem EnvOk.freeze {K : PySem.W.Frag} {B : Bs} {F H : Hp} {σ : L2.St} {i : Nat} {ds : List D} (h : EnvOk K B F H σ ρ) (e : ρ[i]? = some (some (.ow (.list ds)))) :
    ∃ F', Same F F' ∧ EnvOk K B F' H σ (ρ.set i (some (.sh (.list ds)))) := by
  obtain ⟨w, h1, q, rfl, nf, xs, hq, z, r⟩ := h.slot i _ e
  have oi : owned ρ i := ⟨_, e, rfl⟩
  have nb := h.out i q oi h1
  have hs : Same F (upd F q (.lst xs)) := same_new nf
  refine ⟨upd F q (.lst xs), hs, ⟨fun b o eb => ?_, h.prot, h.fz.trans hs, fun b o eb hb => ?_, fun j s ej => ?_, fun j k c n o1 o2 => ?_, fun j c o => ?_⟩⟩
  · by_cases hb : b = q
    · subst hb; rw [upd_same] at eb; rw [hq]; exact eb
    · rw [upd_ne hb] at eb; exact h.sub b o eb
  · by_cases hbq : b = q
    · subst hbq; rw [nb] at eb; cases eb
    · rw [upd_ne hbq] at hb; exact h.nof b o eb hb
  · by_cases hj : j = i
    · subst hj
      have hl : j < ρ.length := (List.getElem?_eq_some_iff.mp e).1
      rw [List.getElem?_set_self hl] at ej
      cases ej
      exact ⟨_, h1, .lst upd_same z (r.mono hs)⟩
    · rw [List.getElem?_set_ne (Ne.symm hj)] at ej
      obtain ⟨w, w1, w2⟩ := h.slot j s ej
      refine ⟨w, w1, ?_⟩
      cases s with
      | sh d => exact Rp.mono hs w2
      | scr a ns => exact ⟨w2.1, hs.seq w2.2⟩
      | ow d =>
        obtain ⟨a, e1, n1, o1⟩ := w2
        have ne : a ≠ q := fun zz => h.sep j i a hj ⟨_, ej, rfl⟩ oi (by rw [w1, e1]) (by rw [h1, zz])
        exact ⟨a, e1, by rw [upd_ne ne]; exact n1, o1.mono hs fun o x => x⟩
      | io a d =>
        obtain ⟨e1, n1, o1⟩ := w2
        have ne : a ≠ q := fun zz => h.sep j i a hj ⟨_, ej, rfl⟩ oi (by rw [w1, e1]) (by rw [h1, zz])
        exact ⟨e1, by rw [upd_ne ne]; exact n1, o1.mono hs fun o x => x⟩
  · have hj : j ≠ i := fun zz => by
      subst zz
      obtain ⟨s, e1, o1⟩ := o1
      rw [List.getElem?_set_self (List.getElem?_eq_some_iff.mp e).1] at e1; cases e1; cases o1
    have hk : k ≠ i := fun zz => by
      subst zz
      obtain ⟨s, e1, o1⟩ := o2
      rw [List.getElem?_set_self (List.getElem?_eq_some_iff.mp e).1] at e1; cases e1; cases o1
    exact h.sep j k c n (owned_set o1 hj) (owned_set o2 hk)
  · have hj : j ≠ i := fun zz => by
      subst zz
      obtain ⟨s, e1, o1⟩ := o
      rw [List.getElem?_set_self (List.getElem?_eq_some_iff.mp e).1] at e1; cases e1; cases o1
    exact h.out j c (owned_set o hj)
theorem ss_freeze {sts : List Stmt} {m : R β} {ds : List D} (i : Nat) (e : ρ[i]? = some (some (.ow (.list ds)))) (h : Ss v G C (ρ.set i (some (.sh (.list ds)))) sts m) : Ss v G C ρ sts m := fun X hX => (h X hX).weak fun D' σ H ⟨B, F, hE, hW, g⟩ => by
  obtain ⟨F', s, hE'⟩ := hE.freeze e
  exact ⟨B, F', hE', hW.mono s, g.mono s⟩

/-! ## the body of a pure def -/
def rho0 (N : List Str) (ds : List D) : Rho := ds.map (fun d => some (.sh d)) ++ List.replicate (N.length - ds.length) none
/-- what falls off the end comes to -/
def endK (o : Option β) : Cs β := { nx := ⟨Unit, fun _ => [], fun _ => match o with | some b => .ok b | none => .bad⟩ }
/-- a def of the text, called where no guard stands: from its body -/
theorem fn_ofG {P : Program} {w : World} {K : PySem.W.Frag} {mg : Str → Option Value} {base : Heap} {k : Nat} {x : Str} {st : Stmt} {f : Addr} {fd : FuncData} {N ps : List Str} {sp : Sp} (Fn : Fun K x x st f fd) (S : FnScope N ps (defScope st))
    (len : ∀ vs H Q E, sp vs H Q E → vs.length = ps.length)
    (body : ∀ (cdv : Value) (A : Around) (out : List PySem.Env) (s : Shared) (H : Hp) (vs : List V) (Q : VK) (E : XK), Room k (A.deeper (envOfC x (defScope st) s.heap.objs.size f cdv)) → A.guards = some [] → sp vs H Q E →
      ∃ t, PSs (cxOf (L2.CX P w) P w K mg base N x (defScope st) f cdv A out s H E) (defBody st) t ∧ t { nx := fun _ H' => Q .non H', rt := Q } (L2.start N vs) H) : FnG P w K mg base (k + 1) f fd ps sp := by
  obtain ⟨oc, od, kV, doc, pm, an, cdv, ct, osl, rfl, lk, hcd⟩ := Fn.ex
  refine ⟨len, fun A out s H args us vs Q E hr hgd q0 hb r hsp => ?_⟩
  have hKs : K.In s.heap := q0.mod.kin.keeps fun b o e => (q0.bs b o e).1
  have hlim : s.heap.NoLimit := q0.mod.nolimit.keeps fun b o e => (q0.bs b o e).1
  have kinds : ∀ y ∈ ps.zip us, (defScope st).names.lookup y.1 = some .local ∨ ((defScope st).names.lookup y.1 = some .cell ∧ ((cellsFrom (s.heap.objs.size + 1) (defScope st).names []).lookup y.1).isSome = true) := by
    rintro ⟨n, u⟩ hy
    rcases S.par n (List.of_mem_zip hy).1 with z | z
    · exact .inl z
    · exact .inr ⟨z, PySem.W.cellsFrom_some _ _ _ (.inl z)⟩
  refine codeAny_call_function hr.depth (hKs _ _ lk) rfl S.co S.gen rfl (PySem.W.codeRec_of hKs hcd) (hb _ _ _ _ ?_)
  refine wpAny_newFunctionEnv_cells S.kind kinds fun env he s1 hc => ?_
  subst he
  refine ⟨hlim.keeps hc.toInCall.keep, codeAny_func ?_⟩
  obtain ⟨t, ht, hq⟩ := body cdv A out s H vs Q E (hr.deeper _) hgd hsp
  have J : Inv (cxOf (L2.CX P w) P w K mg base N x (defScope st) f cdv A out s H E) [] (L2.start N vs) H s1 := inv_start S hr.hd q0 (len _ _ _ _ hsp) r hc
  refine wpAny_mono (ht.run [] s1 (L2.start N vs) H _ J hq) (fun fl s' hs => ?_) fun e s' hs => hs
  match fl, hs with
  | .ret u, ⟨w1, σ', H', J', rv, q⟩ => exact ⟨w1, H', J'.os, J'.bare, J'.base, J'.hok, rv, q⟩
  | .next, ⟨σ', H', J', q⟩ => exact ⟨.non, H', J'.os, J'.bare, J'.base, J'.hok, rfl, q⟩
  | .brk, ⟨_, _, _, q⟩ => exact False.elim q
  | .cont, ⟨_, _, _, q⟩ => exact False.elim q
def Pg.vw (G : Pg) (N : List Str) (sc : Scope) (k : Nat) (W : WX) : Vw := ⟨G, N, sc, k, W, true, fun _ => true⟩
theorem cx_has {G : Pg} {N ps : List Str} {x : Str} {st : Stmt} {f : Addr} {cdv : Value} {A : Around} {out : List PySem.Env} {s : Shared} {H : Hp} {E : XK} {k : Nat} (S : FnScope N ps (defScope st)) (hr : Room k (A.deeper (envOfC x (defScope st) s.heap.objs.size f cdv))) (hgd : A.guards = some []) :
    (G.vw N (defScope st) k fun cls d _ H => E cls d H).Has (cxOf (L2.CX G.P G.w) G.P G.w G.K G.mg G.base N x (defScope st) f cdv A out s H E) where
  hP := rfl
  hw := rfl
  hK := rfl
  hmg := rfl
  hb := rfl
  hN := rfl
  hsc := rfl
  calm := rfl
  room := hr
  gd := hgd
  tk := takes_of rfl rfl rfl rfl
  po := passes_of rfl
  nd := S.nd
  fn := fun _ _ => rfl
  stk := fun _ => ⟨rfl, rfl⟩
  kind := S.kind
theorem start_ok {K : PySem.W.Frag} {N : List Str} {F H : Hp} {vs : List V} {ds : List D} (s : Same F H) (r : RpA F vs ds) : EnvOk K ⟨H, F⟩ F H (L2.start N vs) (rho0 N ds) where
  sub := s
  prot := .refl H
  fz := .refl F
  nof := fun _ _ _ h => h
  slot := fun i sl e => by
    have hl := r.length
    unfold rho0 at e
    by_cases hi : i < ds.length
    · rw [List.getElem?_append_left (by simpa using hi), List.getElem?_map, List.getElem?_eq_getElem hi] at e
      cases e
      obtain ⟨u, h1, h2⟩ := r.get (List.getElem?_eq_getElem hi)
      refine ⟨u, ?_, h2⟩
      unfold L2.start
      rw [List.getElem?_append_left (by rw [List.length_map]; omega), List.getElem?_map, h1]
      rfl
    · rw [List.getElem?_append_right (by simpa using hi), List.getElem?_replicate] at e
      split at e <;> cases e
  sep := fun i j a _ ⟨sl, e, o⟩ => by
    unfold rho0 at e
    by_cases hi : i < ds.length
    · rw [List.getElem?_append_left (by simpa using hi), List.getElem?_map, List.getElem?_eq_getElem hi] at e
      cases e
      cases o
    · rw [List.getElem?_append_right (by simpa using hi), List.getElem?_replicate] at e
      split at e <;> cases e
  out := fun i a ⟨sl, e, o⟩ => by
    unfold rho0 at e
    by_cases hi : i < ds.length
    · rw [List.getElem?_append_left (by simpa using hi), List.getElem?_map, List.getElem?_eq_getElem hi] at e
      cases e
      cases o
    · rw [List.getElem?_append_right (by simpa using hi), List.getElem?_replicate] at e
      split at e <;> cases e
abbrev pRt (eb : β → D) : Rt β := ⟨eb, fun _ => [], []⟩
theorem df_pure {G : Pg} {x : Str} {st : Stmt} {N ps : List Str} {k : Nat} {enc : α → List D} {f : α → R β} {fa : Addr} {fd : FuncData} (o : Option β) (ho : ∀ b, o = some b → eb b = .none) (Fn : Fun G.K x x st fa fd) (S : FnScope N ps (defScope st)) (hm : G.mg x = some (.ref fa))
    (hb : Binds G.K fd ps []) (hl : ∀ a, (enc a).length = ps.length) (body : ∀ a W, Ss (G.vw N (defScope st) k W) (pRt eb) (endK o) (rho0 N (enc a)) (defBody st) (f a)) : Df G (k + 1) x ps (spP G.cls enc eb f) := by
  refine ⟨fa, fd, fn_ofG Fn S (fun vs H Q E ⟨a, F, _, r, _⟩ => by rw [r.length, hl]) (fun cdv A out s H vs Q E hr hgd ⟨a, F, sF, r, q⟩ => ?_), hm, Fn.kp, hb⟩
  refine ⟨_, body a _ _ (cx_has S hr hgd), ⟨H, F⟩, F, start_ok sF r, ?_, ?_, fun t => t.elim, fun t => t.elim⟩
  · have key : ∀ {σ' H' F'}, Same F F' → EnvOk G.K ⟨H, F⟩ F' H' σ' [] → Step F H F' H' := fun {σ' H' F'} sf hE =>
      ⟨sf, hE.prot, hE.sub, fun b hb => by
        cases hq : H b with
        | none => exact .inr rfl
        | some o => exact .inl (hE.nof b o hq hb)⟩
    cases hf : f a with
    | ok c => rw [hf] at q; exact fun u σ' H' F' sf hE rp => q u H' F' (key sf hE) rp
    | exc y => rw [hf] at q; exact fun σ' H' F' sf hE => q H' F' (key sf hE)
    | bad => rw [hf] at q; exact q
  · intro t σ' H' F' sf hE hW
    cases o with
    | none => exact hW.elim
    | some b0 =>
      have hW : ∀ u σ' H' F'', Same F' F'' → EnvOk G.K ⟨H, F⟩ F'' H' σ' [] → Rp F'' u (eb b0) → Q u H' := hW
      exact hW .non σ' H' F' (.refl F') hE (by rw [ho b0 rfl]; exact .non)
end Cw
namespace Cw
open PySem PySem.Spec PyProof.Rows L2
variable {α β γ δ ε ζ τ κ : Type} {v : Vw} {ρ : Rho} {μ : Md} {ea : α → D} {eb : β → D} {ec : γ → D} {a b : Expr} {ma : R α} {mb : R β} {p pos : Pos} {G : Rt β} {C : Cs β} {rest : List Stmt}

/-! ## loops -/
def forK (f : α → κ → (κ → R β) → R β) (K : κ → R β) : List α → κ → R β
  | [], t => K t
  | x :: xs, t => f x t (forK f K xs)
/-- .. whose turns go on, one to the next -/
def forR (g : α → κ → R κ) : List α → κ → R κ
  | [], t => .ok t
  | x :: xs, t => (g x t).bind (forR g xs)
theorem forK_R (g : α → κ → R κ) (K : κ → R β) : ∀ (xs : List α) (t : κ), forK (fun x t nx => (g x t).bind nx) K xs t = (forR g xs t).bind K
  | [], t => rfl
  | x :: xs, t => by
    unfold forK forR
    rw [R.bind_assoc]
    have : forK (fun x t nx => (g x t).bind nx) K xs = fun t => (forR g xs t).bind K := funext fun t => forK_R g K xs t
    rw [this]
theorem s1_for {iter tg : Expr} {body : List Stmt} {mi : R (List α)} {js : List Nat} {upd : α → Rho → Rho} {L : κ → Rho} {K : κ → R β} {f : α → κ → (κ → R β) → R β} {t0 : κ} (hi : Si v true ρ tg iter ea mi) (hg : Gt v tg ea js upd)
    (h0 : Le ρ (L t0)) (hb : ∀ x t nx, Ss v G ⟨⟨κ, L, nx⟩, ⟨κ, L, K⟩, ⟨κ, L, nx⟩⟩ (upd x (L t)) body (f x t nx)) (hs : ∀ env x, foldedSetIterable iter env x = pure x := by intro _ _; rfl) (hr : Le ρ G.rx := by first | exact .nil | exact .k .nil | exact .refl _) :
    S1 v G (C.to L K) ρ (.For tg iter body [] pos) (mi.bind fun xs => forK f K xs t0) := fun X hX =>
  (ps_for hX.po hX.calm (hi X hX) (hg X hX) (tb := fun D' σ H => ∃ x t nx, rdS v G ⟨⟨κ, L, nx⟩, ⟨κ, L, K⟩, ⟨κ, L, nx⟩⟩ (upd x (L t)) (f x t nx) D' σ H) ⟨fun pins s σ H D' I ⟨x, t, nx, q⟩ => (hb x t nx X hX).run pins s σ H D' I q⟩ (hs _)).weak
    fun D' σ H ⟨B, F, hE, hW, g⟩ => by
    refine ⟨B, F, hE, ?_⟩
    cases mi with
    | exc x => exact fun H' F' s => hW σ H' F' s.fr ((hE.step s).le hr)
    | bad => exact hW
    | ok xs =>
      intro J H1 F1 s1 hz it
      replace hW : WantS v B G F1 (forK f K xs t0) D' := WantS.mono s1.fr hW
      refine ⟨fun i m σ H => ∃ F t, m = xs.length - i ∧ i ≤ xs.length ∧ Same F1 F ∧ EnvOk v.K B F H σ (L t) ∧ WantS v B G F (forK f K (xs.drop i) t) D', ⟨xs.length, F1, t0, by simp, Nat.zero_le _, .refl F1, (hE.step s1).le h0, by simpa using hW⟩, ?_⟩
      rintro i m σ2 H2 ⟨F2, t, rfl, hi, sF, hE2, hW2⟩
      have J1 := it i F2 H2 hE2.sub (by simp only [if_true]; exact sF)
      have g2 : Goods (C.to L K) v B G F2 D' := (g.mono s1.fr).mono sF
      by_cases hlt : i < xs.length
      · have hx : xs[i]? = some xs[i] := List.getElem?_eq_getElem hlt
        obtain ⟨go, yl⟩ := J1.2 _ hx
        refine .inr ⟨go, fun σ' H' => ∃ F t, Same F1 F ∧ EnvOk v.K B F H' σ' (L t) ∧ WantS v B G F (forK f K (xs.drop (i + 1)) t) D', fun σ' H' ⟨F', t', a1, a2, a3⟩ => ⟨xs.length - (i + 1), by omega, F', t', rfl, hlt, a1, a2, a3⟩, fun u H3 y => ?_⟩
        obtain ⟨F3, s3, r3⟩ := yl u H3 y
        refine ⟨B, F3, L t, xs[i], hE2.step s3, r3, fun σ4 H4 F4 s4 hE4 _ => ?_⟩
        have s34 := s3.trans s4
        rw [List.drop_eq_getElem_cons hlt] at hW2
        refine ⟨xs[i], t, forK f K (xs.drop (i + 1)), B, F4, hE4, WantS.mono (D' := D') s34.fr hW2, ?_, ?_, ?_⟩
        · exact fun t' σ' H' F' s' hE' hW' => ⟨F', t', (sF.trans s34.fr).trans s', hE', hW'⟩
        · exact fun t' σ' H' F' s' hE' hW' => g2.nx t' σ' H' F' (s34.fr.trans s') hE' hW'
        · exact fun t' σ' H' F' s' hE' hW' => ⟨F', t', (sF.trans s34.fr).trans s', hE', hW'⟩
      · have ei : i = xs.length := by omega
        subst ei
        rw [List.drop_length] at hW2
        exact .inl ⟨J1.1 (Nat.le_refl _), g2.nx t σ2 H2 F2 (.refl F2) hE2 hW2⟩
theorem s1_forR {iter tg : Expr} {body : List Stmt} {mi : R (List α)} {js : List Nat} {upd : α → Rho → Rho} {L : κ → Rho} {K : κ → R β} {g : α → κ → R κ} {t0 : κ} (hi : Si v true ρ tg iter ea mi) (hg : Gt v tg ea js upd)
    (h0 : Le ρ (L t0)) (hb : ∀ x t nx, Ss v G ⟨⟨κ, L, nx⟩, ⟨κ, L, K⟩, ⟨κ, L, nx⟩⟩ (upd x (L t)) body ((g x t).bind nx)) (hs : ∀ env x, foldedSetIterable iter env x = pure x := by intro _ _; rfl) (hr : Le ρ G.rx := by first | exact .nil | exact .k .nil | exact .refl _) :
    S1 v G (C.to L K) ρ (.For tg iter body [] pos) ((mi.bind fun xs => forR g xs t0).bind K) := by
  have h := s1_for (C := C) (pos := pos) (G := G) (f := fun x t nx => (g x t).bind nx) hi hg h0 hb hs hr
  have : (mi.bind fun xs => forK (fun x t nx => (g x t).bind nx) K xs t0) = (mi.bind fun xs => forR g xs t0).bind K := by
    rw [R.bind_assoc]
    congr 1
    funext xs
    exact forK_R g K xs t0
  rw [← this]
  exact h
/-- while, by n turns at most -/
def whileK (c : κ → R Bool) (f : κ → (κ → R β) → R β) (K : κ → R β) : Nat → κ → R β
  | 0, _ => .bad
  | n + 1, t => (c t).bind fun b => if b then f t (whileK c f K n) else K t
theorem s1_while {c : Expr} {body : List Stmt} {L : κ → Rho} {K : κ → R β} {mc : κ → R Bool} {f : κ → (κ → R β) → R β} {t0 : κ} (n : Nat) (h0 : Le ρ (L t0)) (hc : ∀ t, Tt v (L t) c (mc t)) (hb : ∀ t nx, Ss v G ⟨⟨κ, L, nx⟩, ⟨κ, L, K⟩, ⟨κ, L, nx⟩⟩ (L t) body (f t nx))
    (hr : ∀ t, Le (L t) G.rx := by intro _; exact .nil) : S1 v G (C.to L K) ρ (.While c body [] pos) (whileK mc f K n t0) := fun X hX =>
  (ps_while hX.po (tc := fun σ H Q => ∃ t, rdT v (L t) (mc t) σ H Q) (tb := fun D' σ H => ∃ t nx, rdS v G ⟨⟨κ, L, nx⟩, ⟨κ, L, K⟩, ⟨κ, L, nx⟩⟩ (L t) (f t nx) D' σ H) ⟨fun pins s σ H Q I ⟨t, q⟩ => (hc t X hX).run pins s σ H Q I q⟩
    ⟨fun pins s σ H D' I ⟨t, nx, q⟩ => (hb t nx X hX).run pins s σ H D' I q⟩).weak fun D' σ H ⟨B, F, hE, hW, g⟩ => by
    refine ⟨fun m σ H => ∃ F1 t, Same F F1 ∧ EnvOk v.K B F1 H σ (L t) ∧ WantS v B G F1 (whileK mc f K m t) D', ⟨n, F, t0, .refl F, hE.le h0, hW⟩, ?_⟩
    rintro m σ1 H1 ⟨F1, t, s1, hE1, hW1⟩
    cases m with
    | zero => exact hW1.elim
    | succ m =>
      have g1 : Goods (C.to L K) v B G F1 D' := g.mono s1
      refine ⟨t, wantT hE1 (hr t) hW1 fun bb _ hW2 H2 F2 s2 => ?_⟩
      cases bb with
      | true =>
        rw [if_pos rfl] at hW2 ⊢
        refine ⟨fun σ' H' => ∃ F' t', Same F F' ∧ EnvOk v.K B F' H' σ' (L t') ∧ WantS v B G F' (whileK mc f K m t') D', fun σ' H' ⟨F', t', a1, a2, a3⟩ => ⟨m, by omega, F', t', a1, a2, a3⟩, t, whileK mc f K m, B, F2, hE1.step s2, WantS.mono (D' := D') s2.fr hW2, ?_, ?_, ?_⟩
        · exact fun t' σ' H' F' s' hE' hW' => ⟨F', t', (s1.trans s2.fr).trans s', hE', hW'⟩
        · exact fun t' σ' H' F' s' hE' hW' => g1.nx t' σ' H' F' (s2.fr.trans s') hE' hW'
        · exact fun t' σ' H' F' s' hE' hW' => ⟨F', t', (s1.trans s2.fr).trans s', hE', hW'⟩
      | false =>
        rw [if_neg (by simp)] at hW2 ⊢
        exact g1.nx t σ1 H2 F2 s2.fr (hE1.step s2) (hW2.mono s2.fr)

/-! ## raise -/
/-- the class x stands at C: one of the two errors, over ValueError -/
structure ClsOk (G : Pg) (x : Str) (C : Addr) (bm : List Value) : Prop where
  ex : PySem.W.excIn G.K C bm "ValueError.__new__" = true
  g : G.mg x = some (.ref C)
  kp : PySem.W.keepIn G.K (.ref C) = true
  sb : PySem.W.subIn G.K (.ref C) (.type "BaseException") = some true
  ty : PySem.W.typeIn G.K (.ref C) = some (.type "type")
theorem s1_raise {x m : Str} {y : Ex} {j : Nat} {q1 q2 q3 : Pos} (F : ExcBaseFacts B newId initId bm) (hB : newId = "ValueError.__new__") (c : ClsOk v.pg x (v.cls y) bm) (hg : v.sc.names.lookup x = some .globalImplicit := by rfl) (hdb : (x == ("__debug__" : Str)) = false := by decide) (hr : Le ρ G.rx := by first | exact .nil | exact .k .nil | exact .refl _) :
    S1 v G C ρ (.Raise (some (.Call (.Name x q1) [.Constant (.str m) j q2] [] q3)) none pos) (.exc y) := fun X hX => by
  subst hB
  refine (ps_raise hX.calm hX.tk (pmk_own F (by rw [hX.hK]; exact c.ex) (by rw [hX.hmg]; exact c.g) (by rw [hX.hK]; exact c.kp) (raises_own (by rw [hX.hK]; exact c.sb) (by rw [hX.hK]; exact c.ty)) (hX.gl hg) hdb)).weak fun D' σ H ⟨B, F, hE, hW, g⟩ => ?_
  exact hW σ H F (.refl F) (hE.le hr)

/-! ## a name's own list is changed -/
/-- the thing that slot i owns is changed at its place -/
theorem EnvOk.chg {K : PySem.W.Frag} {B : Bs} {F H : Hp} {σ : L2.St} {i : Nat} {q : Addr} {s s' : Sl} {o : HO} {d' : D} (h : EnvOk K B F H σ ρ) (e : ρ[i]? = some (some s)) (ow : s.own = true) (e1 : σ[i]? = some (some (.ref q))) (nf : F q = none)
    (he : s' = .ow d' ∨ s' = .io q d') (hn : OwnAt F (upd H q o) q d') : EnvOk K B F (upd H q o) σ (ρ.set i (some s')) := by
  have oi : owned ρ i := ⟨_, e, ow⟩
  have nb := h.out i q oi e1
  have hl : i < ρ.length := (List.getElem?_eq_some_iff.mp e).1
  have oj : ∀ {j}, owned (ρ.set i (some s')) j → owned ρ j := fun {j} oj => by
    by_cases hj : j = i
    · subst hj; exact oi
    · exact owned_set oj hj
  refine ⟨fun b o eb => ?_, fun b o eb => ?_, h.fz, h.nof, fun j sl ej => ?_, fun j k c n o1 o2 => h.sep j k c n (oj o1) (oj o2), fun j c o => h.out j c (oj o)⟩
  · rw [upd_ne (fun z => by rw [z, nf] at eb; cases eb)]; exact h.sub b o eb
  · rw [upd_ne (fun z => by rw [z, nb] at eb; cases eb)]; exact h.prot b o eb
  · by_cases hj : j = i
    · subst hj
      rw [List.getElem?_set_self hl] at ej
      cases ej
      refine ⟨_, e1, ?_⟩
      rcases he with rfl | rfl
      · exact ⟨q, rfl, nf, hn⟩
      · exact ⟨rfl, nf, hn⟩
    · rw [List.getElem?_set_ne (Ne.symm hj)] at ej
      obtain ⟨w, w1, w2⟩ := h.slot j sl ej
      refine ⟨w, w1, ?_⟩
      cases sl with
      | sh d => exact w2
      | scr a ns => exact w2
      | ow d =>
        obtain ⟨a, e2, n1, o1⟩ := w2
        have ne : a ≠ q := fun zz => h.sep j i a hj ⟨_, ej, rfl⟩ oi (by rw [w1, e2]) (by rw [e1, zz])
        exact ⟨a, e2, n1, o1.mono (.refl F) fun o x => by rw [upd_ne ne]; exact x⟩
      | io a d =>
        obtain ⟨e2, n1, o1⟩ := w2
        have ne : a ≠ q := fun zz => h.sep j i a hj ⟨_, ej, rfl⟩ oi (by rw [w1, e2]) (by rw [e1, zz])
        exact ⟨e2, n1, o1.mono (.refl F) fun o x => by rw [upd_ne ne]; exact x⟩
/-- slot i owns the list ds -/
structure Owns (ρ : Rho) (i : Nat) (ds : List D) (re : List D → Sl) : Prop where
  at_ : ρ[i]? = some (some (re ds))
  is : re = (fun ds => .ow (.list ds)) ∨ ∃ q, re = fun ds => .io q (.list ds)
theorem Owns.own {i : Nat} {ds : List D} {re : List D → Sl} (h : Owns ρ i ds re) (ds' : List D) : (re ds').own = true := by
  rcases h.is with e | ⟨q, e⟩ <;> rw [e] <;> rfl
theorem EnvOk.lst {K : PySem.W.Frag} {B : Bs} {F H : Hp} {σ : L2.St} {i : Nat} {ds : List D} {re : List D → Sl} (h : EnvOk K B F H σ ρ) (w : Owns ρ i ds re) :
    ∃ q xs, σ[i]? = some (some (.ref q)) ∧ F q = none ∧ H q = some (.lst xs) ∧ xs.length ≤ sizeLine ∧ RpA F xs ds ∧
      ∀ ys es, ys.length ≤ sizeLine → RpA F ys es → EnvOk K B F (upd H q (.lst ys)) σ (ρ.set i (some (re es))) := by
  obtain ⟨u, e1, q1⟩ := h.slot i _ w.at_
  have key : ∃ q, u = .ref q ∧ F q = none ∧ OwnAt F H q (.list ds) ∧ ∀ es, re es = .ow (.list es) ∨ re es = .io q (.list es) := by
    rcases w.is with e | ⟨q, e⟩
    · subst e; obtain ⟨q, a1, a2, a3⟩ := q1; exact ⟨q, a1, a2, a3, fun _ => .inl rfl⟩
    · subst e; obtain ⟨a1, a2, a3⟩ := q1; exact ⟨q, a1, a2, a3, fun _ => .inr rfl⟩
  obtain ⟨q, rfl, nf, ⟨xs, hq, z, r⟩, hr⟩ := key
  exact ⟨q, xs, e1, nf, hq, z, r, fun ys es z' r' => h.chg w.at_ (w.own ds) e1 nf (hr es) ⟨ys, upd_same, z', r'⟩⟩
def appR (xs : List α) (x : α) : R (List α) := if xs.length < 16777216 then .ok (xs ++ [x]) else .bad
section
variable {x : Str} {q1 q2 q3 : Pos} {xs : List α} {e : Expr} {m : R α} {k : List α → R β} {re : List D → Sl}
theorem Vw.Has.pv {X : Cx} (hX : v.Has X) (i : Nat) {x : Str} {pos : Pos} (hN : v.N[i]? = some x) (hv : Vis v.sc x) (hd : (x == ("__debug__" : Str)) = false) (hcd : (x == ("__classdict__" : Str)) = false) : PE X (.Name x pos) (tVar i) :=
  pe_var (by rw [hX.hN]; exact hN) (hX.vis hv) hd hcd
/-- x.append(e) -/
theorem s1_append (i : Nat) (w : Owns ρ i (xs.map ea) re) (h : Sx v .V ρ e ea m) (hN : v.N[i]? = some x := by rfl) (hv : Vis v.sc x := by first | exact Or.inl rfl | exact Or.inr (Or.inl rfl) | exact Or.inr (Or.inr rfl))
    (hd : (x == ("__debug__" : Str)) = false := by decide) (hcd : (x == ("__classdict__" : Str)) = false := by decide) (hs : ∀ env, swapsWith (.Call (.Attribute (.Name x q1) "append" q2) [e] [] q3) none pos.line env = pure false := by intro _; rfl)
    (ha : ∀ env, attributeBase (.Name x q1) "append" env (eval (.Name x q1) env) = eval (.Name x q1) env := by intro _; rfl) (hw : ∀ env, ((backTo q3 (starEach [e] env)).all (fun x => !x.1) && (backToKw q3 (keywordEach [] env)).all (fun x => x.1.isSome) && decide (([e] : List Expr).length + ([] : List Keyword).length + (if ([] : List Keyword).isEmpty then 0 else 1) < 30)) = true := by intro _; rfl)
    (hl : (q2.endLine == q3.line) = true := by rfl) (he : ∀ env, starEach [e] env = (false, eval e env) :: starEach [] env := by intro _; rfl) (hr : Le ρ G.rx := by first | exact .nil | exact .k .nil | exact .refl _) :
    S1 v G (C.to (fun ys => ρ.set i (some (re (ys.map ea)))) k) ρ (.Expr (.Call (.Attribute (.Name x q1) "append" q2) [e] [] q3) pos) ((m.bind fun a => appR xs a).bind k) := fun X hX =>
  (ps_expr (pe_bm PySem.F.plainAttrs_list PySem.F.slot_list_append PySem.F.type_list_append mt_append (hX.pv i hN hv hd hcd) (pa_cons (h X hX) pa_nil (he _)) (ha _) (hw _) hl (he _) (by rfl)) (hs _)).weak fun D' σ H ⟨B, F, hE, hW, g⟩ => by
    rw [R.bind_assoc] at hW
    obtain ⟨q, us, e1, nf, hq, z, r, _⟩ := hE.lst w
    refine ⟨.ref q, e1, .inl ⟨rfl, us, .inl (.inl hq)⟩, wantS hE hr hW fun a _ hW u H1 F1 s1 r1 => ?_⟩
    obtain ⟨q', us', e1', nf', hq', z', r', go⟩ := (hE.step s1).lst w
    rw [e1] at e1'
    cases e1'
    have hlen := r'.length
    rw [List.length_map] at hlen
    unfold appR at hW
    split at hW
    · rename_i hlt
      have hW : WantS v B G F (k (xs ++ [a])) D' := hW
      refine ⟨q, us', u, rfl, rfl, hq', by rw [hlen, sizeLine_eq]; exact hlt, ?_⟩
      refine g.nx (xs ++ [a]) _ _ F1 s1.fr ?_ (hW.mono s1.fr)
      refine go (us' ++ [u]) _ (by rw [List.length_append, hlen, sizeLine_eq]; exact hlt) ?_
      rw [List.map_append]
      exact r'.append (.cons r1 .nil)
    · exact hW.elim
def setR (xs : List α) (i : Int) (x : α) : R (List α) := match ixN xs.length i with
  | some j => .ok (xs.set j x)
  | none => .bad
/-- x[b] = e -/
theorem s1_setItem (i : Nat) {b : Expr} {mi : R Int} (w : Owns ρ i (xs.map ea) re) (h : Sx v .V ρ e ea m) (h2 : Sx v .V ρ b eI mi) (hN : v.N[i]? = some x := by rfl) (hv : Vis v.sc x := by first | exact Or.inl rfl | exact Or.inr (Or.inl rfl) | exact Or.inr (Or.inr rfl))
    (hd : (x == ("__debug__" : Str)) = false := by decide) (hcd : (x == ("__classdict__" : Str)) = false := by decide)
    (ha : ∀ env u, assign (.Subscript (.Name x q1) b q2) env u = (do
      let o ← holding [u] (eval (.Name x q1) env)
      let j ← holding [u, o] (eval b env)
      standAt q2
      holding [u, o, j] (setItem o j u)
      release [u, o, j] []) := by intro _ _; rfl)
    (hs : ∀ env, swapsWithSole [.Subscript (.Name x q1) b q2] e pos.line env = pure false := by intro _; rfl) (hw : ∀ env, swappedStores [.Subscript (.Name x q1) b q2] e env = pure none := by intro _; rfl)
    (h1 : ∀ env, (assignEach [.Subscript (.Name x q1) b q2] env).map (·.2) = [assign (.Subscript (.Name x q1) b q2) env] := by intro _; rfl) (hr : Le ρ G.rx := by first | exact .nil | exact .k .nil | exact .refl _) :
    S1 v G (C.to (fun ys => ρ.set i (some (re (ys.map ea)))) k) ρ (.Assign [.Subscript (.Name x q1) b q2] e pos) ((m.bind fun a => mi.bind fun j => setR xs j a).bind k) := fun X hX =>
  (ps_asg (h X hX) (pg_sub (hX.pv i hN hv hd hcd) (h2 X hX) set_list (ha _)) (hs _) (hw _) (h1 _)).weak fun D' σ H ⟨B, F, hE, hW, g⟩ => by
    rw [R.bind_assoc] at hW
    refine wantS hE hr hW fun a _ hW u H1 F1 s1 r1 => ?_
    have hE1 := hE.step s1
    obtain ⟨q, us, e1, nf, hq, z, r, _⟩ := hE1.lst w
    rw [R.bind_assoc] at hW
    refine ⟨.ref q, e1, wantS hE1 hr (hW.mono s1.fr) fun j _ hW w2 H2 F2 s2 r2 => ?_⟩
    cases r2
    obtain ⟨q', us', e1', nf', hq', z', r', go⟩ := (hE1.step s2).lst w
    rw [e1] at e1'
    cases e1'
    have hlen := r'.length
    rw [List.length_map] at hlen
    unfold setR at hW
    split at hW
    · rename_i jj hj
      have hW : WantS v B G F1 (k (xs.set jj a)) D' := hW
      refine ⟨q, us', j, jj, rfl, rfl, hq', by rw [hlen]; exact hj, ?_⟩
      refine g.nx (xs.set jj a) _ _ F2 (s1.fr.trans s2.fr) ?_ (hW.mono s2.fr)
      refine go (us'.set jj u) _ (by rw [List.length_set]; exact z') ?_
      rw [List.map_set]
      exact r'.set (r1.mono s2.fr) jj
    · exact hW.elim
/-- o[i], by values: a list -/
theorem get_list {X : Cx} : PGet X (rIxL X.K) := by
  intro pins s σ H o i ov iv Q I ro ri h
  obtain ⟨q, xs, j, u, rfl, rfl, hq, he, hQ⟩ := h
  cases ro
  obtain ⟨t, rfl⟩ := ri
  obtain ⟨its, r, pl, hz⟩ := I.list hq
  obtain ⟨n, h1, h2, h3, h4, h5⟩ := atI_get he
  obtain ⟨w, ew, rw'⟩ := r.get h2
  have hl := r.length
  have hn := line63
  have fin : EP X pins σ Q w s := ⟨u, H, I, rw', hQ⟩
  by_cases h0 : 0 ≤ j
  · have hj : j.toNat = n := by
      rw [seqIndex_of h0 h5] at h1
      exact Option.some.inj h1
    exact getItem_listL pl.isList h0 (by omega) (by rw [hj]; exact ew) fin
  · have hj : (j + (its.toArray.size : Int)).toNat = n := by
      rw [seqIndex_neg (by omega) h4] at h1
      rw [List.size_toArray, ← hl]
      exact Option.some.inj h1
    exact wpAny_mono (wpAny_getItem_list_neg (Q := fun r s' => r = w ∧ EP X pins σ Q r s') pl.isList (by omega) (by rw [List.size_toArray] <;> omega) (by omega) (by rw [hj]; simpa using ew) ⟨rfl, fin⟩) (fun r s' h => by rw [h.1]; exact h.1 ▸ h.2) fun _ _ h => h
end
end Cw
namespace Cw
open PySem PySem.Spec PyProof.Rows L2
variable {α β γ δ ε ζ τ κ S : Type} {v : Vw} {ρ : Rho} {ρs : S → Rho} {μ : Md} {ea : α → D} {eb : β → D} {ec : γ → D} {a b : Expr} {ma : S → R (α × S)} {mb : S → R (β × S)} {p pos : Pos} {G : Rt β} {C : Cs β} {rest : List Stmt}

/-! ## expressions that change what names own: s is what they own -/
def PoE (K : PySem.W.Frag) (B : Bs) (μ : Md) (σ : L2.St) (F : Hp) (d : D) (ρ' : Rho) (Q : VK) : Prop :=
  match μ with
  | .N => ∃ ds, d = .list ds ∧ ∀ q xs H' F', Same F F' → EnvOk K B F' H' σ ρ' → B.hp q = none → F' q = none → (∀ j, owned ρ' j → σ[j]? ≠ some (some (.ref q))) → H' q = some (.lst xs) → xs.length ≤ sizeLine → RpA F' xs ds → Q (.ref q) H'
  | _ => ∀ u H' F', Same F F' → EnvOk K B F' H' σ ρ' → Rp F' u d → Q u H'
def WantE (v : Vw) (B : Bs) (μ : Md) (σ : L2.St) (F : Hp) (enc : α → D) (ρs : S → Rho) (m : R (α × S)) (Q : VK) : Prop :=
  match m with
  | .ok t => PoE v.K B μ σ F (enc t.1) (ρs t.2) Q
  | _ => False
theorem PoE.mono {K : PySem.W.Frag} {B : Bs} {σ : L2.St} {F F1 : Hp} {d : D} {ρ' : Rho} {Q : VK} (s : Same F F1) (h : PoE K B μ σ F d ρ' Q) : PoE K B μ σ F1 d ρ' Q := by
  cases μ with
  | N => obtain ⟨ds, e, h⟩ := h; exact ⟨ds, e, fun q xs H' F' t => h q xs H' F' (s.trans t)⟩
  | V => exact fun u H' F' t => h u H' F' (s.trans t)
  | P => exact fun u H' F' t => h u H' F' (s.trans t)
theorem WantE.mono {B : Bs} {σ : L2.St} {F F1 : Hp} {enc : α → D} {m : R (α × S)} {Q : VK} (s : Same F F1) (h : WantE v B μ σ F enc ρs m Q) : WantE v B μ σ F1 enc ρs m Q := by
  cases m with
  | ok t => exact PoE.mono s h
  | exc x => exact h
  | bad => exact h
def rdE (v : Vw) (μ : Md) (ρs : S → Rho) (enc : α → D) (m : S → R (α × S)) : TE := fun σ H Q => ∃ B F s, EnvOk v.K B F H σ (ρs s) ∧ WantE v B μ σ F enc ρs (m s) Q
def Ee (v : Vw) (μ : Md) (ρs : S → Rho) (e : Expr) (enc : α → D) (m : S → R (α × S)) : Prop := ∀ X, v.Has X → PE X e (rdE v μ ρs enc m)
theorem WantE.bind {B : Bs} {σ : L2.St} {F : Hp} {enc : β → D} {encA : α → D} {m : R (α × S)} {f : α × S → R (β × S)} {Q Q' : VK} {μ' : Md} (h : WantE v B μ σ F enc ρs (m.bind f) Q)
    (go : ∀ t, m = .ok t → WantE v B μ σ F enc ρs (f t) Q → PoE v.K B μ' σ F (encA t.1) (ρs t.2) Q') : WantE v B μ' σ F encA ρs m Q' := by
  cases m with
  | ok t => exact go t rfl h
  | exc x => exact h
  | bad => exact h
/-- one that changes nothing -/
theorem ee_V {e : Expr} {m : S → R α} (h : ∀ s, Sx v .V (ρs s) e ea (m s)) : Ee v .V ρs e ea fun s => (m s).bind fun a => .ok (a, s) := fun X hX =>
  (⟨fun pins st σ H Q I ⟨s, q⟩ => (h s X hX).run pins st σ H Q I q⟩ : PE X e (fun σ H Q => ∃ s, rd v .V (ρs s) ea (m s) σ H Q)).weak fun σ H Q ⟨B, F, s, hE, hW⟩ => by
    refine ⟨s, B, F, hE, ?_⟩
    try dsimp only at hW
    generalize m s = ms at hW ⊢
    cases ms with
    | ok a => exact fun u H' F' t r => hW u H' F' t.fr (hE.step t) r
    | exc x => exact hW.elim
    | bad => exact hW
theorem ee_N {e : Expr} {m : S → R α} (h : ∀ s, Sx v .N (ρs s) e ea (m s)) : Ee v .N ρs e ea fun s => (m s).bind fun a => .ok (a, s) := fun X hX =>
  (⟨fun pins st σ H Q I ⟨s, q⟩ => (h s X hX).run pins st σ H Q I q⟩ : PE X e (fun σ H Q => ∃ s, rd v .N (ρs s) ea (m s) σ H Q)).weak fun σ H Q ⟨B, F, s, hE, hW⟩ => by
    refine ⟨s, B, F, hE, ?_⟩
    try dsimp only at hW
    generalize m s = ms at hW ⊢
    cases ms with
    | ok a =>
      obtain ⟨ds, e, hW⟩ := hW
      exact ⟨ds, e, fun q xs H' F' t np nf e z r => hW q xs H' F' t.fr (hE.step t) (hE.fresh np).1 nf (hE.fresh np).2 e z r⟩
    | exc x => exact hW.elim
    | bad => exact hW
theorem ee_NV {e : Expr} {m : S → R (α × S)} (h : Ee v .N ρs e ea m) (hl : ∀ a, ∃ ds, ea a = .list ds) : Ee v .V ρs e ea m := fun X hX => (h X hX).weak fun σ H Q ⟨B, F, s, hE, hW⟩ => by
  refine ⟨B, F, s, hE, ?_⟩
  try dsimp only at hW
  generalize m s = ms at hW ⊢
  cases ms with
  | ok t =>
    obtain ⟨ds, e⟩ := hl t.1
    have hW : ∀ u H' F', Same F F' → EnvOk v.K B F' H' σ (ρs t.2) → Rp F' u (ea t.1) → Q u H' := hW
    rw [e] at hW
    refine ⟨ds, e, fun q xs H' F' t np nb nf no e z r => ?_⟩
    refine hW _ H' (upd F' q (.lst xs)) (t.trans (same_new nf)) ?_ (.lst upd_same z (r.mono (same_new nf)))
    refine ⟨fun b o eb => ?_, np.prot, np.fz.trans (same_new nf), fun b o eb hb => ?_, fun i s e => ?_, np.sep, np.out⟩
    · by_cases hb : b = q
      · subst hb; rw [upd_same] at eb; rw [‹H' b = some (.lst xs)›]; exact eb
      · rw [upd_ne hb] at eb; exact np.sub b o eb
    · have : b ≠ q := fun zz => by subst zz; rw [nb] at eb; cases eb
      rw [upd_ne this] at hb
      exact np.nof b o eb hb
    · obtain ⟨u, h1, h2⟩ := np.slot i s e
      refine ⟨u, h1, ?_⟩
      cases s with
      | sh d => exact Rp.mono (same_new nf) h2
      | scr a ns => exact ⟨h2.1, (same_new nf).seq h2.2⟩
      | ow d =>
        obtain ⟨a, e2, n1, o1⟩ := h2
        have ne : a ≠ q := fun zz => no i ⟨_, e, rfl⟩ (by rw [h1, e2, zz])
        exact ⟨a, e2, by rw [upd_ne ne]; exact n1, o1.mono (same_new nf) fun _ x => x⟩
      | io a d =>
        obtain ⟨e2, n1, o1⟩ := h2
        have ne : a ≠ q := fun zz => no i ⟨_, e, rfl⟩ (by rw [h1, e2, zz])
        exact ⟨e2, by rw [upd_ne ne]; exact n1, o1.mono (same_new nf) fun _ x => x⟩
  | exc x => exact hW
  | bad => exact hW
/-- two in a row -/
theorem twoE {g : α → β → R γ} {σ : L2.St} {F H : Hp} {B : Bs} {Q : VK} {s : S} (hx : ∀ a b x, g a b ≠ .exc x) (hE : EnvOk v.K B F H σ (ρs s)) (hW : WantE v B .V σ F ec ρs ((ma s).bind fun t => (mb t.2).bind fun u => (g t.1 u.1).bind fun c => .ok (c, u.2)) Q) :
    rdE v .V ρs ea ma σ H fun x H1 => rdE v .V ρs eb mb σ H1 fun y H2 => ∃ F a b, Same F H2 ∧ Nw F H2 x (ea a) ∧ Nw F H2 y (eb b) ∧ ∃ c, g a b = .ok c ∧ Po .V F H2 (ec c) Q := by
  refine ⟨B, F, s, hE, hW.bind fun t _ hW => ?_⟩
  intro u H1 F1 s1 hE1 r1
  refine ⟨B, F1, t.2, hE1, (hW.mono s1).bind fun t2 _ hW => ?_⟩
  intro w H2 F2 s2 hE2 r2
  replace hW := hW.mono s2
  cases hg : g t.1 t2.1 with
  | ok c =>
    rw [hg] at hW
    exact ⟨F2, t.1, t2.1, hE2.sub, .inl (r1.mono s2), .inl r2, c, hg, fun x H3 F3 s3 r3 => hW x H3 F3 s3.fr (hE2.step s3) r3⟩
  | exc x => exact absurd hg (hx _ _ x)
  | bad => rw [hg] at hW; exact hW.elim
variable {g : α → β → R γ}
theorem ee_op {op : Operator} (o : Op2 v (binaryOp op) .V ea eb ec g) (ha : Ee v .V ρs a ea ma) (hb : Ee v .V ρs b eb mb) :
    Ee v .V ρs (.BinOp a op b pos) ec fun s => (ma s).bind fun t => (mb t.2).bind fun u => (g t.1 u.1).bind fun c => .ok (c, u.2) := fun X hX =>
  (pe_op (o.run X hX) (ha X hX) (hb X hX)).weak fun σ H Q ⟨B, F, s, hE, hW⟩ => twoE o.calm hE hW
theorem ee_cmp {op : CmpOp} (o : Op2 v (compareOp op) .V ea eb ec g) (ha : Ee v .V ρs a ea ma) (hb : Ee v .V ρs b eb mb) (hm : behindInMarks op b = false := by rfl) :
    Ee v .V ρs (.Compare a [op] [b] pos) ec fun s => (ma s).bind fun t => (mb t.2).bind fun u => (g t.1 u.1).bind fun c => .ok (c, u.2) := fun X hX =>
  (pe_cmpR (o.run X hX) (ha X hX) (hb X hX) hm).weak fun σ H Q ⟨B, F, s, hE, hW⟩ => twoE o.calm hE hW
theorem ee_ix (o : Ix2 v ea eb ec g) (ha : Ee v .V ρs a ea ma) (hb : Ee v .V ρs b eb mb) (hs : PlainIx b := by intro _ _; rfl) :
    Ee v .V ρs (.Subscript a b pos) ec fun s => (ma s).bind fun t => (mb t.2).bind fun u => (g t.1 u.1).bind fun c => .ok (c, u.2) := fun X hX =>
  (pe_ix (o.run X hX) (ha X hX) (hb X hX) hs).weak fun σ H Q ⟨B, F, s, hE, hW⟩ => twoE o.calm hE hW
/-- a built-in of one argument -/
theorem c_read {f : α → R γ} {e : Expr} {m : S → R (α × S)} {r : List V → Hp → VK → Prop} {σ : L2.St} {F H : Hp} {B : Bs} {Q : VK} {s : S} (hx : ∀ a x, f a ≠ .exc x) (hE : EnvOk v.K B F H σ (ρs s)) (hW : WantE v B .V σ F ec ρs ((m s).bind fun t => (f t.1).bind fun c => .ok (c, t.2)) Q) :
    rdE v .V ρs ea m σ H fun x H1 => ∃ F x' a, [x] = [x'] ∧ Same F H1 ∧ Nw F H1 x' (ea a) ∧ ∃ c, f a = .ok c ∧ Po .V F H1 (ec c) Q := by
  refine ⟨B, F, s, hE, hW.bind fun t _ hW => ?_⟩
  intro u H1 F1 s1 hE1 r1
  replace hW := hW.mono s1
  cases hg : f t.1 with
  | ok c =>
    rw [hg] at hW
    exact ⟨F1, u, t.1, rfl, hE1.sub, .inl r1, c, hg, fun x H3 F3 s3 r3 => hW x H3 F3 s3.fr (hE1.step s3) r3⟩
  | exc x => exact absurd hg (hx _ x)
  | bad => rw [hg] at hW; exact hW.elim
theorem ee_t1 {x : Str} {T : String} {f : α → R γ} (c : Cl1 v (.type T) .V ea ec f) (hm : v.mg x = none) (hv : bootBuiltins x = some (.type T)) (ha : Ee v .V ρs a ea ma) (hg : v.sc.names.lookup x = some .globalImplicit := by rfl)
    (he : ∀ env, starEach [a] env = (false, eval a env) :: starEach [] env := by intro _; rfl) (hn : x ≠ "__name__" := by decide) (hdb : (x == ("__debug__" : Str)) = false := by decide) :
    Ee v .V ρs (.Call (.Name x p) [a] [] pos) ec fun s => (ma s).bind fun t => (f t.1).bind fun c => .ok (c, t.2) := fun X hX =>
  (pe_callTy (c.run X hX) (hX.gl hg) (by rw [hX.hmg]; exact hm) hv (pa_cons (ha X hX) pa_nil (he _)) hn hdb (he _) (by rfl)).weak fun σ H Q ⟨B, F, s, hE, hW⟩ =>
    c_read (e := a) (r := fun _ _ _ => True) c.calm hE hW

/-! ### arguments, displays -/
def WantAE (v : Vw) (B : Bs) (σ : L2.St) (F : Hp) (enc : α → List D) (ρs : S → Rho) (m : R (α × S)) (Q : List V → Hp → Prop) : Prop :=
  match m with
  | .ok t => ∀ us H' F', Same F F' → EnvOk v.K B F' H' σ (ρs t.2) → RpA F' us (enc t.1) → Q us H'
  | _ => False
def Ae (v : Vw) (ρs : S → Rho) (es : List Expr) (enc : α → List D) (m : S → R (α × S)) : Prop := ∀ X, v.Has X → PA X es fun σ H Q => ∃ B F s, EnvOk v.K B F H σ (ρs s) ∧ WantAE v B σ F enc ρs (m s) Q
theorem ae_nil : Ae v ρs [] (fun (_ : Unit) => []) fun s => .ok ((), s) := fun X hX => pa_nil.weak fun σ H Q ⟨B, F, s, hE, hW⟩ => hW [] H F (.refl F) hE .nil
theorem ae_cons {e : Expr} {es : List Expr} {eb : β → List D} (h : Ee v .V ρs e ea ma) (t : Ae v ρs es eb mb) (hs : ∀ env, starEach (e :: es) env = (false, eval e env) :: starEach es env := by intro _; rfl) :
    Ae v ρs (e :: es) (fun (q : α × β) => ea q.1 :: eb q.2) fun s => (ma s).bind fun t => (mb t.2).bind fun u => .ok ((t.1, u.1), u.2) := fun X hX => (pa_cons (h X hX) (t X hX) (hs _)).weak fun σ H Q ⟨B, F, s, hE, hW⟩ => by
  refine ⟨B, F, s, hE, ?_⟩
  try dsimp only at hW
  generalize ma s = ms at hW ⊢
  cases ms with
  | ok t =>
    intro u H1 F1 s1 hE1 r1
    refine ⟨B, F1, t.2, hE1, ?_⟩
    replace hW : WantAE v B σ F (fun q => ea q.1 :: eb q.2) ρs ((mb t.2).bind fun u => .ok ((t.1, u.1), u.2)) Q := hW
    try dsimp only at hW
    generalize mb t.2 = ns at hW ⊢
    cases ns with
    | ok t2 => exact fun us H2 F2 s2 hE2 r2 => hW (u :: us) H2 F2 (s1.trans s2) hE2 (.cons (r1.mono s2) r2)
    | exc x => exact hW
    | bad => exact hW
  | exc x => exact hW
  | bad => exact hW
/-- a tuple of effectful parts -/
theorem ee_tup {es : List Expr} {k : Nat} {enc : α → List D} {m : S → R (α × S)} {ed : δ → D} (f : α → δ) (n : Nat) (hn : n ≤ 1000) (hl : ∀ a, (enc a).length = n) (hf : ∀ a, ed (f a) = .tuple (enc a)) (h : Ae v ρs es enc m) :
    Ee v .V ρs (.Tuple es k pos) ed fun s => (m s).bind fun t => .ok (f t.1, t.2) := fun X hX => (pe_tup (h X hX)).weak fun σ H Q ⟨B, F, s, hE, hW⟩ => by
  refine ⟨B, F, s, hE, ?_⟩
  try dsimp only at hW
  generalize m s = ms at hW ⊢
  cases ms with
  | ok t =>
    refine fun us H1 F1 s1 hE1 r1 => ⟨by rw [r1.length, hl]; exact small_line hn, fun q nq => ?_⟩
    have st : Step F1 H1 (upd F1 q _) (upd H1 q _) := .froz hE1.sub nq (o := .tup us)
    refine hW _ _ (upd F1 q _) (s1.trans st.fr) (hE1.step st) ?_
    rw [hf]
    exact .tup upd_same (by rw [r1.length, hl]; exact small_line hn) (r1.mono st.fr)
  | exc x => exact hW
  | bad => exact hW

/-! ### tests -/
def WantTE (v : Vw) (B : Bs) (σ : L2.St) (F : Hp) (ρs : S → Rho) (m : R (Bool × S)) (Q : Bool → Hp → Prop) : Prop :=
  match m with
  | .ok t => ∀ H' F', Same F F' → EnvOk v.K B F' H' σ (ρs t.2) → Q t.1 H'
  | _ => False
def rdTE (v : Vw) (ρs : S → Rho) (m : S → R (Bool × S)) : TT := fun σ H Q => ∃ B F s, EnvOk v.K B F H σ (ρs s) ∧ WantTE v B σ F ρs (m s) Q
def Te (v : Vw) (ρs : S → Rho) (e : Expr) (m : S → R (Bool × S)) : Prop := ∀ X, v.Has X → PT X e (rdTE v ρs m)
def Twe (v : Vw) (ρs : S → Rho) (e : Expr) (m : S → R (Bool × S)) : Prop := ∀ X, v.Has X → PW X e (rdTE v ρs m)
theorem WantTE.mono {B : Bs} {σ : L2.St} {F F1 : Hp} {m : R (Bool × S)} {Q : Bool → Hp → Prop} (s : Same F F1) (h : WantTE v B σ F ρs m Q) : WantTE v B σ F1 ρs m Q := by
  cases m with
  | ok t => exact fun H' F' q => h H' F' (s.trans q)
  | exc x => exact h
  | bad => exact h
theorem te_t {e : Expr} {m : S → R Bool} (h : ∀ s, Tt v (ρs s) e (m s)) : Te v ρs e fun s => (m s).bind fun c => .ok (c, s) := fun X hX =>
  (⟨fun pins st σ H Q I ⟨s, q⟩ => (h s X hX).run pins st σ H Q I q⟩ : PT X e (fun σ H Q => ∃ s, rdT v (ρs s) (m s) σ H Q)).weak fun σ H Q ⟨B, F, s, hE, hW⟩ => by
    refine ⟨s, B, F, hE, ?_⟩
    try dsimp only at hW
    generalize m s = ms at hW ⊢
    cases ms with
    | ok c => exact fun H' F' t => hW H' F' t.fr (hE.step t)
    | exc x => exact hW.elim
    | bad => exact hW
theorem te_cmp {op : CmpOp} {g : α → β → R Bool} (o : Op2 v (compareOp op) .V ea eb eB g) (ha : Ee v .V ρs a ea ma) (hb : Ee v .V ρs b eb mb) (hm : behindInMarks op b = false := by rfl) :
    Te v ρs (.Compare a [op] [b] pos) fun s => (ma s).bind fun t => (mb t.2).bind fun u => (g t.1 u.1).bind fun c => .ok (c, u.2) := fun X hX =>
  (pt_cmpR (o.run X hX) (ha X hX) (hb X hX) hm).weak fun σ H Q ⟨B, F, s, hE, hW⟩ => by
    refine twoE (ec := eB) (g := g) o.calm hE ?_
    show WantE v B .V σ F eB ρs ((ma s).bind fun t => (mb t.2).bind fun u => (g t.1 u.1).bind fun c => .ok (c, u.2)) _
    dsimp only at hW
    generalize ((ma s).bind fun t => (mb t.2).bind fun u => (g t.1 u.1).bind fun c => R.ok (c, u.2)) = m at hW ⊢
    cases m with
    | ok t =>
      intro u H' F' st hE' r
      cases r with | bl => exact ⟨_, rfl, hW H' F' st hE'⟩
    | exc x => exact hW
    | bad => exact hW
theorem te_of {m : S → R (Bool × S)} (h : Ee v .V ρs a eB m) (he : ∀ env whole, isTrue a env whole = (do let v ← whole; standAt a.pos; holding [v] (truthy v)) := by intro _ _; rfl) : Te v ρs a m := fun X hX =>
  (pt_val (h X hX) (he X.env)).weak fun σ H Q ⟨B, F, s, hE, hW⟩ => by
    refine ⟨B, F, s, hE, ?_⟩
    try dsimp only at hW
    generalize m s = ms at hW ⊢
    cases ms with
    | ok t =>
      intro u H' F' st hE' r
      cases r with | bl => exact ⟨_, rfl, hW H' F' st hE'⟩
    | exc x => exact hW
    | bad => exact hW
variable {mt ms : S → R (Bool × S)}
theorem te_not (h : Te v ρs a mt) : Te v ρs (.UnaryOp .Not a pos) fun s => (mt s).bind fun t => .ok (!t.1, t.2) := fun X hX => (pt_not (h X hX)).weak fun σ H Q ⟨B, F, s, hE, hW⟩ => by
  refine ⟨B, F, s, hE, ?_⟩
  try dsimp only at hW
  generalize mt s = m at hW ⊢
  cases m with
  | ok t => exact fun H' F' st hE' => hW H' F' st hE'
  | exc x => exact hW
  | bad => exact hW
theorem twe_and1 (h : Te v ρs a mt) : Twe v ρs (.BoolOp .And [a] pos) mt := fun X hX => pw_and1 (h X hX)
theorem twe_or1 (h : Te v ρs a mt) : Twe v ρs (.BoolOp .Or [a] pos) mt := fun X hX => pw_or1 (h X hX)
theorem te_w (h : Twe v ρs a mt) : Te v ρs a mt := fun X hX => (h X hX).pt
theorem twe_and {rest : List Expr} (h : Te v ρs a mt) (h' : Twe v ρs (.BoolOp .And (b :: rest) pos) ms) : Twe v ρs (.BoolOp .And (a :: b :: rest) pos) fun s => (mt s).bind fun t => if t.1 then ms t.2 else .ok (false, t.2) := fun X hX =>
  (pw_and (h X hX) (h' X hX)).weak fun σ H Q ⟨B, F, s, hE, hW⟩ => by
    refine ⟨B, F, s, hE, ?_⟩
    try dsimp only at hW
    generalize mt s = m at hW ⊢
    cases m with
    | ok t =>
      obtain ⟨c, s'⟩ := t
      intro H' F' st hE'
      cases c with
      | true => exact ⟨B, F', s', hE', WantTE.mono st hW⟩
      | false => exact hW H' F' st hE'
    | exc x => exact hW
    | bad => exact hW
theorem twe_or {rest : List Expr} (h : Te v ρs a mt) (h' : Twe v ρs (.BoolOp .Or (b :: rest) pos) ms) : Twe v ρs (.BoolOp .Or (a :: b :: rest) pos) fun s => (mt s).bind fun t => if t.1 then .ok (true, t.2) else ms t.2 := fun X hX =>
  (pw_or (h X hX) (h' X hX)).weak fun σ H Q ⟨B, F, s, hE, hW⟩ => by
    refine ⟨B, F, s, hE, ?_⟩
    try dsimp only at hW
    generalize mt s = m at hW ⊢
    cases m with
    | ok t =>
      obtain ⟨c, s'⟩ := t
      intro H' F' st hE'
      cases c with
      | true => exact hW H' F' st hE'
      | false => exact ⟨B, F', s', hE', WantTE.mono st hW⟩
    | exc x => exact hW
    | bad => exact hW
theorem ee_if {c : Expr} {m n : S → R (α × S)} (hc : Te v ρs c mt) (ha : Ee v .V ρs a ea m) (hb : Ee v .V ρs b ea n) : Ee v .V ρs (.IfExp c a b pos) ea fun s => (mt s).bind fun t => if t.1 then m t.2 else n t.2 := fun X hX =>
  (pe_ifExp (hc X hX) (ha X hX) (hb X hX)).weak fun σ H Q ⟨B, F, s, hE, hW⟩ => by
    refine ⟨B, F, s, hE, ?_⟩
    try dsimp only at hW
    generalize mt s = mm at hW ⊢
    cases mm with
    | ok t =>
      obtain ⟨c, s'⟩ := t
      intro H' F' st hE'
      cases c with
      | true => exact ⟨B, F', s', hE', WantE.mono st hW⟩
      | false => exact ⟨B, F', s', hE', WantE.mono st hW⟩
    | exc x => exact hW
    | bad => exact hW
theorem ee_to {e : Expr} {m : S → R (α × S)} {f : α → γ} (h : Ee v μ ρs e ea m) (hf : ∀ a, ec (f a) = ea a) : Ee v μ ρs e ec fun s => (m s).bind fun t => .ok (f t.1, t.2) := fun X hX => (h X hX).weak fun σ H Q ⟨B, F, s, hE, hW⟩ => by
  refine ⟨B, F, s, hE, ?_⟩
  try dsimp only at hW
  generalize m s = ms at hW ⊢
  cases ms with
  | ok t => have hW : PoE v.K B μ σ F (ec (f t.1)) (ρs t.2) Q := hW; rw [hf] at hW; exact hW
  | exc x => exact hW
  | bad => exact hW
theorem ee_down {e : Expr} {m : S → R (D × S)} {dec : D → Option α} (hd : ∀ d a, dec d = some a → ea a = d) (h : Ee v μ ρs e eD m) : Ee v μ ρs e ea fun s => (m s).bind fun t => (R.ofOpt (dec t.1)).bind fun a => .ok (a, t.2) := fun X hX => (h X hX).weak fun σ H Q ⟨B, F, s, hE, hW⟩ => by
  refine ⟨B, F, s, hE, ?_⟩
  try dsimp only at hW
  generalize m s = ms at hW ⊢
  cases ms with
  | ok t =>
    cases q : dec t.1 with
    | none => rw [R.bind_ok, q] at hW; exact hW.elim
    | some a => rw [R.bind_ok, q] at hW; have hW : PoE v.K B μ σ F (ea a) (ρs t.2) Q := hW; rw [hd _ a q] at hW; exact hW
  | exc x => exact hW
  | bad => exact hW
end Cw
namespace Cw
open PySem PySem.Spec PyProof.Rows L2
variable {α β γ δ ε ζ τ κ S T : Type} {v : Vw} {ρ : Rho} {ρs : S → Rho} {μ : Md} {ea : α → D} {eb : β → D} {ec : γ → D} {a b : Expr} {ma : S → R (α × S)} {mb : S → R (β × S)} {p pos : Pos} {G : Rt β} {C : Cs β} {rest : List Stmt}

/-! ## the thing at q is changed by another -/
structure PostI (F H : Hp) (q : Addr) (F' H' : Hp) : Prop where
  fr : Same F F'
  sub : Same F' H'
  keep : ∀ b o, H b = some o → b ≠ q → H' b = some o
  new : ∀ b, F' b ≠ none → F b ≠ none ∨ H b = none
theorem PostI.none {F H F' H' : Hp} {q b : Addr} {o : HO} (h : PostI F H q F' H') (n : F b = none) (e : H b = some o) : F' b = none := by
  cases z : F' b with
  | none => rfl
  | some w =>
    rcases h.new b (by rw [z]; simp) with y | y
    · exact absurd n y
    · rw [e] at y; cases y
theorem EnvOk.post {K : PySem.W.Frag} {B : Bs} {F H F' H' : Hp} {σ : L2.St} {i : Nat} {q : Addr} {s s' : Sl} {d' : D} (h : EnvOk K B F H σ ρ) (t : PostI F H q F' H') (e : ρ[i]? = some (some s)) (ow : s.own = true) (e1 : σ[i]? = some (some (.ref q))) (nf : F q = none) (hq : ∃ o, H q = some o)
    (he : s' = .ow d' ∨ s' = .io q d') (hn : OwnAt F' H' q d') : EnvOk K B F' H' σ (ρ.set i (some s')) := by
  have oi : owned ρ i := ⟨_, e, ow⟩
  have nb := h.out i q oi e1
  have hl : i < ρ.length := (List.getElem?_eq_some_iff.mp e).1
  have oj : ∀ {j}, owned (ρ.set i (some s')) j → owned ρ j := fun {j} oj => by
    by_cases hj : j = i
    · subst hj; exact oi
    · exact owned_set oj hj
  obtain ⟨oq, hq⟩ := hq
  refine ⟨t.sub, fun b o eb => t.keep b o (h.prot b o eb) (fun z => by rw [z, nb] at eb; cases eb), h.fz.trans t.fr, fun b o eb hb => ?_, fun j sl ej => ?_, fun j k c n o1 o2 => h.sep j k c n (oj o1) (oj o2), fun j c o => h.out j c (oj o)⟩
  · rcases t.new b hb with z | z
    · exact h.nof b o eb z
    · rw [h.prot b o eb] at z; cases z
  · by_cases hj : j = i
    · subst hj
      rw [List.getElem?_set_self hl] at ej
      cases ej
      refine ⟨_, e1, ?_⟩
      rcases he with rfl | rfl
      · exact ⟨q, rfl, t.none nf hq, hn⟩
      · exact ⟨rfl, t.none nf hq, hn⟩
    · rw [List.getElem?_set_ne (Ne.symm hj)] at ej
      obtain ⟨w, w1, w2⟩ := h.slot j sl ej
      refine ⟨w, w1, ?_⟩
      cases sl with
      | sh d => exact Rp.mono t.fr w2
      | scr a ns => exact ⟨w2.1, t.fr.seq w2.2⟩
      | ow d =>
        obtain ⟨a, e2, n1, o1⟩ := w2
        have ne : a ≠ q := fun zz => h.sep j i a hj ⟨_, ej, rfl⟩ oi (by rw [w1, e2]) (by rw [e1, zz])
        obtain ⟨oa, ha⟩ := o1.some
        exact ⟨a, e2, t.none n1 ha, o1.mono t.fr fun o x => t.keep a o x ne⟩
      | io a d =>
        obtain ⟨e2, n1, o1⟩ := w2
        have ne : a ≠ q := fun zz => h.sep j i a hj ⟨_, ej, rfl⟩ oi (by rw [w1, e2]) (by rw [e1, zz])
        obtain ⟨oa, ha⟩ := o1.some
        exact ⟨e2, t.none n1 ha, o1.mono t.fr fun o x => t.keep a o x ne⟩
/-- how slot i owns what it owns -/
def Rs (re : D → Sl) : Prop := re = Sl.ow ∨ ∃ q, re = Sl.io q
theorem Rs.own {re : D → Sl} (h : Rs re) (d : D) : (re d).own = true := by rcases h with rfl | ⟨q, rfl⟩ <;> rfl
theorem rs_ow : Rs Sl.ow := .inl rfl
theorem rs_io {q : Addr} : Rs (Sl.io q) := .inr ⟨q, rfl⟩
theorem EnvOk.thing {K : PySem.W.Frag} {B : Bs} {F H : Hp} {σ : L2.St} {i : Nat} {re : D → Sl} {d : D} (h : EnvOk K B F H σ ρ) (hr : Rs re) (e : ρ[i]? = some (some (re d))) :
    ∃ q, σ[i]? = some (some (.ref q)) ∧ F q = none ∧ OwnAt F H q d ∧ ∀ d', re d' = .ow d' ∨ re d' = .io q d' := by
  obtain ⟨u, e1, q1⟩ := h.slot i _ e
  rcases hr with rfl | ⟨q, rfl⟩
  · obtain ⟨q, rfl, a2, a3⟩ := q1; exact ⟨q, e1, a2, a3, fun _ => .inl rfl⟩
  · obtain ⟨rfl, a2, a3⟩ := q1; exact ⟨q, e1, a2, a3, fun _ => .inr rfl⟩

/-- what a def promises that changes its first argument: from s -/
def spI (es : S → D) (enc : α → List D) (eb : β → D) (f : α → S → R (β × S)) : Sp := fun vs H Q _ => ∃ a s F q us, vs = .ref q :: us ∧ Same F H ∧ F q = none ∧ OwnAt F H q (es s) ∧ RpA F us (enc a) ∧
  match f a s with
  | .ok t => ∀ u H' F', PostI F H q F' H' → OwnAt F' H' q (es t.2) → Rp F' u (eb t.1) → Q u H'
  | _ => False
/-- the slot i of the state s holds get s, by es; it is put back by put -/
structure Lens (ρs : S → Rho) (i : Nat) (re : D → Sl) (es : T → D) (get : S → T) (put : S → T → S) : Prop where
  rs : Rs re
  at_ : ∀ s, (ρs s)[i]? = some (some (re (es (get s))))
  put_ : ∀ s t, ρs (put s t) = (ρs s).set i (some (re (es t)))
section
variable {k : Nat} {x y : Str} {ps : List Str} {enc : α → List D} {es : T → D} {f : α → T → R (β × T)} {ex : List Expr} {q2 : Pos} {get : S → T} {put : S → T → S} {re : D → Sl} {m : S → R α}
theorem ee_callI (i : Nat) (h : Df v.pg k x ps (spI es enc eb f)) (hk : k ≤ v.k) (l : Lens ρs i re es get put) (ha : ∀ s, Sar v (ρs s) ex enc (m s)) (hN : v.N[i]? = some y := by rfl) (hv : Vis v.sc y := by first | exact Or.inl rfl | exact Or.inr (Or.inl rfl) | exact Or.inr (Or.inr rfl))
    (hd : (y == ("__debug__" : Str)) = false := by decide) (hcd : (y == ("__classdict__" : Str)) = false := by decide) (hg : v.sc.names.lookup x = some .globalImplicit := by rfl) (hdb : (x == ("__debug__" : Str)) = false := by decide)
    (he : ∀ env, starEach (.Name y q2 :: ex) env = (false, eval (.Name y q2) env) :: starEach ex env := by intro _; rfl) (hpl : ∀ env, (backTo pos (starEach ex env)).any (·.1) = false := by intro _; rfl) :
    Ee v .V ρs (.Call (.Name x p) (.Name y q2 :: ex) [] pos) eb fun s => (m s).bind fun a => (f a (get s)).bind fun t => .ok (t.1, put s t.2) := fun X hX => by
  obtain ⟨fa, fd, hf, hm, hkp, hb⟩ := h.ex
  refine (pe_callG (k := k) (sp := spI es enc eb f) (E := fun σ => WE v.W σ) (t := tCons (tVar i) (fun σ H Q => ∃ s, rdA v (ρs s) ((m s).map enc) σ H Q)) (by rw [hX.hP, hX.hw, hX.hK, hX.hmg, hX.hb]; exact hf) (hX.room.mono hk) hX.gd (hX.gl hg) (by rw [hX.hmg]; exact hm) (by rw [hX.hK]; exact hkp) (by rw [hX.hK]; exact hb)
    (fun σ => passAt hX.tk σ) (pa_cons (hX.pv i hN hv hd hcd) ⟨fun pos pins st σ H Q I ⟨s, q⟩ => (ha s X hX).run pos pins st σ H Q I q⟩ (he _)) hdb (he _) (hpl _)).weak fun σ H Q ⟨B, F, s, hE, hW⟩ => ?_
  obtain ⟨q, e1, nf, hq, hre⟩ := hE.thing l.rs (l.at_ s)
  refine ⟨.ref q, e1, s, B, F, hE, ?_⟩
  dsimp only at hW
  cases hm : m s with
  | ok a =>
    rw [hm] at hW
    intro us H1 F1 s1 r1
    obtain ⟨nf1, hq1⟩ := s1.own nf hq
    refine ⟨a, get s, F1, q, us, rfl, s1.sub, nf1, hq1, r1, ?_⟩
    rw [R.bind_ok] at hW
    cases hf2 : f a (get s) with
    | ok t =>
      rw [hf2] at hW
      intro u H2 F2 t2 o2 r2
      refine hW u H2 F2 (s1.fr.trans t2.fr) ?_ r2
      show EnvOk v.K B F2 H2 σ (ρs (put s t.2))
      rw [l.put_]
      exact (hE.step s1).post t2 (l.at_ s) (l.rs.own _) e1 nf1 hq1.some (hre _) o2
    | exc x => rw [hf2] at hW; exact hW.elim
    | bad => rw [hf2] at hW; exact hW.elim
  | exc x => rw [hm] at hW; exact hW.elim
  | bad => rw [hm] at hW; exact hW.elim
end
theorem map_erase (f : α → β) : ∀ (xs : List α) (k : Nat), (xs.eraseIdx k).map f = (xs.map f).eraseIdx k
  | [], _ => rfl
  | _ :: _, 0 => rfl
  | x :: xs, k + 1 => by
    show f x :: (xs.eraseIdx k).map f = f x :: (xs.map f).eraseIdx k
    rw [map_erase f xs k]
/-- x.pop(e), e changing things too -/
def popR (xs : List α) (i : Int) : R (α × List α) := if -(2 ^ 63) ≤ i ∧ i < 2 ^ 63 then
    (match ixN xs.length i with
    | some k => (match xs[k]? with
      | some y => .ok (y, xs.eraseIdx k)
      | none => .bad)
    | none => .bad) else .bad
theorem popR_ok {xs : List α} {i : Int} {t : α × List α} (h : popR xs i = .ok t) : -(2 ^ 63) ≤ i ∧ i < 2 ^ 63 ∧ ∃ k, ixN xs.length i = some k ∧ xs[k]? = some t.1 ∧ t.2 = xs.eraseIdx k := by
  unfold popR at h
  split at h
  · rename_i hb
    split at h
    · rename_i k hk
      split at h
      · rename_i y hy
        cases h
        exact ⟨hb.1, hb.2, k, hk, hy, rfl⟩
      · cases h
    · cases h
  · cases h
section
variable {y : Str} {q1 q2 : Pos} {e : Expr} {mi : S → R (Int × S)} {get : S → List α} {put : S → List α → S} {re : D → Sl}
theorem ee_pop (i : Nat) (l : Lens ρs i re (eL ea) get put) (h : Ee v .V ρs e eI mi) (hN : v.N[i]? = some y := by rfl) (hv : Vis v.sc y := by first | exact Or.inl rfl | exact Or.inr (Or.inl rfl) | exact Or.inr (Or.inr rfl))
    (hk : ∀ s t, mi s = .ok t → True := by intro _ _ _; trivial) (hd : (y == ("__debug__" : Str)) = false := by decide) (hcd : (y == ("__classdict__" : Str)) = false := by decide)
    (ha : ∀ env, attributeBase (.Name y q1) "pop" env (eval (.Name y q1) env) = eval (.Name y q1) env := by intro _; rfl) (hw : ∀ env, ((backTo pos (starEach [e] env)).all (fun x => !x.1) && (backToKw pos (keywordEach [] env)).all (fun x => x.1.isSome) && decide (([e] : List Expr).length + ([] : List Keyword).length + (if ([] : List Keyword).isEmpty then 0 else 1) < 30)) = true := by intro _; rfl)
    (hl : (q2.endLine == pos.line) = true := by rfl) (he : ∀ env, starEach [e] env = (false, eval e env) :: starEach [] env := by intro _; rfl) :
    Ee v .V ρs (.Call (.Attribute (.Name y q1) "pop" q2) [e] [] pos) ea fun s => (mi s).bind fun t => (popR (get t.2) t.1).bind fun u => .ok (u.1, put t.2 u.2) := fun X hX =>
  (pe_bm PySem.F.plainAttrs_list PySem.F.slot_list_pop PySem.F.type_list_pop mt_popAt (hX.pv i hN hv hd hcd) (pa_cons (h X hX) pa_nil (he _)) (ha _) (hw _) hl (he _) (by rfl)).weak fun σ H Q ⟨B, F, s, hE, hW⟩ => by
    obtain ⟨q, e1, nf, ⟨xs, hq, z, r⟩, hre⟩ := hE.thing l.rs (l.at_ s)
    refine ⟨.ref q, e1, .inl ⟨rfl, xs, .inl (.inl hq)⟩, B, F, s, hE, ?_⟩
    dsimp only at hW
    cases hm : mi s with
    | ok t =>
      rw [hm, R.bind_ok] at hW
      intro u H1 F1 sF hE1 r1
      cases r1
      obtain ⟨q', e1', nf', ⟨xs', hq', z', r'⟩, hre'⟩ := hE1.thing l.rs (l.at_ t.2)
      rw [e1] at e1'
      cases e1'
      cases hp : popR (get t.2) t.1 with
      | ok w =>
        rw [hp] at hW
        obtain ⟨b1, b2, k, hk1, hk2, hk3⟩ := popR_ok hp
        obtain ⟨h1, _⟩ := ixN_seq hk1
        have hlen := r'.length
        rw [List.length_map] at hlen
        obtain ⟨yv, hy1, hy2⟩ := r'.get (i := k) (d := ea w.1) (by rw [List.getElem?_map, hk2]; rfl)
        refine ⟨q, xs', t.1, k, yv, rfl, rfl, hq', b1, b2, by rw [hlen]; exact h1, hy1, ?_⟩
        refine hW yv _ F1 sF ?_ hy2
        show EnvOk v.K B F1 _ σ (ρs (put t.2 w.2))
        rw [l.put_]
        refine hE1.chg (l.at_ t.2) (l.rs.own _) e1 nf' (hre' _) ⟨_, upd_same, Nat.le_trans (len_erase _ _) z', ?_⟩
        rw [hk3, map_erase]
        exact r'.eraseIdx k
      | exc x => rw [hp] at hW; exact hW.elim
      | bad => rw [hp] at hW; exact hW.elim
    | exc x => rw [hm] at hW; exact hW.elim
    | bad => rw [hm] at hW; exact hW.elim
end
end Cw
namespace Cw
open PySem PySem.Spec PyProof.Rows L2
variable {α β γ δ ε ζ τ κ S T : Type} {v : Vw} {ρ : Rho} {ρs : S → Rho} {μ : Md} {ea : α → D} {eb : β → D} {ec : γ → D} {a b : Expr} {p pos : Pos} {G : Rt β} {C : Cs β} {rest : List Stmt}

/-! ## comprehensions whose parts change things -/
theorem wipeR_out {i : Nat} : ∀ {vs : List Nat}, i ∉ vs → (wipeR ρ vs)[i]? = ρ[i]?
  | [], _ => rfl
  | w :: vs, h => by
    unfold wipeR
    rw [List.getElem?_set_ne (fun e => h (by rw [e]; exact List.mem_cons_self)), wipeR_out fun z => h (List.mem_cons_of_mem _ z)]
theorem wipeR_length : ∀ vs : List Nat, (wipeR ρ vs).length = ρ.length
  | [] => rfl
  | w :: vs => by unfold wipeR; rw [List.length_set, wipeR_length vs]
theorem wipeR_in {i : Nat} : ∀ {vs : List Nat}, i ∈ vs → i < ρ.length → (wipeR ρ vs)[i]? = some none
  | w :: vs, h, hl => by
    unfold wipeR
    by_cases hi : w = i
    · subst hi; rw [List.getElem?_set_self (by rw [wipeR_length]; exact hl)]
    · rw [List.getElem?_set_ne hi]
      rcases List.mem_cons.mp h with z | z
      · exact absurd z.symm hi
      · exact wipeR_in z hl
/-- what a target sets is its own -/
def UpOk (js : List Nat) (upd : α → Rho → Rho) : Prop := ∀ x ρ (vs : List Nat), (∀ j ∈ js, j ∈ vs) → wipeR (upd x ρ) vs = wipeR ρ vs
theorem wipeR_set {i : Nat} {u : Option Sl} {vs : List Nat} (h : i ∈ vs) : wipeR (ρ.set i u) vs = wipeR ρ vs := by
  apply List.ext_getElem?
  intro j
  by_cases hj : j ∈ vs
  · by_cases hl : j < ρ.length
    · rw [wipeR_in hj (by simpa using hl), wipeR_in hj hl]
    · rw [List.getElem?_eq_none (by rw [wipeR_length, List.length_set]; omega), List.getElem?_eq_none (by rw [wipeR_length]; omega)]
  · rw [wipeR_out hj, wipeR_out hj, List.getElem?_set_ne (fun e => hj (by rw [← e]; exact h))]
theorem up_name {i : Nat} : UpOk [i] fun a ρ => ρ.set i (some (.sh (ea a))) := fun x ρ vs h => wipeR_set (h i (by simp))
theorem wipeR_wipeR (vs : List Nat) : wipeR (wipeR ρ vs) vs = wipeR ρ vs := by
  apply List.ext_getElem?
  intro j
  by_cases hj : j ∈ vs
  · by_cases hl : j < ρ.length
    · rw [wipeR_in hj (by rw [wipeR_length]; exact hl), wipeR_in hj hl]
    · rw [List.getElem?_eq_none (by rw [wipeR_length, wipeR_length]; omega), List.getElem?_eq_none (by rw [wipeR_length]; omega)]
  · rw [wipeR_out hj]
namespace R
def mapMS (f : α → S → R (β × S)) : List α → S → R (List β × S)
  | [], s => .ok ([], s)
  | x :: xs, s => (f x s).bind fun t => (mapMS f xs t.2).bind fun u => .ok (t.1 :: u.1, u.2)
theorem mapMS_split {f : α → S → R (β × S)} : ∀ {xs : List α} {s : S} {w : List β × S} (i : Nat), mapMS f xs s = .ok w → ∃ zs si, mapMS f (xs.take i) s = .ok (zs, si) ∧ zs.length ≤ i ∧
    ∀ x, xs[i]? = some x → ∃ y s2, f x si = .ok (y, s2) ∧ mapMS f (xs.take (i + 1)) s = .ok (zs ++ [y], s2)
  | [], s, w, i, h => ⟨[], s, by simp [mapMS], by simp, fun x e => by simp at e⟩
  | x :: xs, s, w, 0, h => by
    refine ⟨[], s, rfl, by simp, fun y e => ?_⟩
    simp at e
    subst e
    unfold mapMS at h
    cases q : f x s with
    | ok t => exact ⟨t.1, t.2, rfl, by rw [List.take_succ_cons, List.take_zero]; unfold mapMS; rw [q]; rfl⟩
    | exc z => rw [q] at h; cases h
    | bad => rw [q] at h; cases h
  | x :: xs, s, w, i + 1, h => by
    unfold mapMS at h
    cases q : f x s with
    | ok t =>
      rw [q, R.bind_ok] at h
      cases q2 : mapMS f xs t.2 with
      | ok u =>
        obtain ⟨zs, si, h1, h2, h3⟩ := mapMS_split i q2
        refine ⟨t.1 :: zs, si, ?_, by rw [List.length_cons]; omega, fun y e => ?_⟩
        · rw [List.take_succ_cons]; unfold mapMS; rw [q, R.bind_ok, h1]; rfl
        · obtain ⟨y2, s2, q3, q4⟩ := h3 y (by simpa using e)
          refine ⟨y2, s2, q3, ?_⟩
          rw [List.take_succ_cons]; unfold mapMS; rw [q, R.bind_ok, q4]; rfl
      | exc z => rw [q2] at h; cases h
      | bad => rw [q2] at h; cases h
    | exc z => rw [q] at h; cases h
    | bad => rw [q] at h; cases h
end R
def WantIE (v : Vw) (B : Bs) (σ : L2.St) (F : Hp) (enc : α → D) (ρs : S → Rho) (m : R (List α × S)) (R' : It → Hp → Prop) : Prop :=
  match m with
  | .ok t => ∀ J H' F', Same F F' → EnvOk v.K B F' H' σ (ρs t.2) → t.1.length ≤ sizeLine → ItOk (fun F1 H1 => Same F' F1) J t.1 enc → R' J H'
  | _ => False
def rdIE (v : Vw) (ρs : S → Rho) (enc : α → D) (m : S → R (List α × S)) : TI := fun σ H R' => ∃ B F s, EnvOk v.K B F H σ (ρs s) ∧ WantIE v B σ F enc ρs (m s) R'
def Ie (v : Vw) (ρs : S → Rho) (tg e : Expr) (enc : α → D) (m : S → R (List α × S)) : Prop := ∀ X, v.Has X → PI X tg e (rdIE v ρs enc m)
theorem ie_pure {tg e : Expr} {m : S → R (List α)} (h : ∀ s, Si v true (ρs s) tg e ea (m s)) : Ie v ρs tg e ea fun s => (m s).bind fun a => .ok (a, s) := fun X hX =>
  (⟨fun pins st σ H Q I ⟨s, q⟩ => (h s X hX).run pins st σ H Q I q⟩ : PI X tg e (fun σ H Q => ∃ s, rdI v true (ρs s) ea (m s) σ H Q)).weak fun σ H Q ⟨B, F, s, hE, hW⟩ => by
    refine ⟨s, B, F, hE, ?_⟩
    dsimp only at hW
    generalize m s = ms at hW ⊢
    cases ms with
    | ok xs => exact fun J H' F' t z it => hW J H' F' t.fr (hE.step t) z (by simpa using it)
    | exc x => exact hW.elim
    | bad => exact hW
theorem ie_rng1 {tg : Expr} {m : S → R (Int × S)} (hm : v.mg "range" = none) (h : Ee v .V ρs a eI m) (hg : v.sc.names.lookup ("range" : Str) = some .globalImplicit := by rfl) (he : ∀ env, starEach [a] env = (false, eval a env) :: starEach [] env := by intro _; rfl) :
    Ie v ρs tg (.Call (.Name "range" p) [a] [] pos) eI fun s => (m s).bind fun t => (rng1 t.1).bind fun xs => .ok (xs, t.2) := fun X hX =>
  (pi_range1 (hX.gl hg) (by rw [hX.hmg]; exact hm) (ae_cons h ae_nil he X hX) (he _)).weak fun σ H Q ⟨B, F, s, hE, hW⟩ => by
    refine ⟨B, F, s, hE, ?_⟩
    dsimp only at hW ⊢
    generalize m s = ms at hW ⊢
    cases ms with
    | ok t =>
      intro us H1 F1 s1 hE1 r1
      cases r1 with
      | cons r r' =>
        cases r'
        cases r
        replace hW : WantIE v B σ F eI ρs ((rng1 t.1).bind fun xs => .ok (xs, t.2)) Q := hW
        unfold rng1 at hW
        split at hW
        · rename_i hs
          simp only [small, Bool.and_eq_true, decide_eq_true_eq] at hs
          refine ⟨t.1, rfl, hs.1.1, hs.1.2, hW _ H1 F1 s1 hE1 (by rw [rng_length, sizeLine_eq]; omega) ?_⟩
          have := @itr_ok (fun F2 H2 => Same F1 F2) 0 t.1.toNat
          unfold rng
          rw [Int.sub_zero]
          exact this
        · exact hW.elim
    | exc x => exact hW
    | bad => exact hW
/-- an unowned object is protected for a while -/
theorem EnvOk.guard {K : PySem.W.Frag} {B : Bs} {F H : Hp} {σ : L2.St} {q : Addr} {o : HO} (h : EnvOk K B F H σ ρ) (e : H q = some o) (nf : F q = none) (no : ∀ j, owned ρ j → σ[j]? ≠ some (some (.ref q))) : EnvOk K ⟨upd B.hp q o, B.f⟩ F H σ ρ where
  sub := h.sub
  prot := fun b u eb => by
    dsimp only at eb
    by_cases hb : b = q
    · subst hb; rw [upd_same] at eb; rw [e]; exact eb
    · rw [upd_ne hb] at eb; exact h.prot b u eb
  fz := h.fz
  nof := fun b u eb hb => by
    dsimp only at eb
    by_cases hbq : b = q
    · subst hbq; exact absurd nf hb
    · rw [upd_ne hbq] at eb; exact h.nof b u eb hb
  slot := h.slot
  sep := h.sep
  out := fun j c o e1 => by
    have hc : c ≠ q := fun z => by subst z; exact no j o e1
    show upd B.hp q _ c = none
    rw [upd_ne hc]; exact h.out j c o e1
/-- .. and then changed -/
theorem EnvOk.unguard {K : PySem.W.Frag} {B : Bs} {F H : Hp} {σ : L2.St} {q : Addr} {o o' : HO} (nb : B.hp q = none) (nbf : B.f q = none) (h : EnvOk K ⟨upd B.hp q o, B.f⟩ F H σ ρ) :
    H q = some o ∧ F q = none ∧ (∀ j, owned ρ j → σ[j]? ≠ some (some (.ref q))) ∧ EnvOk K B F (upd H q o') σ ρ := by
  have hq : H q = some o := h.prot q o upd_same
  have nf : F q = none := by
    cases z : F q with
    | none => rfl
    | some w => exact absurd nbf (h.nof q o upd_same (by rw [z]; simp))
  have no : ∀ j, owned ρ j → σ[j]? ≠ some (some (.ref q)) := fun j oj e1 => by
    have := h.out j q oj e1
    have z : upd B.hp q o q = none := this
    rw [upd_same] at z; cases z
  refine ⟨hq, nf, no, fun b u eb => ?_, fun b u eb => ?_, h.fz, fun b u eb hb => ?_, fun j s e => ?_, h.sep, fun j c oj e1 => ?_⟩
  · rw [upd_ne (fun z => by rw [z, nf] at eb; cases eb)]; exact h.sub b u eb
  · have hb : b ≠ q := fun z => by rw [z, nb] at eb; cases eb
    rw [upd_ne hb]; exact h.prot b u (by show upd B.hp q o b = _; rw [upd_ne hb]; exact eb)
  · have hbq : b ≠ q := fun z => by rw [z, nb] at eb; cases eb
    exact h.nof b u (by show upd B.hp q o b = _; rw [upd_ne hbq]; exact eb) hb
  · obtain ⟨w, h1, h2⟩ := h.slot j s e
    refine ⟨w, h1, ?_⟩
    cases s with
    | sh d => exact h2
    | scr a ns => exact h2
    | ow d =>
      obtain ⟨a, e2, n1, o1⟩ := h2
      have ne : a ≠ q := fun zz => no j ⟨_, e, rfl⟩ (by rw [h1, e2, zz])
      exact ⟨a, e2, n1, o1.mono (.refl F) fun o x => by rw [upd_ne ne]; exact x⟩
    | io a d =>
      obtain ⟨e2, n1, o1⟩ := h2
      have ne : a ≠ q := fun zz => no j ⟨_, e, rfl⟩ (by rw [h1, e2, zz])
      exact ⟨e2, n1, o1.mono (.refl F) fun o x => by rw [upd_ne ne]; exact x⟩
  · have := h.out j c oj e1
    have hc : c ≠ q := fun z => by subst z; exact no j oj e1
    have z : upd B.hp q o c = none := this
    rw [upd_ne hc] at z; exact z
/-- nothing is known of the slots vs -/
def NoneAt (ρ : Rho) (vs : List Nat) : Prop := ∀ i ∈ vs, ∀ s, ρ[i]? ≠ some (some s)
theorem noneAt_nil : NoneAt ρ [] := fun i h => by simp at h
theorem noneAt_cons {i : Nat} {vs : List Nat} (h : ρ[i]? = some none) (t : NoneAt ρ vs) : NoneAt ρ (i :: vs) := fun j hj s e => by
  rcases List.mem_cons.mp hj with z | z
  · subst z; rw [h] at e; cases e
  · exact t j z s e
theorem EnvOk.unwipe {K : PySem.W.Frag} {B : Bs} {F H : Hp} {σ : L2.St} {vs : List Nat} (n : NoneAt ρ vs) (h : EnvOk K B F H (L2.wipe σ vs) (wipeR ρ vs)) : EnvOk K B F H σ ρ := by
  have key : ∀ {i : Nat} {s : Sl}, ρ[i]? = some (some s) → i ∉ vs := fun {i s} e z => n i z s e
  have ow : ∀ {i : Nat}, owned ρ i → i ∉ vs ∧ owned (wipeR ρ vs) i := fun {i} ⟨s, e, o⟩ => ⟨key e, s, by rw [wipeR_out (key e)]; exact e, o⟩
  refine ⟨h.sub, h.prot, h.fz, h.nof, fun i s e => ?_, fun i j c ne o1 o2 e1 e2 => ?_, fun i c o e1 => ?_⟩
  · obtain ⟨u, h1, h2⟩ := h.slot i s (by rw [wipeR_out (key e)]; exact e)
    rw [wipe_out (key e)] at h1
    exact ⟨u, h1, h2⟩
  · refine h.sep i j c ne (ow o1).2 (ow o2).2 ?_ ?_
    · rw [wipe_out (ow o1).1]; exact e1
    · rw [wipe_out (ow o2).1]; exact e2
  · exact h.out i c (ow o).2 (by rw [wipe_out (ow o).1]; exact e1)
theorem lcE_read {B : Bs} {F H : Hp} {σ : L2.St} {Q : VK} {own : List (Str × Nat)} {scope : Scope} {js : List Nat} {upd' : α → Rho → Rho} {mi : S → R (List α × S)} {f : α → S → R (β × S)} {s : S}
    (hjs : ∀ j ∈ js, j ∈ own.map (·.2)) (hu : UpOk js upd') (hn : ∀ s, NoneAt (ρs s) (own.map (·.2))) (hE : EnvOk v.K B F H σ (ρs s)) (hW : WantE v B .N σ F (eL eb) ρs ((mi s).bind fun t => R.mapMS f t.1 t.2) Q) :
    tLc (rdIE v ρs ea mi) (fun u σ H Q => ∃ B F ρ x, EnvOk v.K B F H σ ρ ∧ Rp F u (ea x) ∧ ∀ σ' H' F', Step F H F' H' → EnvOk v.K B F' H' σ' (upd' x ρ) → (∀ vs : List Nat, (∀ j ∈ js, j ∈ vs) → wipe σ' vs = wipe σ vs) → Q σ' H')
      tYes (fun σ H Q => ∃ x, rdE (v.blk scope) .V (fun s => upd' x (wipeR (ρs s) (own.map (·.2)))) eb (f x) σ H Q) (own.map (·.2)) σ H Q := by
  refine ⟨B, F, s, hE, ?_⟩
  cases hmi : mi s with
  | exc x => rw [hmi] at hW; exact hW
  | bad => rw [hmi] at hW; exact hW
  | ok t =>
    rw [hmi, R.bind_ok] at hW
    intro J H1 F1 s1 hE1 hz it Dd nD
    cases hm : R.mapMS f t.1 t.2 with
    | exc x => rw [hm] at hW; exact hW.elim
    | bad => rw [hm] at hW; exact hW.elim
    | ok w =>
      rw [hm] at hW
      obtain ⟨ds, e, hQ⟩ := hW
      simp only [eL, PyData.list.injEq] at e
      subst e
      have nF1 : F1 Dd = none := hE1.sub.free nD
      obtain ⟨nB, nO⟩ := hE1.fresh nD
      have nBf : B.f Dd = none := hE1.fz.free nF1
      have hEw := (hE1.step (.laid hE1.sub nD (o := .lst []))).wipe (own.map (·.2))
      have nO' : ∀ j, owned (wipeR (ρs t.2) (own.map (·.2))) j → (wipe σ (own.map (·.2)))[j]? ≠ some (some (.ref Dd)) := fun j ⟨sl, e, o⟩ z => nO j ⟨sl, (wipeR_some e).1, o⟩ (wipe_some z).1
      refine ⟨fun i m H => ∃ F us zs si, m = t.1.length - i ∧ i ≤ t.1.length ∧ Same F1 F ∧ EnvOk v.K B F H (wipe σ (own.map (·.2))) (wipeR (ρs si) (own.map (·.2))) ∧ F Dd = none ∧ H Dd = some (.lst us) ∧
          (∀ j, owned (wipeR (ρs si) (own.map (·.2))) j → (wipe σ (own.map (·.2)))[j]? ≠ some (some (.ref Dd))) ∧ R.mapMS f (t.1.take i) t.2 = .ok (zs, si) ∧ RpA F us (zs.map eb),
        ⟨t.1.length, F1, [], [], t.2, by simp, Nat.zero_le _, .refl F1, hEw, nF1, upd_same, nO', by simp [R.mapMS], .nil⟩, ?_⟩
      rintro i m H2 ⟨F2, us, zs, si, rfl, hi, sF, hE2, nF2, hD, no2, hzs, r⟩
      have hul : us.length = zs.length := by rw [r.length, List.length_map]
      obtain ⟨zs', si', h1, h2, h3⟩ := R.mapMS_split i hm
      rw [hzs] at h1
      cases h1
      have J1 := it i F2 H2 hE2.sub sF
      by_cases hlt : i < t.1.length
      · have hx : t.1[i]? = some t.1[i] := List.getElem?_eq_getElem hlt
        obtain ⟨go, yl⟩ := J1.2 _ hx
        obtain ⟨y, s2, hf, hnext⟩ := h3 _ hx
        refine .inr ⟨go, fun H' => ∃ F us, Same F1 F ∧ EnvOk v.K B F H' (wipe σ (own.map (·.2))) (wipeR (ρs s2) (own.map (·.2))) ∧ F Dd = none ∧ H' Dd = some (.lst us) ∧
            (∀ j, owned (wipeR (ρs s2) (own.map (·.2))) j → (wipe σ (own.map (·.2)))[j]? ≠ some (some (.ref Dd))) ∧ RpA F us ((zs ++ [y]).map eb),
          fun H' ⟨F', us', a1, a2, a3, a4, a5, a6⟩ => ⟨t.1.length - (i + 1), by omega, F', us', _, s2, rfl, hlt, a1, a2, a3, a4, a5, hnext, a6⟩, fun u H3 yy => ?_⟩
        obtain ⟨F3, s3, r3⟩ := yl u H3 yy
        have hE3 := hE2.step s3
        have hD3 : H3 Dd = some (.lst us) := s3.hp _ _ hD
        have nF3 : F3 Dd = none := by
          cases q : F3 Dd with
          | none => rfl
          | some o =>
            rcases s3.new Dd (by rw [q]; simp) with z | z
            · exact absurd nF2 z
            · rw [hD] at z; cases z
        have hE3' := hE3.guard hD3 nF3 no2
        refine ⟨_, F3, _, t.1[i], hE3', r3, fun σ4 H4 F4 s4 hE4 w4 => ⟨(w4 _ hjs).trans (wipe_wipe σ _), ?_⟩⟩
        unfold tYes; dsimp only
        rw [if_pos rfl]
        refine ⟨t.1[i], _, F4, si, hE4, ?_⟩
        rw [hf]
        intro yv H5 F5 s5 hE5 r5
        have hE6 := hE5.wipe (own.map (·.2))
        rw [hu _ _ _ hjs, wipeR_wipeR, (w4 _ hjs).trans (wipe_wipe σ _)] at hE6
        obtain ⟨hD5, nF5, no5, hE7⟩ := EnvOk.unguard (o' := .lst (us ++ [yv])) nB nBf hE6
        have s35 : Same F2 F5 := (s3.fr.trans s4.fr).trans s5
        refine ⟨us, hD5, by rw [hul]; exact Nat.lt_of_lt_of_le (Nat.lt_of_le_of_lt h2 hlt) hz, F5, us ++ [yv], sF.trans s35, hE7, nF5, upd_same, no5, ?_⟩
        rw [List.map_append]
        exact (r.mono s35).append (.cons r5 .nil)
      · have ei : i = t.1.length := by omega
        subst ei
        refine .inl ⟨J1.1 (Nat.le_refl _), ?_⟩
        rw [List.take_length, hm] at hzs
        cases hzs
        have hE8 := EnvOk.unwipe (hn _) hE2
        refine hQ Dd us _ F2 (s1.trans sF) hE8 nB nF2 (fun j ⟨sl, e, o⟩ z => ?_) hD (by rw [hul]; exact Nat.le_trans h2 hz) r
        have nj : j ∉ own.map (·.2) := fun zz => hn _ j zz sl e
        exact no2 j ⟨sl, by rw [wipeR_out nj]; exact e, o⟩ (by rw [wipe_out nj]; exact z)
theorem ee_lc {elt tg iter : Expr} {scope : Scope} {own : List (Str × Nat)} {js : List Nat} {upd' : α → Rho → Rho} {mi : S → R (List α × S)} {f : α → S → R (β × S)}
    (hjs : ∀ j ∈ js, j ∈ own.map (·.2)) (hu : UpOk js upd') (hn : ∀ s, NoneAt (ρs s) (own.map (·.2))) (hi : Ie v ρs tg iter ea mi) (ok : blkC v.N v.sc scope own = true) (hg : Gt (v.blk scope) tg ea js upd')
    (he : ∀ x, Ee (v.blk scope) .V (fun s => upd' x (wipeR (ρs s) (own.map (·.2)))) elt eb (f x)) (hs : ∀ env x, foldedSetIterable iter env x = pure x := by intro _ _; rfl) :
    Ee v .N ρs (.ListComp elt [⟨tg, iter, [], 0⟩] scope pos) (eL eb) fun s => (mi s).bind fun t => R.mapMS f t.1 t.2 := fun X hX =>
  have hk := (blkOk_by ok).kind
  (pe_lc (own := own) hX.calm hX.nd (hi X hX) (by rw [hX.hN, hX.hsc]; exact blkOk_by ok) (fun s H C cl fp => hg _ (blk_has hX hk))
    (fun s H C cl fp => pts_nil) (fun s H C cl fp => ⟨fun pins s σ H Q I ⟨x, h⟩ => (he x _ (blk_has hX hk)).run pins s σ H Q I h⟩) (hs _)).weak
    fun σ H Q ⟨B, F, s, hE, hW⟩ => lcE_read (scope := scope) hjs hu hn hE hW

/-! ## statements -/
/-- what raises here is not told -/
def R.cb (m : R α) (k : α → R β) : R β := match m with
  | .ok a => k a
  | _ => .bad
@[simp] theorem R.cb_ok (a : α) (k : α → R β) : (R.ok a).cb k = k a := rfl
@[simp] theorem R.cb_exc (x : Ex) (k : α → R β) : (R.exc x : R α).cb k = .bad := rfl
@[simp] theorem R.cb_bad (k : α → R β) : (R.bad : R α).cb k = .bad := rfl
variable {e : Expr} {m : S → R (α × S)}
theorem wantSE {σ : L2.St} {H F : Hp} {B : Bs} {enc : α → D} {k : α × S → R β} {D' : Ends} {Q : VK} {s : S} (hE : EnvOk v.K B F H σ (ρs s)) (hW : WantS v B G F ((m s).cb k) D')
    (go : ∀ t, m s = .ok t → WantS v B G F (k t) D' → PoE v.K B μ σ F (enc t.1) (ρs t.2) Q) : rdE v μ ρs enc m σ H Q := by
  refine ⟨B, F, s, hE, ?_⟩
  cases h : m s with
  | ok t => rw [h] at hW; exact go t h hW
  | exc x => rw [h] at hW; exact hW
  | bad => rw [h] at hW; exact hW
theorem s1_setE {x : Str} {pos' : Pos} {k : α × S → R β} (i : Nat) (s : S) (h : Ee v .V ρs e ea m) (hN : v.N[i]? = some x := by rfl) (hx : Sto v x := by first | exact Or.inl rfl | exact Or.inr ⟨rfl, rfl⟩)
    (hs : ∀ env, swapsWith e (some (.Name x pos')) pos.line env = pure false := by intro _; rfl) :
    S1 v G (C.to (fun t => (ρs t.2).set i (some (.sh (ea t.1)))) k) (ρs s) (.Assign [.Name x pos'] e pos) ((m s).cb k) := fun X hX => by
  have hN' : X.N[i]? = some x := by rw [hX.hN]; exact hN
  have h1 := ps_set (pos := pos) (pos' := pos') hX.nd hN' (hX.loc hx.loc) (h X hX) (hs _) (hx.fn hX)
  refine ⟨fun pins st σ H D' I ⟨B, F, hE, hW, g⟩ => h1.run pins st σ H D' I ?_⟩
  exact wantSE (μ := .V) hE hW fun t _ hW u H' F' sF hE' r => g.nx t _ H' F' sF (hE'.setSh (lenσ I hN') r) (hW.mono sF)
theorem s1_setNE {x : Str} {pos' : Pos} {k : α × S → R β} (i : Nat) (s : S) (h : Ee v .N ρs e ea m) (hl : ∀ a, ∃ ds, ea a = .list ds) (hN : v.N[i]? = some x := by rfl) (hx : Sto v x := by first | exact Or.inl rfl | exact Or.inr ⟨rfl, rfl⟩)
    (hs : ∀ env, swapsWith e (some (.Name x pos')) pos.line env = pure false := by intro _; rfl) :
    S1 v G (C.to (fun t => (ρs t.2).set i (some (.ow (ea t.1)))) k) (ρs s) (.Assign [.Name x pos'] e pos) ((m s).cb k) := fun X hX => by
  have hN' : X.N[i]? = some x := by rw [hX.hN]; exact hN
  have h1 := ps_set (pos := pos) (pos' := pos') hX.nd hN' (hX.loc hx.loc) (h X hX) (hs _) (hx.fn hX)
  refine ⟨fun pins st σ H D' I ⟨B, F, hE, hW, g⟩ => h1.run pins st σ H D' I ?_⟩
  refine wantSE hE hW fun t _ hW => ?_
  obtain ⟨ds, hq⟩ := hl t.1
  refine ⟨ds, hq, fun q xs H' F' sF hE' nb nf no e z r => g.nx t _ H' F' sF ?_ (hW.mono sF)⟩
  show EnvOk v.K B F' H' _ ((ρs t.2).set i (some (.ow (ea t.1))))
  rw [hq]
  exact hE'.setOw (lenσ I hN') nf ⟨xs, e, z, r⟩ nb no
theorem s1_retE {f : α × S → β} (s : S) (h : Ee v .V ρs e ea m) (hf : ∀ t, G.enc (f t) = ea t.1) (hl : ∀ t, Le (ρs t.2) (G.re (f t))) : S1 v G C (ρs s) (.Return (some e) pos) ((m s).cb fun t => .ok (f t)) := fun X hX => (ps_ret (h X hX)).weak fun D' σ H ⟨B, F, hE, hW, g⟩ =>
  wantSE (μ := .V) hE hW fun t _ hW u H' F' sF hE' r => hW u σ H' F' sF (hE'.le (hl t)) (by rw [hf]; exact r)
theorem s1_ifE {c : Expr} {A A' : List Stmt} {mc : S → R (Bool × S)} {m1 m2 : S → R β} (s : S) (hc : Te v ρs c mc) (h1 : ∀ s, Ss v G C (ρs s) A (m1 s)) (h2 : ∀ s, Ss v G C (ρs s) A' (m2 s)) :
    S1 v G C (ρs s) (.If c A A' pos) ((mc s).cb fun t => if t.1 then m1 t.2 else m2 t.2) := fun X hX =>
  (ps_if (t := fun D' σ H => ∃ s, rdS v G C (ρs s) (m1 s) D' σ H) (u := fun D' σ H => ∃ s, rdS v G C (ρs s) (m2 s) D' σ H) (hc X hX) ⟨fun pins st σ H D' I ⟨s, q⟩ => (h1 s X hX).run pins st σ H D' I q⟩ ⟨fun pins st σ H D' I ⟨s, q⟩ => (h2 s X hX).run pins st σ H D' I q⟩).weak fun D' σ H ⟨B, F, hE, hW, g⟩ => by
    refine ⟨B, F, s, hE, ?_⟩
    cases hm : mc s with
    | ok t =>
      obtain ⟨c, s'⟩ := t
      rw [hm, R.cb_ok] at hW
      intro H' F' sF hE'
      cases c with
      | true => exact ⟨s', B, F', hE', hW.mono sF, g.mono sF⟩
      | false => exact ⟨s', B, F', hE', hW.mono sF, g.mono sF⟩
    | exc x => rw [hm] at hW; exact hW
    | bad => rw [hm] at hW; exact hW
theorem s1_exprE {k : α × S → R β} (s : S) (h : Ee v .V ρs e ea m) (hs : ∀ env, swapsWith e none pos.line env = pure false := by intro _; rfl) : S1 v G (C.to (fun t => ρs t.2) k) (ρs s) (.Expr e pos) ((m s).cb k) := fun X hX =>
  (ps_expr (h X hX) (hs _)).weak fun D' σ H ⟨B, F, hE, hW, g⟩ => wantSE (μ := .V) hE hW fun t _ hW u H' F' sF hE' _ => g.nx t _ H' F' sF hE' (hW.mono sF)
/-- x[b] = e, e changing things -/
theorem s1_setItemE {x : Str} {q1 q2 : Pos} {b : Expr} {xs : List α} {mi : S → R Int} {k : List α × S → R β} {re : List D → Sl} (i : Nat) (s : S) (w : ∀ s, Owns (ρs s) i (xs.map ea) re) (h : Ee v .V ρs e ea m) (h2 : ∀ s, Sx v .V (ρs s) b eI (mi s)) (hN : v.N[i]? = some x := by rfl) (hv : Vis v.sc x := by first | exact Or.inl rfl | exact Or.inr (Or.inl rfl) | exact Or.inr (Or.inr rfl))
    (hd : (x == ("__debug__" : Str)) = false := by decide) (hcd : (x == ("__classdict__" : Str)) = false := by decide)
    (ha : ∀ env u, assign (.Subscript (.Name x q1) b q2) env u = (do
      let o ← holding [u] (eval (.Name x q1) env)
      let j ← holding [u, o] (eval b env)
      standAt q2
      holding [u, o, j] (setItem o j u)
      release [u, o, j] []) := by intro _ _; rfl)
    (hs : ∀ env, swapsWithSole [.Subscript (.Name x q1) b q2] e pos.line env = pure false := by intro _; rfl) (hw : ∀ env, swappedStores [.Subscript (.Name x q1) b q2] e env = pure none := by intro _; rfl)
    (h1 : ∀ env, (assignEach [.Subscript (.Name x q1) b q2] env).map (·.2) = [assign (.Subscript (.Name x q1) b q2) env] := by intro _; rfl) :
    S1 v G (C.to (fun t => (ρs t.2).set i (some (re (t.1.map ea)))) k) (ρs s) (.Assign [.Subscript (.Name x q1) b q2] e pos) ((m s).cb fun t => ((mi t.2).bind fun j => setR xs j t.1).cb fun ys => k (ys, t.2)) := fun X hX =>
  (ps_asg (h X hX) (pg_sub (hX.pv i hN hv hd hcd) (to := tVar i) (ti := fun σ H Q => ∃ s, rd v .V (ρs s) eI (mi s) σ H Q) ⟨fun pins st σ H Q I ⟨s, q⟩ => (h2 s X hX).run pins st σ H Q I q⟩ set_list (ha _)) (hs _) (hw _) (h1 _)).weak fun D' σ H ⟨B, F, hE, hW, g⟩ => by
    refine wantSE (μ := .V) hE hW fun t _ hW u H1 F1 sF hE1 r1 => ?_
    obtain ⟨q, us, e1, nf, hq, z, r, _⟩ := hE1.lst (w t.2)
    refine ⟨.ref q, e1, t.2, B, F1, hE1, ?_⟩
    cases hm : mi t.2 with
    | ok j =>
      rw [hm, R.bind_ok] at hW
      intro w2 H2 F2 s2 r2
      cases r2
      obtain ⟨q', us', e1', nf', hq', z', r', go⟩ := (hE1.step s2).lst (w t.2)
      rw [e1] at e1'
      cases e1'
      have hlen := r'.length
      rw [List.length_map] at hlen
      unfold setR at hW
      split at hW
      · rename_i jj hj
        rw [R.cb_ok] at hW
        refine ⟨q, us', j, jj, rfl, rfl, hq', by rw [hlen]; exact hj, ?_⟩
        refine g.nx (xs.set jj t.1, t.2) _ _ F2 (sF.trans s2.fr) ?_ ((hW.mono sF).mono s2.fr)
        refine go (us'.set jj u) _ (by rw [List.length_set]; exact z') ?_
        rw [List.map_set]
        exact r'.set (r1.mono s2.fr) jj
      · exact hW.elim
    | exc x => rw [hm] at hW; exact hW.elim
    | bad => rw [hm] at hW; exact hW.elim
/-- x, y = (e1, e2): two names of the def -/
theorem s1_parE {x y : Str} {e1 e2 : Expr} {px py pt : Pos} {kt k2 : Nat} {pt2 : Pos} {f1 : α → D} {f2 : γ → D} {m : S → R ((α × γ × Unit) × S)} {k : (α × γ × Unit) × S → R β} (i j : Nat) (s : S) (hij : i ≠ j) (h : Ae v ρs [e1, e2] (fun q => [f1 q.1, f2 q.2.1]) m)
    (hNi : v.N[i]? = some x := by rfl) (hNj : v.N[j]? = some y := by rfl) (hx : v.sc.names.lookup x = some .local := by rfl) (hy : v.sc.names.lookup y = some .local := by rfl)
    (hw : ∀ env, env.scope = v.sc → swappedStores [.Tuple [.Name x px, .Name y py] kt pt] (.Tuple [e1, e2] k2 pt2) env = pure (some [x, y]))
    (hs : ∀ env, swapsWithSole [.Tuple [.Name x px, .Name y py] kt pt] (.Tuple [e1, e2] k2 pt2) pos.line env = pure false := by intro _; rfl) :
    S1 v G (C.to (fun t => ((ρs t.2).set i (some (.sh (f1 t.1.1)))).set j (some (.sh (f2 t.1.2.1)))) k) (ρs s) (.Assign [.Tuple [.Name x px, .Name y py] kt pt] (.Tuple [e1, e2] k2 pt2) pos) ((m s).cb k) := fun X hX => by
  have hNi' : X.N[i]? = some x := by rw [hX.hN]; exact hNi
  have hNj' : X.N[j]? = some y := by rw [hX.hN]; exact hNj
  have h1 := ps_par (pos := pos) (px := px) (py := py) (kt := kt) (pt := pt) (k2 := k2) (pt2 := pt2) hX.calm hX.nd hNi' hNj' hij (by rw [hX.hsc]; exact hx) (by rw [hX.hsc]; exact hy) (h X hX) (hw _ hX.hsc) (hs _)
  refine ⟨fun pins st σ H D' I ⟨B, F, hE, hW, g⟩ => h1.run pins st σ H D' I ?_⟩
  refine ⟨B, F, s, hE, ?_⟩
  cases hm : m s with
  | ok t =>
    rw [hm, R.cb_ok] at hW
    intro us H' F' sF hE' r
    cases r with
    | cons r1 r =>
      cases r with
      | cons r2 r =>
        cases r
        refine ⟨_, _, rfl, g.nx t _ H' F' sF ?_ (hW.mono sF)⟩
        exact (hE'.setSh (lenσ I hNi') r1).setSh (by rw [List.length_set]; exact lenσ I hNj') r2
  | exc x => rw [hm] at hW; exact hW.elim
  | bad => rw [hm] at hW; exact hW.elim
/-- .. that change nothing -/
theorem ae_pure {es : List Expr} {enc : α → List D} {m : S → R α} (h : ∀ s, Sar v (ρs s) es enc (m s)) : Ae v ρs es enc fun s => (m s).bind fun a => .ok (a, s) := fun X hX =>
  (⟨fun pos pins st σ H Q I ⟨s, q⟩ => (h s X hX).run pos pins st σ H Q I q⟩ : PA X es (fun σ H Q => ∃ s, rdA v (ρs s) ((m s).map enc) σ H Q)).weak fun σ H Q ⟨B, F, s, hE, hW⟩ => by
    refine ⟨s, B, F, hE, ?_⟩
    dsimp only at hW
    cases hm : m s with
    | ok a =>
      rw [hm] at hW
      exact fun us H' F' t r => hW us H' F' t.fr (hE.step t) r
    | exc x => rw [hm] at hW; exact hW.elim
    | bad => rw [hm] at hW; exact hW.elim

/-! ## defs that change their first argument -/
def rhoI (N : List Str) (q : Addr) (d : D) (ds : List D) : Rho := some (.io q d) :: (ds.map (fun d => some (.sh d)) ++ List.replicate (N.length - (ds.length + 1)) none)
abbrev iRt (eb : β → D) (q : Addr) (es : S → D) : Rt (β × S) := ⟨fun t => eb t.1, fun t => [some (.io q (es t.2))], []⟩
theorem start_okI {K : PySem.W.Frag} {N : List Str} {F H : Hp} {q : Addr} {us : List V} {ds : List D} {d : D} (s : Same F H) (nf : F q = none) (o : OwnAt F H q d) (r : RpA F us ds) :
    EnvOk K ⟨fun b => if b = q then none else H b, F⟩ F H (L2.start N (.ref q :: us)) (rhoI N q d ds) := by
  have own0 : ∀ {i : Nat}, owned (rhoI N q d ds) i → i = 0 := fun {i} ⟨sl, e, o⟩ => by
    cases i with
    | zero => rfl
    | succ i =>
      unfold rhoI at e
      rw [List.getElem?_cons_succ] at e
      by_cases hi : i < ds.length
      · rw [List.getElem?_append_left (by simpa using hi), List.getElem?_map, List.getElem?_eq_getElem hi] at e
        cases e; cases o
      · rw [List.getElem?_append_right (by simpa using hi), List.getElem?_replicate] at e
        split at e <;> cases e
  refine ⟨s, fun b u e => ?_, .refl F, fun _ _ _ h => h, fun i sl e => ?_, fun i j a ne o1 o2 => absurd ((own0 o1).trans (own0 o2).symm) ne, fun i a o1 e1 => ?_⟩
  · dsimp only at e
    split at e
    · cases e
    · exact e
  · cases i with
    | zero =>
      unfold rhoI at e
      cases e
      exact ⟨.ref q, rfl, rfl, nf, o⟩
    | succ i =>
      have hl := r.length
      unfold rhoI at e
      rw [List.getElem?_cons_succ] at e
      by_cases hi : i < ds.length
      · rw [List.getElem?_append_left (by simpa using hi), List.getElem?_map, List.getElem?_eq_getElem hi] at e
        cases e
        obtain ⟨u, h1, h2⟩ := r.get (List.getElem?_eq_getElem hi)
        refine ⟨u, ?_, h2⟩
        unfold L2.start
        rw [List.map_cons, List.cons_append, List.getElem?_cons_succ, List.getElem?_append_left (by rw [List.length_map]; omega), List.getElem?_map, h1]
        rfl
      · rw [List.getElem?_append_right (by simpa using hi), List.getElem?_replicate] at e
        split at e <;> cases e
  · have : i = 0 := own0 o1
    subst this
    have e1 : some (some (V.ref q)) = some (some (V.ref a)) := e1
    cases e1
    show (if q = q then none else H q) = none
    rw [if_pos rfl]
theorem df_io {Gp : Pg} {x : Str} {st : Stmt} {N ps : List Str} {k : Nat} {enc : α → List D} {es : S → D} {f : α → S → R (β × S)} {fa : Addr} {fd : FuncData} (Fn : Fun Gp.K x x st fa fd) (Sc : FnScope N ps (defScope st)) (hm : Gp.mg x = some (.ref fa))
    (hb : Binds Gp.K fd ps []) (hl : ∀ a, (enc a).length + 1 = ps.length) (body : ∀ a s q W, Ss (Gp.vw N (defScope st) k W) (iRt eb q es) (endK none) (rhoI N q (es s) (enc a)) (defBody st) (f a s)) : Df Gp (k + 1) x ps (spI es enc eb f) := by
  refine ⟨fa, fd, fn_ofG Fn Sc (fun vs H Q E ⟨a, s, F, q, us, e, _, _, _, r, _⟩ => by rw [e, List.length_cons, r.length, hl]) (fun cdv A out st' H vs Q E hr hgd ⟨a, s, F, q, us, e, sF, nf, o, r, hq⟩ => ?_), hm, Fn.kp, hb⟩
  subst e
  refine ⟨_, body a s q _ _ (cx_has Sc hr hgd), ⟨fun b => if b = q then none else H b, F⟩, F, start_okI sF nf o r, ?_, ?_, fun t => t.elim, fun t => t.elim⟩
  · cases hf : f a s with
    | ok t =>
      rw [hf] at hq
      intro u σ' H' F' sf hE rp
      obtain ⟨w, w1, w2, w3, w4⟩ := hE.slot 0 _ rfl
      refine hq u H' F' ⟨sf, hE.sub, fun b ob eb hne => hE.prot b ob (by show (if b = q then none else H b) = some ob; rw [if_neg hne]; exact eb), fun b hb' => ?_⟩ w4 rp
      by_cases hbq : b = q
      · subst hbq; exact absurd w3 hb'
      · cases hHb : H b with
        | none => exact .inr rfl
        | some ob => exact .inl (hE.nof b ob (by show (if b = q then none else H b) = some ob; rw [if_neg hbq]; exact hHb) hb')
    | exc y => rw [hf] at hq; exact hq.elim
    | bad => rw [hf] at hq; exact hq.elim
  · exact fun t σ' H' F' sf hE hW => hW.elim
end Cw
namespace L2
open PySem PySem.Spec PyProof.Rows
/-! ## try: several clauses, each with a name -/
abbrev Clause := Value × Nat × (Addr → Value → Option Addr → TS)
/-- the ends behind a clause's suite: its name (slot i) has gone -/
abbrev Ends.gone (D' : Ends) (i : Nat) : Ends := { nx := fun σ H => D'.nx (σ.set i none) H, rt := D'.rt, bk := fun σ H => D'.bk (σ.set i none) H, ct := fun σ H => D'.ct (σ.set i none) H }
def wMA (K : PySem.W.Frag) (Wout : WX) (D' : Ends) : List Clause → WX
  | [] => Wout
  | q :: r => fun cls d σ H => ∃ b, PySem.W.exmOne K cls q.1 = some b ∧ (b = true → ∀ a, H a = none → q.2.1 < σ.length → q.2.2 a cls d (D'.gone q.2.1) (σ.set q.2.1 (some (.ref a))) H) ∧ (b = false → wMA K Wout D' r cls d σ H)
inductive HdsA (X : Cx) : List ExceptHandler → List Clause → Prop
  | nil : HdsA X [] []
  | cons {x n : Str} {c : Value} {i : Nat} {ts : Addr → Value → Option Addr → TS} {st : Stmt} {sts : List Stmt} {np hp : Pos} {hs : List ExceptHandler} {l : List Clause} (hN : X.N[i]? = some n) (hln : X.env.kindOf n = some .local) (hc : Names X x c)
      (hsu : ∀ (a : Addr) (oe : Obj) (cls : Value) (d : Option Addr) (pn : List (Addr × Obj)), Zc cls d oe → (∃ vs, oe.data = .fields vs) → PSs (X.suite a ((a, oe) :: pn)) (st :: sts) (ts a cls d)) (r : HdsA X hs l) :
      HdsA X (.ExceptHandler (some (.Name x np)) (some n) (st :: sts) hp :: hs) ((c, i, ts) :: l)
section
variable {X : Cx} {body : List Stmt} {hd0 : ExceptHandler} {hdr : List ExceptHandler} {l : List Clause} {pos : Pos} {tb : WX → TS} {Wout : WX}
theorem ps_tryA (hst : X.stack = X.env :: X.outer) (hfr : X.env.frame = some X.env.locals) (nd : X.N.Nodup) (tk : Takes X Wout)
    (hb : ∀ (W : WX) (pn : List (Addr × Obj)) (xe : Value → Shared → Prop), Takes (X.tr pn xe) W → PassesOwn (model X.prog X.w) X.A X.env xe → PSs (X.tr pn xe) body (tb W)) (hh : HdsA X (hd0 :: hdr) l) :
    PS X (.Try body (hd0 :: hdr) [] [] pos) (fun D' σ H => tb (wMA X.K Wout D' l) D' σ H) := by
  refine ⟨fun pins s σ H D' I hq => ?_⟩
  have ok := I.ok
  have hA : X.A.frames = some (X.env :: X.outer) := ok.frames.trans (by rw [hst])
  refine wpAny_Try_except (wpAny_mono ((hb (wMA X.K Wout D' l) (X.pn ++ pins) _ (fun u s' xx => ?_) PassesOwn.looking).run [] s σ H D' (I.toTry _) hq) (fun f s1 hsp => ?_) (fun e s1 he => he))
  · obtain ⟨a, B, sI, pins', σ', H', cls, d, rfl, J', nb, up, sky, na, os, ag, w⟩ := xx
    have J : Inv X pins σ' H' sI := J'.ofTry ok
    have sky2 : Sky B (X.env :: X.outer) a (Zc cls d) X.env.locals s'.heap := hst ▸ sky
    refine Sky.land Zc.steady hA hfr sky2 fun h3 fl3 up3 => ?_
    have up13 := up.trans up3
    have J3 : Inv X pins σ' H' { s' with heap := h3 } := J.landed nb fl3.1 up13 os ag
    obtain ⟨oe3, vs3, he3, hz3, hd3⟩ := fl3.there
    have nfr : a ∉ frs (X.env :: X.outer) := fun hm => by
      obtain ⟨_, o', e', hnf⟩ := fl3.2.2.1.mem hm
      rw [he3] at e'; cases e'
      exact hnf _ hd3
    have nL : a ≠ X.env.locals := fun z => nfr (List.mem_filterMap.mpr ⟨X.env, List.mem_cons_self, hfr.trans (by rw [z])⟩)
    have nF : a ∉ X.fs := fun hm => let ⟨e, he, q⟩ := List.mem_filterMap.mp hm
      nfr (List.mem_filterMap.mpr ⟨e, List.mem_cons_of_mem _ he, q⟩)
    have S3 := J3.suite he3 hd3 na nL nF
    have walk : ∀ {hds : List ExceptHandler} {l' : List Clause}, HdsA X hds l' → wMA X.K Wout D' l' cls d σ' H' → wpAny (model X.prog X.w) X.A (handleBy (.ref a) X.env hds) (SP X pins D') X.xe { s' with heap := h3 } := by
      intro hds l' hk
      induction hk with
      | nil =>
        intro w
        refine wpAny_handleBy_nil ?_
        obtain ⟨k1, k2, k3, oe, vs, T, oT, ts', he, hz, hd, h1, hr⟩ := id fl3
        unfold PySem.passOn
        refine wpAny_bind (wpAny_field he hd h1 ?_)
        have nn : ¬ ((Value.ref T == Value.none) = true) := by simp
        rw [if_neg nn]
        have fin : wpAny (model X.prog X.w) X.A (setFlight (.ref a) X.env.frame) (fun _ s4 => wpAny (model X.prog X.w) X.A (throw (.ref a) : Sem Flow) (SP X pins D') X.xe s4) X.xe { s' with heap := h3 } := by
          rw [hfr]
          exact HandSPX.setFlight_upZ fl3 fun h4 hh4 up4 => wpAny_throw (tk _ _ ⟨a, B, sI, pins, σ', H', cls, d, rfl, J, nb, up13.trans up4, .inr (.inr (hst ▸ hh4)), na, os, ag, w⟩)
        first
          | exact wpAny_bind (wpAny_pure (wpAny_bind fin))
          | exact wpAny_bind fin
      | @cons x n c i ts st sts np hp hs l2 hN hln hc hsu r ih =>
        intro w
        obtain ⟨b, hb1, hyes, hno⟩ := w
        refine wpAny_handleBy_cons (codeAny_handlers_test ?_) nofun
        have LT : PySem.W.Looks (model X.prog X.w) h3 (typeOf (.ref a)) cls := fun A Q E s k q => wpAny_typeOf_ref (k _ _ he3) (hz3.1.symm ▸ q)
        have LM := PySem.W.exm_one (M := model X.prog X.w) J3.kIn LT hb1
        have test : ∀ {Q E : Value → Shared → Prop}, Q c { s' with heap := h3 } → wpAny (model X.prog X.w) (X.A.mark (some (.ref a))) (eval (.Name x np) X.env) Q E { s' with heap := h3 } := fun {Q E} q => by
          rcases hc with ⟨hg, hdb, hm | ⟨hm, hv, hnn⟩⟩
          · exact ld_glob (X := X.suite a ((a, oe3) :: (X.pn ++ pins))) S3 hg hm q hdb
          · exact ld_blt (X := X.suite a ((a, oe3) :: (X.pn ++ pins))) S3 hg hm hv q hnn hdb
        refine test (LM.here ?_)
        match b, hyes, hno with
        | true, hyes, _ =>
          refine codeAny_handlers_suite_as (HandSPX.lands_againZ fl3 fun h4 fl4 up4 => ?_)
          have J4 : Inv X pins σ' H' { s' with heap := h4 } := J.landed nb fl4.1 (up13.trans up4) os ag
          obtain ⟨oe4, vs4, he4, hz4, hd4⟩ := fl4.there
          have S4 := J4.suite he4 hd4 na nL nF
          refine store_ok (X := X.suite a ((a, oe4) :: (X.pn ++ pins))) (v := .ref a) S4 nd hN (.inl hln) rfl (fun s5 S5 => ?_) (.inr hln)
          refine wpAny_mono ((hsu a oe4 cls d (X.pn ++ pins) hz4 ⟨_, hd4⟩).run [] s5 _ H' _ S5 (hyes rfl a na (by rw [J.len]; exact (List.getElem?_eq_some_iff.mp hN).1))) (fun f s6 hsp => ?_) fun _ _ z => z.elim
          have fin : ∀ {σ6 : L2.St} {H6 : Hp} {Q : Shared → Prop}, Inv (X.suite a ((a, oe4) :: (X.pn ++ pins))) [] σ6 H6 s6 → (∀ s7, Inv X pins (σ6.set i none) H6 s7 → Q s7) →
              wpAny (model X.prog X.w) X.A (do bindName X.env n .none; unbindBehindTheSuite X.env n hp) (fun _ s7 => Q s7) X.xe s6 := fun S6 hq => gone_ok (S6.unsuite ok) nd hN hln hq
          match f, hsp with
          | .next, ⟨σ6, H6, S6, q6⟩ => exact fin S6 fun s7 J7 => ⟨_, _, J7, q6⟩
          | .brk, ⟨σ6, H6, S6, q6⟩ => exact fin S6 fun s7 J7 => ⟨_, _, J7, q6⟩
          | .cont, ⟨σ6, H6, S6, q6⟩ => exact fin S6 fun s7 J7 => ⟨_, _, J7, q6⟩
          | .ret u, ⟨v6, σ6, H6, S6, r6, q6⟩ => exact fin S6 fun s7 J7 => ⟨_, _, _, J7, r6, q6⟩
        | false, _, hno => exact ih (hno rfl)
    exact walk hh w
  · match f, hsp with
    | .next, ⟨σ', H', J', q⟩ => exact wpAny_execs_nil ⟨σ', H', J'.ofTry ok, q⟩
    | .brk, ⟨σ', H', J', q⟩ => exact ⟨σ', H', J'.ofTry ok, q⟩
    | .cont, ⟨σ', H', J', q⟩ => exact ⟨σ', H', J'.ofTry ok, q⟩
    | .ret u, ⟨w, σ', H', J', r, q⟩ => exact ⟨w, σ', H', J'.ofTry ok, r, q⟩
end
end L2
namespace Cw
open PySem PySem.Spec PyProof.Rows L2
variable {α β γ δ ε ζ η S : Type} {v : Vw} {ρ : Rho} {ρs : S → Rho} {μ : Md} {ea : α → D} {eb : β → D} {ec : γ → D} {a b c : Expr} {ma : R α} {mb : R β} {mc : R γ} {p pos : Pos}

/-! ### casts -/
theorem Tt.cast {e : Expr} {m m' : R Bool} (h : Tt v ρ e m) (q : m = m') : Tt v ρ e m' := q ▸ h
theorem Tw.cast {e : Expr} {m m' : R Bool} (h : Tw v ρ e m) (q : m = m') : Tw v ρ e m' := q ▸ h
theorem So.cast {e : Option Expr} {m m' : R (Option Int)} (h : So v ρ e m) (q : m = m') : So v ρ e m' := q ▸ h
theorem Si.cast {tg e : Expr} {st : Bool} {m m' : R (List α)} (h : Si v st ρ tg e ea m) (q : m = m') : Si v st ρ tg e ea m' := q ▸ h
theorem Ee.cast {e : Expr} {m m' : S → R (α × S)} (h : Ee v μ ρs e ea m) (q : ∀ s, m s = m' s) : Ee v μ ρs e ea m' := (funext q : m = m') ▸ h
theorem Te.cast {e : Expr} {m m' : S → R (Bool × S)} (h : Te v ρs e m) (q : ∀ s, m s = m' s) : Te v ρs e m' := (funext q : m = m') ▸ h
theorem Sar.cast {es : List Expr} {enc : α → List D} {m m' : R α} (h : Sar v ρ es enc m) (q : m = m') : Sar v ρ es enc m' := q ▸ h

/-! ### truth of data -/
def truD : D → R Bool
  | .none => .ok false
  | .bool b => .ok b
  | .int i => .ok (i != 0)
  | .str x => if x.length ≤ sizeLine then .ok ((x.length : Int) != 0) else .bad
  | .list ds => .ok (!ds.isEmpty)
  | .tuple ds => .ok (!ds.isEmpty)
  | _ => .bad
theorem truD_calm (d : D) (x : Ex) : truD d ≠ .exc x := by
  cases d with
  | str y => show (if y.length ≤ sizeLine then R.ok ((y.length : Int) != 0) else .bad) ≠ _; split <;> nofun
  | _ => nofun
theorem RpA.isEmpty {F : Hp} {vs : List V} {ds : List D} (h : RpA F vs ds) : vs.isEmpty = ds.isEmpty := by cases h <;> rfl
theorem nw_tru {K : PySem.W.Frag} {F H : Hp} {x : V} {d : D} {k : Bool} (s : Same F H) (h : Nw F H x d) (e : truD d = .ok k) : TruV K x H k := by
  cases d with
  | none => cases e; rw [nwNon h]; rfl
  | bool b => cases e; rw [nwBl h]; rfl
  | int i => cases e; rw [nwInt h]; rfl
  | str y =>
    rw [nwStr h]
    unfold truD at e
    simp only at e
    split at e
    · rename_i hy; cases e; exact ⟨hy, rfl⟩
    · cases e
  | list ds =>
    cases e
    obtain ⟨p, xs, rfl, hH, r, z⟩ := nwLst s h
    exact .inl ⟨xs, .of hH, by rw [r.isEmpty]⟩
  | tuple ds =>
    cases e
    obtain ⟨p, xs, rfl, hH, _, r, z⟩ := nwTup s h
    exact .inr (.inl ⟨xs, .of hH, by rw [r.isEmpty]⟩)
  | _ => cases e
/-- if e: -/
theorem tt_truth (ha : Sx v .P ρ a ea ma) (he : ∀ env whole, isTrue a env whole = (do let v ← whole; standAt a.pos; holding [v] (truthy v)) := by intro _ _; rfl) :
    Tt v ρ a (ma.bind fun x => truD (ea x)) := fun X hX => (pt_truth (ha X hX) (he _)).weak fun σ H Q ⟨B, F, hE, hW⟩ => by
  refine ⟨B, F, hE, hW.ofWant fun x _ hW u H' F' s n => ?_⟩
  generalize hk : truD (ea x) = mk at hW
  cases mk with
  | ok k => exact ⟨k, nw_tru s.sub n hk, hW H' F' s⟩
  | exc y => exact absurd hk (truD_calm _ y)
  | bad => exact hW.elim
theorem tt_truL {e : α → D} {m : R (List α)} (ha : Sx v .P ρ a (eL e) m) (he : ∀ env whole, isTrue a env whole = (do let v ← whole; standAt a.pos; holding [v] (truthy v)) := by intro _ _; rfl) :
    Tt v ρ a (m.bind fun x => .ok (!x.isEmpty)) := (tt_truth ha he).cast (by cases m with
      | ok x => cases x <;> rfl
      | _ => rfl)
theorem tt_truT {e : α → D} {m : R (List α)} (ha : Sx v .P ρ a (eT e) m) (he : ∀ env whole, isTrue a env whole = (do let v ← whole; standAt a.pos; holding [v] (truthy v)) := by intro _ _; rfl) :
    Tt v ρ a (m.bind fun x => .ok (!x.isEmpty)) := (tt_truth ha he).cast (by cases m with
      | ok x => cases x <;> rfl
      | _ => rfl)
theorem tt_truI {m : R Int} (ha : Sx v .P ρ a eI m) (he : ∀ env whole, isTrue a env whole = (do let v ← whole; standAt a.pos; holding [v] (truthy v)) := by intro _ _; rfl) :
    Tt v ρ a (m.bind fun x => .ok (x != 0)) := (tt_truth ha he).cast (by cases m <;> rfl)
/-- x or y, by truth -/
theorem sx_orT {rest : List Expr} {m n : R D} (h : Sx v .V ρ a eD m) (h' : Sx v .V ρ (.BoolOp .Or (b :: rest) pos) eD n) :
    Sx v .V ρ (.BoolOp .Or (a :: b :: rest) pos) eD (m.bind fun x => (truD x).bind fun t => if t then .ok x else n) := fun X hX =>
  (pe_orT (h X hX) (h' X hX)).weak fun σ H Q ⟨B, F, hE, hW⟩ => ⟨B, F, hE, hW.bind fun d _ hW u H' F' s r => by
    generalize hk : truD d = mk at hW
    cases mk with
    | ok k =>
      refine ⟨k, nw_tru s.sub (.inl r) hk, ?_⟩
      cases k with
      | true => exact Po.step (μ := .V) s hW _ H' F' (.refl s.sub) r
      | false => exact ⟨B, F', hE.step s, hW.step s⟩
    | exc y => exact absurd hk (truD_calm _ y)
    | bad => exact hW.elim⟩
theorem sx_oneV {op} (h : Sx v μ ρ a ea ma) : Sx v μ ρ (.BoolOp op [a] pos) ea ma := fun X hX => pe_one (h X hX)

/-! ### a < b < c -/
theorem three {g : α → β → R Bool} {g' : β → γ → R Bool} {σ : L2.St} {F H : Hp} {B : Bs} {Q : VK} (hx : ∀ a b x, g a b ≠ .exc x) (hx' : ∀ a b x, g' a b ≠ .exc x) (hE : EnvOk v.K B F H σ ρ)
    (hW : Want v .V σ F H eB (ma.bind fun x => mb.bind fun y => (g x y).bind fun k => if k then mc.bind fun z => g' y z else .ok false) Q) :
    tChain (fun x y H Q => ∃ F a b, Same F H ∧ Nw F H x (ea a) ∧ Nw F H y (eb b) ∧ ∃ c, g a b = .ok c ∧ Po .V F H (eB c) Q) (fun x y H Q => ∃ F a b, Same F H ∧ Nw F H x (eb a) ∧ Nw F H y (ec b) ∧ ∃ c, g' a b = .ok c ∧ Po .V F H (eB c) Q)
      (rd v .P ρ ea ma) (rd v .P ρ eb mb) (rd v .P ρ ec mc) σ H Q := by
  refine ⟨B, F, hE, hW.bind fun a _ hW => ?_⟩
  intro u H1 F1 s1 n1
  refine ⟨B, F1, hE.step s1, (hW.step s1).bind fun b _ hW => ?_⟩
  intro w H2 F2 s2 n2
  replace hW := hW.step s2
  generalize hk : g a b = mk at hW
  cases mk with
  | ok k =>
    refine ⟨F2, a, b, s2.sub, n1.step s2, n2, k, hk, ?_⟩
    intro z H3 F3 s3 r3
    cases r3
    refine ⟨k, rfl, ?_⟩
    cases k with
    | false => exact Po.step (μ := .V) s3 hW _ H3 F3 (.refl s3.sub) (.bl false)
    | true =>
      have hW : Want v .V σ F3 H3 eB (mc.bind fun z => g' b z) Q := hW.step s3
      refine ⟨B, F3, ((hE.step s1).step s2).step s3, hW.bind fun c _ hW => ?_⟩
      intro y H4 F4 s4 n4
      obtain ⟨k2, e, q⟩ := want_no (hx' b c) hW
      exact ⟨F4, b, c, s4.sub, (n2.step s3).step s4, n4, k2, e, q.step s4⟩
  | exc x => exact absurd hk (hx a b x)
  | bad => exact hW.elim
theorem sx_chain {op op' : CmpOp} {g : α → β → R Bool} {g' : β → γ → R Bool} (o : Op2 v (compareOp op) .V ea eb eB g) (o' : Op2 v (compareOp op') .V eb ec eB g') (ha : Sx v .P ρ a ea ma) (hb : Sx v .P ρ b eb mb) (hc : Sx v .P ρ c ec mc)
    (hm : lastMarks [op, op'] [b, c] = false := by with_unfolding_all rfl) :
    Sx v .V ρ (.Compare a [op, op'] [b, c] pos) eB (ma.bind fun x => mb.bind fun y => (g x y).bind fun k => if k then mc.bind fun z => g' y z else .ok false) := fun X hX =>
  (pe_chain (o.run X hX) (o'.run X hX) (ha X hX) (hb X hX) (hc X hX) hm).weak fun σ H Q ⟨B, F, hE, hW⟩ => three o.calm o'.calm hE hW
theorem tt_chain {op op' : CmpOp} {g : α → β → R Bool} {g' : β → γ → R Bool} (o : Op2 v (compareOp op) .V ea eb eB g) (o' : Op2 v (compareOp op') .V eb ec eB g') (ha : Sx v .P ρ a ea ma) (hb : Sx v .P ρ b eb mb) (hc : Sx v .P ρ c ec mc)
    (hm : lastMarks [op, op'] [b, c] = false := by with_unfolding_all rfl) :
    Tt v ρ (.Compare a [op, op'] [b, c] pos) (ma.bind fun x => mb.bind fun y => (g x y).bind fun k => if k then mc.bind fun z => g' y z else .ok false) := fun X hX =>
  (pt_chain (o.run X hX) (o'.run X hX) (ha X hX) (hb X hX) (hc X hX) hm).weak fun σ H Q ⟨B, F, hE, hW⟩ => by
    refine three o.calm o'.calm hE ?_
    generalize (ma.bind fun x => mb.bind fun y => (g x y).bind fun k => if k then mc.bind fun z => g' y z else .ok false) = m at hW
    cases m with
    | ok b =>
      intro u H' F' s r
      cases r with | bl => exact ⟨b, rfl, hW H' F' s⟩
    | exc x => exact hW
    | bad => exact hW
theorem sx_chainP {op op' : CmpOp} {g : α → β → Bool} {g' : β → γ → Bool} (o : Op2 v (compareOp op) .V ea eb eB fun x y => .ok (g x y)) (o' : Op2 v (compareOp op') .V eb ec eB fun x y => .ok (g' x y)) {x : α} {y : β} {z : γ} (ha : Sx v .P ρ a ea (.ok x)) (hb : Sx v .P ρ b eb (.ok y)) (hc : Sx v .P ρ c ec (.ok z))
    (hm : lastMarks [op, op'] [b, c] = false := by with_unfolding_all rfl) :
    Sx v .V ρ (.Compare a [op, op'] [b, c] pos) eB (.ok (g x y && g' y z)) := (sx_chain o o' ha hb hc hm).cast (by
      show (if g x y then R.ok (g' y z) else .ok false) = _
      cases g x y <;> rfl)
theorem tt_chainP {op op' : CmpOp} {g : α → β → Bool} {g' : β → γ → Bool} (o : Op2 v (compareOp op) .V ea eb eB fun x y => .ok (g x y)) (o' : Op2 v (compareOp op') .V eb ec eB fun x y => .ok (g' x y)) {x : α} {y : β} {z : γ} (ha : Sx v .P ρ a ea (.ok x)) (hb : Sx v .P ρ b eb (.ok y)) (hc : Sx v .P ρ c ec (.ok z))
    (hm : lastMarks [op, op'] [b, c] = false := by with_unfolding_all rfl) :
    Tt v ρ (.Compare a [op, op'] [b, c] pos) (.ok (g x y && g' y z)) := (tt_chain o o' ha hb hc hm).cast (by
      show (if g x y then R.ok (g' y z) else .ok false) = _
      cases g x y <;> rfl)

/-! ### calls of defs, by their number of arguments -/
section calls
variable {k : Nat} {x : Str} {ps : List Str} {e1 e2 e3 e4 e5 e6 : Expr} {α1 α2 α3 α4 α5 α6 : Type} {n1 : α1 → D} {n2 : α2 → D} {n3 : α3 → D} {n4 : α4 → D} {n5 : α5 → D} {n6 : α6 → D} {m1 : R α1} {m2 : R α2} {m3 : R α3} {m4 : R α4} {m5 : R α5} {m6 : R α6}
theorem sx_c1 {f : α1 → R β} (h : Df v.pg k x ps (spP v.cls (fun q : α1 × Unit => [n1 q.1]) eb fun q => f q.1)) (hk : k ≤ v.k) (h1 : Sx v .V ρ e1 n1 m1)
    (hg : v.sc.names.lookup x = some .globalImplicit := by rfl) (hdb : (x == ("__debug__" : Str)) = false := by decide) (s1 : ∀ env, starEach [e1] env = (false, eval e1 env) :: starEach [] env := by intro _; rfl)
    (hpl : ∀ env, (backTo pos (starEach [] env)).any (·.1) = false := by intro _; rfl) : Sx v .V ρ (.Call (.Name x p) [e1] [] pos) eb (m1.bind f) :=
  (sx_callG h hk (sar_cons h1 sar_nil s1) hg hdb s1 hpl).cast (by cases m1 <;> rfl)
theorem sx_c2 {f : α1 → α2 → R β} (h : Df v.pg k x ps (spP v.cls (fun q : α1 × α2 × Unit => [n1 q.1, n2 q.2.1]) eb fun q => f q.1 q.2.1)) (hk : k ≤ v.k) (h1 : Sx v .V ρ e1 n1 m1) (h2 : Sx v .V ρ e2 n2 m2)
    (hg : v.sc.names.lookup x = some .globalImplicit := by rfl) (hdb : (x == ("__debug__" : Str)) = false := by decide) (s1 : ∀ env, starEach [e1, e2] env = (false, eval e1 env) :: starEach [e2] env := by intro _; rfl)
    (s2 : ∀ env, starEach [e2] env = (false, eval e2 env) :: starEach [] env := by intro _; rfl) (hpl : ∀ env, (backTo pos (starEach [e2] env)).any (·.1) = false := by intro _; rfl) :
    Sx v .V ρ (.Call (.Name x p) [e1, e2] [] pos) eb (m1.bind fun a => m2.bind fun b => f a b) :=
  (sx_callG h hk (sar_cons h1 (sar_cons h2 sar_nil s2) s1) hg hdb s1 hpl).cast (by cases m1 <;> try rfl
                                                                                   cases m2 <;> rfl)
theorem sx_c3 {f : α1 → α2 → α3 → R β} (h : Df v.pg k x ps (spP v.cls (fun q : α1 × α2 × α3 × Unit => [n1 q.1, n2 q.2.1, n3 q.2.2.1]) eb fun q => f q.1 q.2.1 q.2.2.1)) (hk : k ≤ v.k) (h1 : Sx v .V ρ e1 n1 m1) (h2 : Sx v .V ρ e2 n2 m2) (h3 : Sx v .V ρ e3 n3 m3)
    (hg : v.sc.names.lookup x = some .globalImplicit := by rfl) (hdb : (x == ("__debug__" : Str)) = false := by decide) (s1 : ∀ env, starEach [e1, e2, e3] env = (false, eval e1 env) :: starEach [e2, e3] env := by intro _; rfl)
    (s2 : ∀ env, starEach [e2, e3] env = (false, eval e2 env) :: starEach [e3] env := by intro _; rfl) (s3 : ∀ env, starEach [e3] env = (false, eval e3 env) :: starEach [] env := by intro _; rfl) (hpl : ∀ env, (backTo pos (starEach [e2, e3] env)).any (·.1) = false := by intro _; rfl) :
    Sx v .V ρ (.Call (.Name x p) [e1, e2, e3] [] pos) eb (m1.bind fun a => m2.bind fun b => m3.bind fun c => f a b c) :=
  (sx_callG h hk (sar_cons h1 (sar_cons h2 (sar_cons h3 sar_nil s3) s2) s1) hg hdb s1 hpl).cast (by cases m1 <;> try rfl
                                                                                                    cases m2 <;> try rfl
                                                                                                    cases m3 <;> rfl)
theorem sx_c4 {f : α1 → α2 → α3 → α4 → R β} (h : Df v.pg k x ps (spP v.cls (fun q : α1 × α2 × α3 × α4 × Unit => [n1 q.1, n2 q.2.1, n3 q.2.2.1, n4 q.2.2.2.1]) eb fun q => f q.1 q.2.1 q.2.2.1 q.2.2.2.1)) (hk : k ≤ v.k) (h1 : Sx v .V ρ e1 n1 m1) (h2 : Sx v .V ρ e2 n2 m2) (h3 : Sx v .V ρ e3 n3 m3) (h4 : Sx v .V ρ e4 n4 m4)
    (hg : v.sc.names.lookup x = some .globalImplicit := by rfl) (hdb : (x == ("__debug__" : Str)) = false := by decide) (s1 : ∀ env, starEach [e1, e2, e3, e4] env = (false, eval e1 env) :: starEach [e2, e3, e4] env := by intro _; rfl)
    (s2 : ∀ env, starEach [e2, e3, e4] env = (false, eval e2 env) :: starEach [e3, e4] env := by intro _; rfl) (s3 : ∀ env, starEach [e3, e4] env = (false, eval e3 env) :: starEach [e4] env := by intro _; rfl) (s4 : ∀ env, starEach [e4] env = (false, eval e4 env) :: starEach [] env := by intro _; rfl)
    (hpl : ∀ env, (backTo pos (starEach [e2, e3, e4] env)).any (·.1) = false := by intro _; rfl) :
    Sx v .V ρ (.Call (.Name x p) [e1, e2, e3, e4] [] pos) eb (m1.bind fun a => m2.bind fun b => m3.bind fun c => m4.bind fun d => f a b c d) :=
  (sx_callG h hk (sar_cons h1 (sar_cons h2 (sar_cons h3 (sar_cons h4 sar_nil s4) s3) s2) s1) hg hdb s1 hpl).cast (by cases m1 <;> try rfl
                                                                                                                     cases m2 <;> try rfl
                                                                                                                     cases m3 <;> try rfl
                                                                                                                     cases m4 <;> rfl)
theorem sx_c5 {f : α1 → α2 → α3 → α4 → α5 → R β} (h : Df v.pg k x ps (spP v.cls (fun q : α1 × α2 × α3 × α4 × α5 × Unit => [n1 q.1, n2 q.2.1, n3 q.2.2.1, n4 q.2.2.2.1, n5 q.2.2.2.2.1]) eb fun q => f q.1 q.2.1 q.2.2.1 q.2.2.2.1 q.2.2.2.2.1)) (hk : k ≤ v.k) (h1 : Sx v .V ρ e1 n1 m1) (h2 : Sx v .V ρ e2 n2 m2) (h3 : Sx v .V ρ e3 n3 m3) (h4 : Sx v .V ρ e4 n4 m4) (h5 : Sx v .V ρ e5 n5 m5)
    (hg : v.sc.names.lookup x = some .globalImplicit := by rfl) (hdb : (x == ("__debug__" : Str)) = false := by decide) (s1 : ∀ env, starEach [e1, e2, e3, e4, e5] env = (false, eval e1 env) :: starEach [e2, e3, e4, e5] env := by intro _; rfl)
    (s2 : ∀ env, starEach [e2, e3, e4, e5] env = (false, eval e2 env) :: starEach [e3, e4, e5] env := by intro _; rfl) (s3 : ∀ env, starEach [e3, e4, e5] env = (false, eval e3 env) :: starEach [e4, e5] env := by intro _; rfl) (s4 : ∀ env, starEach [e4, e5] env = (false, eval e4 env) :: starEach [e5] env := by intro _; rfl)
    (s5 : ∀ env, starEach [e5] env = (false, eval e5 env) :: starEach [] env := by intro _; rfl) (hpl : ∀ env, (backTo pos (starEach [e2, e3, e4, e5] env)).any (·.1) = false := by intro _; rfl) :
    Sx v .V ρ (.Call (.Name x p) [e1, e2, e3, e4, e5] [] pos) eb (m1.bind fun a => m2.bind fun b => m3.bind fun c => m4.bind fun d => m5.bind fun e => f a b c d e) :=
  (sx_callG h hk (sar_cons h1 (sar_cons h2 (sar_cons h3 (sar_cons h4 (sar_cons h5 sar_nil s5) s4) s3) s2) s1) hg hdb s1 hpl).cast (by cases m1 <;> try rfl
                                                                                                                                      cases m2 <;> try rfl
                                                                                                                                      cases m3 <;> try rfl
                                                                                                                                      cases m4 <;> try rfl
                                                                                                                                      cases m5 <;> rfl)
end calls
end Cw
namespace Cw
open PySem PySem.Spec PyProof.Rows L2
/-! ### t[::-1] -/
section
variable {prog : Program} {w : World} {A : Around} {E : Value → Shared → Prop} {s : Shared}
theorem back_adjust (n : Nat) : Builtin.Slice.sliceAdjust none none (-1) (n : Int) = ((n : Int) - 1, -1) := rfl
theorem back_places (n : Nat) : Builtin.Slice.slicePlaces ((n : Int) - 1) (-1) (-1) = n := by
  unfold Builtin.Slice.slicePlaces
  have h1 : ¬ ((-1 : Int) > 0) := by omega
  rw [if_neg h1]
  have e : -(-1 : Int) = 1 := rfl
  rw [e, Int.ediv_one]
  split <;> omega
theorem back_applied {sl : Addr} {n : Nat} {t : Tok} {Q : Int × Int × Nat → Shared → Prop} (hs : s.heap.IsSliceOf sl .none .none (.int (-1) t)) (h : Q ((n : Int) - 1, -1, n) s) :
    wpAny (model prog w) A (Builtin.Slice.sliceApplied (.ref sl) (pure (n : Int))) Q E s := by
  obtain ⟨os, hos, hcs, hds⟩ := id hs
  unfold Builtin.Slice.sliceApplied Builtin.Slice.sliceFields
  refine wpAny_bind (wpAny_bind (wpAny_field hos hds (x := .none) rfl (wpAny_bind (wpAny_field hos hds (x := .none) rfl (wpAny_bind (wpAny_field hos hds (x := .int (-1) t) rfl (wpAny_pure ?_)))))))
  refine wpAny_bind (slicePart_int ?_)
  show wpAny _ _ (if ((-1 : Int) == 0) = true then _ else _) _ _ s
  rw [if_neg (by decide)]
  refine wpAny_bind (slicePart_none (wpAny_bind (slicePart_none (wpAny_bind (wpAny_pure ?_)))))
  show wpAny _ _ (match Builtin.Slice.sliceAdjust none none (-1) (n : Int) with | (lo, hi) => pure (lo, (-1 : Int), Builtin.Slice.slicePlaces lo hi (-1))) _ _ s
  rw [back_adjust]
  show wpAny _ _ (pure ((n : Int) - 1, (-1 : Int), Builtin.Slice.slicePlaces ((n : Int) - 1) (-1) (-1))) _ _ s
  rw [back_places]
  exact wpAny_pure h
theorem back_pick (xs : List Value) : ((List.range xs.length).filterMap fun (k : Nat) => xs.toArray[((xs.length : Int) - 1 + (k : Int) * (-1)).toNat]?).toArray = xs.reverse.toArray := by
  congr 1
  apply List.ext_getElem?
  intro i
  have key : ∀ n, n ≤ xs.length → ((List.range n).filterMap fun (k : Nat) => xs.toArray[((xs.length : Int) - 1 + (k : Int) * (-1)).toNat]?) = xs.reverse.take n := by
    intro n
    induction n with
    | zero => intro _; simp
    | succ n ih =>
      intro hn
      rw [List.range_succ, List.filterMap_append, ih (by omega), List.take_add_one]
      congr 1
      have e : ((xs.length : Int) - 1 + (n : Int) * (-1)).toNat = xs.length - 1 - n := by omega
      have hl : xs.length - 1 - n < xs.length := by omega
      rw [List.getElem?_reverse (by omega)]
      have e2 : xs.toArray[((xs.length : Int) - 1 + (n : Int) * (-1)).toNat]? = some xs[xs.length - 1 - n] := by rw [e]; simp [List.getElem?_eq_getElem hl]
      rw [List.filterMap_cons, e2, List.getElem?_eq_getElem hl]
      rfl
  rw [key _ (Nat.le_refl _), List.take_of_length_le (by simp)]
theorem back_tuple {t sl : Addr} {items : List Value} {u : Tok} {Q : Value → Shared → Prop} (ht : IsTup s.heap t items.toArray) (hs : s.heap.IsSliceOf sl .none .none (.int (-1) u))
    (h : Q (.ref s.heap.objs.size) { s with heap := s.heap.push { cls := .type "tuple", data := .seq items.reverse.toArray } }) (hsz : items.length ≤ sizeLine) : wpAny (model prog w) A (getItem (.ref t) (.ref sl)) Q E s := by
  have htake : sizeOk (.seq items.reverse.toArray) := by
    show items.reverse.toArray.size ≤ sizeLine
    rw [List.size_toArray, List.length_reverse]
    exact hsz
  obtain ⟨os, hos, hcs, hds⟩ := id hs
  have hTs : s.TypeIs (.ref sl) "slice" := ⟨os, hos, hcs⟩
  unfold getItem
  try with_reducible refine wpAny_holding ?_
  first | refine wpAny_bind (wpAny_pure ?_) | skip
  refine wpAny_bind (wpAny_sequenceKey ht.typeIs (by decide) ?_)
  refine wpAny_bind (wpAny_callSpecial?_slot (name := Str.ofString "__getitem__") ht.typeIs PyProof.Rows.slot_tuple_getitem
    (wpAny_call_entry PyProof.Rows.slot_tuple_getitem ht.typeIs entry_tuple_getitem ?_ (args_tuple_getitem _ _)))
  show wpAny _ _ (Builtin.Tuple.tupleItemsOf (.ref t) >>= _) _ _ s
  refine wpAny_bind (tupleItemsOf_ ht ?_)
  refine wpAny_bind (wpAny_typeOf hTs ?_)
  rw [if_pos (by decide)]
  refine wpAny_bind (back_applied hs ?_)
  have hno : ¬ ((((items.toArray.size : Int) - 1) == 0 && (-1 : Int) == 1 && items.toArray.size == items.toArray.size) = true) := by
    have : ((-1 : Int) == 1) = false := rfl
    rw [this]
    simp
  show wpAny _ _ (if (((items.toArray.size : Int) - 1) == 0 && (-1 : Int) == 1 && items.toArray.size == items.toArray.size) = true then _ else _) _ _ s
  rw [if_neg hno, List.size_toArray, back_pick]
  first
    | exact wpAny_bind (m := Builtin.Tuple.tupleExact _) (wpAny_newObj_type (wpAny_pure ⟨_, rfl, wpAny_pure h⟩) htake)
    | exact wpAny_bind (m := Builtin.Tuple.tupleExact _) (wpAny_newObj_type (wpAny_bind (wpAny_pure (wpAny_pure ⟨_, rfl, wpAny_pure h⟩))) htake)
    | exact wpAny_bind (wpAny_bind (m := Builtin.Tuple.tupleExact _) (wpAny_newObj_type (wpAny_pure (wpAny_pure ⟨_, rfl, wpAny_pure h⟩)) htake))
    | exact wpAny_bind (wpAny_bind (m := Builtin.Tuple.tupleExact _) (wpAny_newObj_type (wpAny_pure ⟨_, rfl, wpAny_pure h⟩) htake))
end
/-- x[::-1], by values -/
def RvR (X : Cx) (r : V → Hp → VK → Prop) : Prop := ∀ (pins : List (Addr × Obj)) (s : Shared) (σ : L2.St) (H : Hp) (x : V) (v : Value) (t : Tok) (sl : Addr) (Q : VK), Inv X pins σ H s → RelV x v → s.heap.IsSliceOf sl .none .none (.int (-1) t) → r x H Q →
  ∃ T id, typeLookup (.type T) "__getitem__" = pure (some (.builtin id)) ∧ s.TypeIs v T ∧ wpAny (model X.prog X.w) X.A (getItem v (.ref sl)) (EP X pins σ Q) X.xe s
theorem pe_back {X : Cx} {e : Expr} {te : TE} {r : V → Hp → VK → Prop} {k : Nat} {p1 p2 p3 pos : Pos} (hr : RvR X r) (he : PE X e te) :
    PE X (.Subscript e (.Slice none none (some (.UnaryOp .USub (.Constant (.int 1) k p1) p2)) p3) pos) (fun σ H Q => te σ H fun x H1 => r x H1 Q) := by
  refine ⟨fun pins s σ H Q I h => ?_⟩
  refine Subscript_ (thn (he.run pins s σ H _ I h) fun v s1 ⟨x, H1, I1, r1, q1⟩ => ?_)
  have hst : PO X (some (.UnaryOp .USub (.Constant (.int 1) k p1) p2)) (tPart (tUn (rU fun i => .int (-i)) (tC (.int 1)))) := po_some (pe_un un_neg pe_int)
  refine wpAny_Slice (thn (po_none.run pins s1 σ H1 (fun o H2 => o = none ∧ H2 = H1) I1 ⟨rfl, rfl⟩) fun vl s2 ⟨l, H2, I2, pl, el, e2⟩ => ?_)
  obtain rfl := el
  obtain rfl := e2
  cases pl
  refine thn (po_none.run pins s2 σ H2 (fun o H3 => o = none ∧ H3 = H2) I2 ⟨rfl, rfl⟩) fun vu s3 ⟨u, H3, I3, pu, eu, e3⟩ => ?_
  obtain rfl := eu
  obtain rfl := e3
  cases pu
  refine thn (hst.run pins s3 σ H3 (fun o H4 => o = some (-1) ∧ H4 = H3) I3 ⟨1, rfl, -1, rfl, rfl, rfl⟩) fun vs s4 ⟨o, H4, I4, ps, eo, e4⟩ => ?_
  obtain rfl := eo
  obtain rfl := e4
  cases ps with
  | int _ t =>
    have I5 : Inv X pins σ H4 { s4 with heap := s4.heap.push { cls := .type "slice", data := .fields #[.none, .none, .int (-1) t] } } := I4.kept (t' := s4.toks) fun b ob q => Heap.get?_push_of_some _ q
    obtain ⟨T, id, hT, ht, hg⟩ := hr pins _ σ H4 x v t s4.heap.objs.size Q I5 r1 (Heap.IsSliceOf.new ..) q1
    show wpAny (model X.prog X.w) X.A (subscriptTail e (.Slice none none (some (.UnaryOp .USub (.Constant (.int 1) k p1) p2)) p3) v (.ref s4.heap.objs.size)) (EP X pins σ Q) X.xe { s4 with heap := s4.heap.push { cls := .type "slice", data := .fields #[.none, .none, .int (-1) t] } }
    exact tail_any (ops := [v, .ref s4.heap.objs.size]) ht hT hg (by with_unfolding_all rfl)
theorem rv_tup {X : Cx} : RvR X fun x H Q => ∃ a xs, x = .ref a ∧ SqT X.K H a xs ∧ ∀ p, H p = none → Q (.ref p) (upd H p (.tup xs.reverse)) := by
  intro pins s σ H x v t sl Q I rx hs h
  obtain ⟨a, xs, rfl, hx, q⟩ := h
  cases rx
  obtain ⟨its, r, ht, hz⟩ := I.tuple hx
  refine ⟨"tuple", _, PyProof.Rows.slot_tuple_getitem.lookup, ht.typeIs, ?_⟩
  refine back_tuple ht hs ?_ (by rw [← r.length]; exact hz)
  refine ⟨.ref s.heap.objs.size, _, I.laid (t' := s.toks) (o := .tup xs.reverse) (fun b ob q => Heap.get?_push_of_some _ q) (Nat.le_refl _) ?_, rfl, q _ (I.hok.fresh (Nat.le_refl _))⟩
  exact ⟨by rw [List.length_reverse]; exact hz, _, r.reverse, IsTup.new _ _⟩
theorem rv_lst {X : Cx} : RvR X fun x H Q => ∃ a xs, x = .ref a ∧ SqL X.K H a xs ∧ ∀ p, H p = none → Q (.ref p) (upd H p (.lst xs.reverse)) := by
  intro pins s σ H x v t sl Q I rx hs h
  obtain ⟨a, xs, rfl, hx, q⟩ := h
  cases rx
  obtain ⟨its, r, ht, hz⟩ := I.list hx
  have hlen := r.length
  refine ⟨"list", _, PySem.slot_list_getitem.lookup, ht.isList.typeIs, ?_⟩
  refine wpAny_getItem_list_slice ht.isList hs .none .none (.int (-1) t) (by decide) ?_ (by rw [List.size_toArray]; omega)
  rw [PySem.W.krv_pick]
  refine ⟨.ref _, _, I.laid (t' := s.toks) (o := .lst xs.reverse) (fun b ob q => Heap.get?_push_of_some _ q) (Nat.le_refl _) ?_, rfl, q _ (I.hok.fresh (Nat.le_refl _))⟩
  exact ⟨by rw [List.length_reverse]; exact hz, _, 0, r.reverse, Heap.get?_push_size _ rfl⟩
/-- a text backwards -/
def revS (x : Str) : Str := ⟨x.cps.toList.reverse.toArray⟩
theorem revS_list (x : Str) : (List.range x.length).map (fun k => x.cps.getD (x.length - 1 - k) 0) = x.cps.toList.reverse := by
  apply List.ext_getElem
  · simp [PySem.Str.length]
  · intro i h1 h2
    have hi : i < x.cps.size := by simpa [PySem.Str.length] using h1
    simp [PySem.Str.length, Array.getD, List.getElem_reverse]
    have : x.cps.size - 1 - i < x.cps.size := by omega
    simp [this]
theorem rv_str {X : Cx} : RvR X fun x H Q => ∃ z, x = .str z ∧ z.length ≤ sizeLine ∧ Q (.str (revS z)) H := by
  intro pins s σ H x v t sl Q I rx hs h
  obtain ⟨z, rfl, hz, q⟩ := h
  obtain ⟨u, rfl⟩ := rx
  refine ⟨"str", _, F.slot_str_getitem.lookup, typeIs_str _ _ _, ?_⟩
  refine wpAny_getItem_str_slice (l := none) (u := none) (st := some (-1, t)) hs rfl ?_
  have e : (Txt.sliceBy z none none (-1, t)) = revS z := by
    have h1 := (step_rev_list z t).trans (revS_list z)
    unfold revS
    cases hq : Txt.sliceBy z none none (-1, t) with
    | mk c => rw [hq] at h1; simp only at h1; rw [← h1]
  have hl : (revS z).length ≤ sizeLine := by
    show z.cps.toList.reverse.toArray.size ≤ sizeLine
    rw [List.size_toArray, List.length_reverse, Array.length_toList]
    exact hz
  rw [← e] at q hl
  unfold Txt.sliceBy at q hl
  unfold sliceMade
  by_cases c : (((some ((-1 : Int), t)).map (·.1)).getD 1 == 1 && (slicePicked z none none (some (-1, t))).length == z.length) = true
  · rw [if_pos c] at q ⊢
    exact ⟨.str z, H, I, ⟨u, rfl⟩, q⟩
  · rw [if_neg c] at q hl ⊢
    exact ⟨hl, .str _, H, I.tok _, ⟨_, rfl⟩, q⟩
end Cw
namespace Cw
open PySem PySem.Spec PyProof.Rows L2
variable {α β γ δ ε ζ η S : Type} {v : Vw} {ρ : Rho} {ρs : S → Rho} {μ : Md} {ea : α → D} {eb : β → D} {ec : γ → D} {a b c : Expr} {ma : R α} {mb : R β} {mc : R γ} {p pos : Pos}

/-! ### x[::-1] -/
structure Bk (v : Vw) (μ : Md) (ea : α → D) (ec : γ → D) (g : α → R γ) : Prop where
  calm : ∀ a x, g a ≠ .exc x
  run : ∀ X, v.Has X → RvR X fun x H Q => ∃ F a, Same F H ∧ Nw F H x (ea a) ∧ ∃ c, g a = .ok c ∧ Po μ F H (ec c) Q
theorem RvR.weak {X : Cx} {r r' : V → Hp → VK → Prop} (h : RvR X r) (w : ∀ x H Q, r' x H Q → r x H Q) : RvR X r' :=
  fun pins s σ H x v t sl Q I rx hs q => h pins s σ H x v t sl Q I rx hs (w _ _ _ q)
theorem sx_back {g : α → R γ} {k : Nat} {p1 p2 p3 : Pos} (o : Bk v μ ea ec g) (ha : Sx v .P ρ a ea ma) : Sx v μ ρ (.Subscript a (.Slice none none (some (.UnaryOp .USub (.Constant (.int 1) k p1) p2)) p3) pos) ec (ma.bind fun x => g x) := fun X hX =>
  (pe_back (o.run X hX) (ha X hX)).weak fun σ H Q ⟨B, F, hE, hW⟩ => by
    refine ⟨B, F, hE, hW.bind fun a _ hW => ?_⟩
    intro u H1 F1 s1 n1
    obtain ⟨c, e, q⟩ := want_no (o.calm a) hW
    exact ⟨F1, a, s1.sub, n1, c, e, q.step s1⟩
theorem bk_T {e : α → D} : Bk v .V (eT e) (eT e) fun xs => .ok xs.reverse where
  calm := fun _ _ => nofun
  run := fun X hX => rv_tup.weak fun x H Q ⟨F, a, s, n, c, g, q⟩ => by
    cases g
    obtain ⟨p, xs, rfl, h, hF, r, z⟩ := nwTup s n
    refine ⟨p, xs, rfl, .of h, fun t nt => q _ _ (upd F t _) (.froz s nt) ?_⟩
    exact .tup upd_same (by rw [List.length_reverse]; exact z) (by rw [List.map_reverse]; exact r.reverse.mono (same_new (s.free nt)))
theorem bk_L {e : α → D} : Bk v .N (eL e) (eL e) fun xs => .ok xs.reverse where
  calm := fun _ _ => nofun
  run := fun X hX => rv_lst.weak fun x H Q ⟨F, a, s, n, c, g, q⟩ => by
    cases g
    obtain ⟨p, xs, rfl, h, r, z⟩ := nwLst s n
    refine ⟨p, xs, rfl, .of h, fun t nt => ?_⟩
    obtain ⟨ds, e, q⟩ := q
    cases e
    exact q t _ _ F (.laid s nt) nt (s.free nt) upd_same (by rw [List.length_reverse]; exact z) (by rw [List.map_reverse]; exact r.reverse)
def revD : D → R D
  | .str x => if x.length ≤ sizeLine then .ok (.str (revS x)) else .bad
  | .tuple ds => .ok (.tuple ds.reverse)
  | _ => .bad
theorem bk_D : Bk v .V eD eD revD where
  calm := fun d x => by
    cases d with
    | str y => show (if y.length ≤ sizeLine then R.ok (PyData.str (revS y)) else .bad) ≠ _; split <;> nofun
    | _ => nofun
  run := fun X hX => by
    intro pins s σ H x v t sl Q I rx hs ⟨F, a, sm, n, c, g, q⟩
    cases a with
    | str y =>
      have g : (if y.length ≤ sizeLine then R.ok (PyData.str (revS y)) else .bad) = .ok c := g
      split at g
      · rename_i hy
        cases g
        exact rv_str pins s σ H x v t sl Q I rx hs ⟨y, nwStr n, hy, q _ H F (.refl sm) (.str _)⟩
      · cases g
    | tuple ds =>
      cases g
      refine rv_tup pins s σ H x v t sl Q I rx hs ?_
      obtain ⟨p, xs, rfl, h, hF, r, z⟩ := nwTup sm n
      refine ⟨p, xs, rfl, .of h, fun t nt => q _ _ (upd F t _) (.froz sm nt) ?_⟩
      exact .tup upd_same (by rw [List.length_reverse]; exact z) (r.reverse.mono (same_new (sm.free nt)))
    | _ => cases g
/-! ### slices of data -/
def cutD (d : D) (lo hi : Option Int) : R D := match d with
  | .str x => if x.length ≤ sizeLine then .ok (.str (cutS x lo hi)) else .bad
  | .tuple ds => .ok (.tuple (cut ds lo hi))
  | _ => .bad
theorem SlR.two {X : Cx} {r r' : V → Option Int → Option Int → Hp → VK → Prop} (h : SlR X r) (h' : SlR X r') : SlR X (fun x lo hi H Q => r x lo hi H Q ∨ r' x lo hi H Q) := h.or h'
theorem s_cutD : Sl3 v .V eD eD cutD where
  calm := fun d lo hi x => by
    cases d with
    | str y => show (if y.length ≤ sizeLine then R.ok (PyData.str (cutS y lo hi)) else .bad) ≠ _; split <;> nofun
    | _ => nofun
  run := fun X hX => (SlR.two sl_str sl_tupA).weak fun x lo hi H Q ⟨F, a, s, n, c, g, q⟩ => by
    cases a with
    | str y =>
      have g : (if y.length ≤ sizeLine then R.ok (PyData.str (cutS y lo hi)) else .bad) = .ok c := g
      split at g
      · rename_i hy
        cases g
        exact .inl ⟨y, nwStr n, hy, q _ H F (.refl s) (.str _)⟩
      · cases g
    | tuple ds =>
      cases g
      obtain ⟨p, xs, rfl, h, hF, r, z⟩ := nwTup s n
      have hl := r.length
      refine .inr ⟨p, xs, rfl, .of h, fun w => ?_, fun w t nt => ?_⟩
      · refine q _ H F (.refl s) ?_
        rw [cut_whole ds lo hi (by rw [← hl]; exact w)]
        exact .tup hF z r
      · refine q _ _ (upd F t _) (.froz s nt) ?_
        exact .tup upd_same (Nat.le_trans (cutV_length _ _ _) z) ((r.cut lo hi).mono (same_new (s.free nt)))
    | _ => cases g
theorem s_cutS : Sl3 v .V eS eS fun x lo hi => if x.length ≤ sizeLine then .ok (cutS x lo hi) else .bad where
  calm := fun d lo hi x => by split <;> nofun
  run := fun X hX => sl_str.weak fun x lo hi H Q ⟨F, a, s, n, c, g, q⟩ => by
    split at g
    · rename_i hy
      cases g
      exact ⟨a, nwStr n, hy, q _ H F (.refl s) (.str _)⟩
    · cases g
/-! ### str(x), int(x), tuple(s), ''.join(xs) -/
def strD : D → R D
  | .none => .ok (.str "None")
  | .int i => if i.natAbs.log2 < 1920 then .ok (.str (toString i)) else .bad
  | _ => .bad
theorem call_str_non {X : Cx} : CallR X (.type "str") (fun xs H Q => xs = [.non] ∧ Q (.str "None") H) := by
  intro pins s σ H xs us Q I r h
  obtain ⟨rfl, q⟩ := h
  obtain ⟨u, rfl, rx⟩ := vals1 r
  cases rx
  exact PySem.P.str_of_none ⟨.str _, H, I.tok _, ⟨_, rfl⟩, q⟩
theorem CallR.two {X : Cx} {f : Value} {r r' : List V → Hp → VK → Prop} (h : CallR X f r) (h' : CallR X f r') : CallR X f fun xs H Q => r xs H Q ∨ r' xs H Q := by
  intro pins s σ H xs us Q I rr q
  rcases q with q | q
  · exact h pins s σ H xs us Q I rr q
  · exact h' pins s σ H xs us Q I rr q
theorem c_strD : Cl1 v (.type "str") .V eD eD strD where
  calm := fun d x => by
    cases d with
    | int i => show (if i.natAbs.log2 < 1920 then R.ok (PyData.str (toString i)) else .bad) ≠ _; split <;> nofun
    | _ => nofun
  run := fun X hX => (CallR.two call_str_int call_str_non).weak fun xs H Q ⟨F, x, d, e, s, n, c, g, q⟩ => by
    subst e
    cases d with
    | none => cases g; exact .inr ⟨by rw [nwNon n], q _ H F (.refl s) (.str _)⟩
    | int i =>
      have g : (if i.natAbs.log2 < 1920 then R.ok (PyData.str (toString i)) else .bad) = .ok c := g
      split at g
      · rename_i hi
        cases g
        exact .inl ⟨i, by rw [nwInt n], hi, q _ H F (.refl s) (.str _)⟩
      · cases g
    | _ => cases g
def intD : D → R Int
  | .int i => .ok i
  | .bool b => .ok (if b then 1 else 0)
  | _ => .bad
theorem c_intD : Cl1 v (.type "int") .V eD eI intD where
  calm := fun d x => by cases d <;> nofun
  run := fun X hX => by
    intro pins s σ H xs us Q I rr ⟨F, x, d, e, sm, n, c, g, q⟩
    cases d with
    | int i =>
      cases g
      exact (c_int (v := v)).run X hX pins s σ H xs us Q I rr ⟨F, x, _, e, sm, n, _, rfl, q⟩
    | bool b =>
      cases g
      exact (c_intB (v := v)).run X hX pins s σ H xs us Q I rr ⟨F, x, b, e, sm, n, _, rfl, q⟩
    | _ => cases g
/-- the signs of a text -/
def sgn (x : Str) : List Str := x.cps.toList.map fun c => ⟨#[c]⟩
section
variable {prog : Program} {w : World} {A : Around} {E : Value → Shared → Prop} {s : Shared}
theorem tuple_new_sgn {x : Str} {t : Tok} {Q₁ : Value → Shared → Prop} (hh : A.handled = none) (hsz : x.cps.size ≤ sizeLine)
    (h : ∀ (s' : Shared) (acc : Array Value), (∀ b o, s.heap.get? b = some o → s'.heap.get? b = some o) → s'.gens = s.gens → s'.drawn = s.drawn → s'.os = s.os → ItemsOf (SignAt x) acc x.cps.size → Q₁ (.ref s'.heap.objs.size) { s' with heap := s'.heap.push { cls := .type "tuple", data := .seq acc } }) :
    codeAny (model prog w) A (.call (.builtin "tuple.__new__") ⟨[.type "tuple", .str x t], []⟩) (wants Q₁ E) s := by
  refine codeAny_of_tree ?_
  show wpAny _ A.in1 (do checkBuiltinCall "tuple.__new__" ⟨[.type "tuple", .str x t], []⟩; again (.builtin "tuple.__new__" ⟨[.type "tuple", .str x t], []⟩)) _ _ s
  refine wpAny_bind (wpAny_of_eq (F.newCall_tuple_1 _) (wpAny_pure ⟨plainId_quiet F.plain_tuple_new _, codeAny_builtin F.entry_tuple_new ?_⟩))
  rw [Around.under_plainId F.plain_tuple_new _]
  have hsub := sub_tuple_self
  have hinit := init_tuple_lookup
  have hmh := madeHere_tuple
  have hTI : s.TypeIs (.str x t) "str" := typeIs_str _ _ _
  have hh1 : A.in1.handled = none := hh
  wp_walk using wpAny_typeOf hTI, wpAny_collect_str (A := A.in1) (hn := hsz) hh1 x t
  intro s' acc k1 k2 k3 k4 hacc
  show wpAny _ _ (Builtin.Tuple.tupleExact acc.toList.toArray >>= fun v => ret v) _ _ _
  unfold Builtin.Tuple.tupleExact
  refine wpAny_bind (wpAny_newObj_type ?_ (by show acc.toList.toArray.size ≤ sizeLine; simp only [Array.toArray_toList]; rw [hacc.1]; exact hsz))
  refine wpAny_pure ?_
  have e : acc.toList.toArray = acc := by simp
  rw [e]
  exact h s' acc k1 k2 k3 k4 hacc
theorem call_tuple_sgn {x : Str} {t : Tok} {Q : Value → Shared → Prop} (hh : A.handled = none) (hsz : x.cps.size ≤ sizeLine)
    (h : ∀ (s' : Shared) (acc : Array Value), (∀ b o, s.heap.get? b = some o → s'.heap.get? b = some o) → s'.gens = s.gens → s'.drawn = s.drawn → s'.os = s.os → ItemsOf (SignAt x) acc x.cps.size → Q (.ref s'.heap.objs.size) { s' with heap := s'.heap.push { cls := .type "tuple", data := .seq acc } }) :
    wpAny (model prog w) A (call (.type "tuple") [.str x t]) Q E s := by
  refine callType_codes (Q₁ := fun obj s₁ => s₁.TypeIs obj "tuple" ∧ Q obj s₁) F.called_tuple (F.typeCall_tuple_1 _) F.entry_object_init
    (tuple_new_sgn (A := A.in1) hh hsz fun s' acc k1 k2 k3 k4 hacc => ⟨⟨_, Heap.get?_push_size _ rfl, rfl⟩, h s' acc k1 k2 k3 k4 hacc⟩) fun obj s₁ h₁ => ?_
  exact ⟨h₁.1, F.args_object_init_2 obj _, object_init_meets F.called_tuple.init.lookup F.called_tuple.made (by decide) prog w A.in1 _ s₁ ⟨h₁.1, rfl, h₁.2⟩⟩
end
theorem vals_sgn {x : Str} {acc : Array Value} (h : ItemsOf (SignAt x) acc x.cps.size) : Vals ((sgn x).map V.str) acc.toList := by
  refine vals_of_at (by simp [sgn, h.1]) fun j y u h1 h2 => ?_
  obtain ⟨cc, tk, e1, rfl⟩ := h.2 j u (by rw [← h2, Array.getElem?_toList])
  simp only [sgn, List.map_map, List.getElem?_map, Array.getElem?_toList, e1, Option.map_some, Option.some.injEq] at h1
  subst h1
  exact ⟨tk, rfl⟩
theorem call_tuple_str {X : Cx} (hc : X.calm = true) : CallR X (.type "tuple") fun xs H Q => ∃ x, xs = [.str x] ∧ x.length ≤ sizeLine ∧ ∀ q, H q = none → Q (.ref q) (upd H q (.tup ((sgn x).map V.str))) := by
  intro pins s σ H xs us Q I r h
  obtain ⟨x, rfl, hz, q⟩ := h
  obtain ⟨u, rfl, t, rfl⟩ := vals1 r
  refine call_tuple_sgn (I.ok.hd hc) hz fun s' acc k1 k2 k3 k4 hacc => ?_
  have es : s' = { s with heap := s'.heap, toks := s'.toks } := by
    obtain ⟨h', g', d', t', o'⟩ := s'
    simp only at k2 k3 k4 ⊢
    rw [k2, k3, k4]
  have I2 : Inv X pins σ H s' := by rw [es]; exact I.kept k1
  refine ⟨.ref s'.heap.objs.size, _, I2.laid (t' := s'.toks) (o := .tup ((sgn x).map V.str)) (fun c o e => Heap.get?_push_of_some _ e) (Nat.le_refl _) (show ObjOk X.prog X.w _ _ _ (.tup ((sgn x).map V.str)) from ⟨?_, acc.toList, vals_sgn hacc, ?_⟩), rfl, q _ (I2.hok.fresh (Nat.le_refl _))⟩
  · simp only [List.length_map, sgn, Array.length_toList]; exact hz
  · rw [Array.toArray_toList]; exact IsTup.new _ _
theorem rpA_strs {F : Hp} : ∀ xs : List Str, RpA F (xs.map V.str) (xs.map .str)
  | [] => .nil
  | x :: xs => .cons (.str x) (rpA_strs xs)
theorem c_tupS : Cl1 v (.type "tuple") .V eS (eT eS) fun x => if x.length ≤ sizeLine then .ok (sgn x) else .bad where
  calm := fun x y => by split <;> nofun
  run := fun X hX => (call_tuple_str hX.calm).weak fun xs H Q ⟨F, x, d, e, s, n, c, g, q⟩ => by
    split at g
    · rename_i hz
      cases g
      subst e
      refine ⟨d, by rw [nwStr n], hz, fun t nt => q _ _ (upd F t _) (.froz s nt) ?_⟩
      refine .tup upd_same ?_ (rpA_strs _)
      simp only [List.length_map, sgn, Array.length_toList]; exact hz
    · cases g
def joinR (a : Str) (ys : List Str) : R Str := if (ys.map (·.length)).sum + ys.length * a.length ≤ 16777216 then .ok (Txt.join a ys) else .bad
theorem joinR_calm (a : Str) (ys : List Str) (x : Ex) : joinR a ys ≠ .exc x := by unfold joinR; split <;> nofun
/-- the kinds that are lists or tuples -/
theorem sx_join {o : Str} {j : Nat} {apos q1 : Pos} {e : Expr} {m : R (List Str)} (h : Sx v .P ρ e (eT eS) m ∨ Sx v .P ρ e (eL eS) m) (hs : ∀ env, starEach [e] env = [(false, eval e env)] := by intro _; rfl)
    (hb : ∀ env, attributeBase (.Constant (.str o) j q1) "join" env (eval (.Constant (.str o) j q1) env) = eval (.Constant (.str o) j q1) env := by intro _; rfl) (hl : (apos.endLine == pos.line) = true := by rfl) :
    Sx v .V ρ (.Call (.Attribute (.Constant (.str o) j q1) "join" apos) [e] [] pos) eS (m.bind fun ys => joinR o ys) := fun X hX => by
  rcases h with h | h
  · refine (pe_join (o := .Constant (.str o) j q1) pe_str (h X hX) (hs _) (hb _) hl).weak fun σ H Q ⟨B, F, hE, hW⟩ => ?_
    refine ⟨⟨o, rfl⟩, B, F, hE, hW.bind fun ys _ hW u H1 F1 s1 n1 => ?_⟩
    obtain ⟨c, e, q⟩ := want_no (joinR_calm o ys) hW
    obtain ⟨p, xs, rfl, hH, _, r, z⟩ := nwTup s1.sub n1
    have := r.strs
    subst this
    unfold joinR at e
    split at e
    · rename_i hz
      cases e
      exact ⟨o, p, ys, rfl, rfl, .inr (.of hH), hz, (q.step s1) _ H1 F1 (.refl s1.sub) (.str _)⟩
    · cases e
  · refine (pe_join (o := .Constant (.str o) j q1) pe_str (h X hX) (hs _) (hb _) hl).weak fun σ H Q ⟨B, F, hE, hW⟩ => ?_
    refine ⟨⟨o, rfl⟩, B, F, hE, hW.bind fun ys _ hW u H1 F1 s1 n1 => ?_⟩
    obtain ⟨c, e, q⟩ := want_no (joinR_calm o ys) hW
    obtain ⟨p, xs, rfl, hH, r, z⟩ := nwLst s1.sub n1
    have := r.strs
    subst this
    unfold joinR at e
    split at e
    · rename_i hz
      cases e
      exact ⟨o, p, ys, rfl, rfl, .inl (.of hH), hz, (q.step s1) _ H1 F1 (.refl s1.sub) (.str _)⟩
    · cases e
/-! ### list(range(..)), tuple(range(..)) -/
theorem rg_rp {F : Hp} (a b : Int) : RpA F (rgV a b) ((rng a b).map .int) := by
  have : rgV a b = (rng a b).map V.int := by simp [rgV, rng, Function.comp_def]
  rw [this]
  exact RpA.of_ints _
theorem rgOk_of {a b : Int} (h : (small a && small b && decide (b - a ≤ 16777216)) = true) : RgOk a b ∧ (rgV a b).length ≤ sizeLine := by
  simp only [small, Bool.and_eq_true, decide_eq_true_eq] at h
  refine ⟨⟨h.1.1.1, h.1.1.2, h.1.2.1, h.1.2.2, by omega⟩, ?_⟩
  rw [rgV_length, sizeLine_eq]
  omega
theorem rng1_ok {n : Int} {xs : List Int} (h : rng1 n = .ok xs) : xs = rng 0 n ∧ (small 0 && small n && decide (n - 0 ≤ 16777216)) = true := by
  unfold rng1 at h
  split at h
  · rename_i q
    cases h
    refine ⟨rfl, ?_⟩
    have : small 0 = true := by decide
    rw [this, Int.sub_zero, Bool.true_and]
    exact q
  · cases h
theorem rng1_calm (n : Int) (x : Ex) : rng1 n ≠ .exc x := by unfold rng1; split <;> nofun
theorem rng2_ok {a b : Int} {xs : List Int} (h : rng2 a b = .ok xs) : xs = rng a b ∧ (small a && small b && decide (b - a ≤ 16777216)) = true := by
  unfold rng2 at h
  split at h
  · rename_i q; cases h; exact ⟨rfl, q⟩
  · cases h
theorem rng2_calm (a b : Int) (x : Ex) : rng2 a b ≠ .exc x := by unfold rng2; split <;> nofun
variable {p2 pos2 : Pos}
theorem sx_lrg1 {m : R Int} (hm : v.mg "list" = none) (hm2 : v.mg "range" = none) (h : Sx v .V ρ a eI m) (hg : v.sc.names.lookup ("list" : Str) = some .globalImplicit := by rfl) (hg2 : v.sc.names.lookup ("range" : Str) = some .globalImplicit := by rfl)
    (he : ∀ env, starEach [a] env = (false, eval a env) :: starEach [] env := by intro _; rfl) (he2 : ∀ env, starEach [.Call (.Name "range" p2) [a] [] pos2] env = (false, eval (.Call (.Name "range" p2) [a] [] pos2) env) :: starEach [] env := by intro _; rfl) :
    Sx v .N ρ (.Call (.Name "list" p) [.Call (.Name "range" p2) [a] [] pos2] [] pos) (eL eI) (m.bind rng1) := fun X hX =>
  (pe_listRg hX.calm (hX.gl hg) (by rw [hX.hmg]; exact hm) (prg_1 (hX.gl hg2) (by rw [hX.hmg]; exact hm2) (h X hX) (he _)) (he2 _)).weak fun σ H Q ⟨B, F, hE, hW⟩ => by
    refine ⟨B, F, hE, hW.bind fun n _ hW u H1 F1 s1 r1 => ?_⟩
    cases r1
    obtain ⟨xs, e, q⟩ := want_no (rng1_calm n) hW
    obtain ⟨rfl, k⟩ := rng1_ok e
    refine ⟨n, rfl, (rgOk_of k).1, fun t nt => ?_⟩
    obtain ⟨ds, e2, q⟩ := q.step s1
    cases e2
    exact q t _ _ F1 (.laid s1.sub nt) nt (s1.sub.free nt) upd_same (rgOk_of k).2 (rg_rp _ _)
theorem sx_trg1 {m : R Int} (hm : v.mg "tuple" = none) (hm2 : v.mg "range" = none) (h : Sx v .V ρ a eI m) (hg : v.sc.names.lookup ("tuple" : Str) = some .globalImplicit := by rfl) (hg2 : v.sc.names.lookup ("range" : Str) = some .globalImplicit := by rfl)
    (he : ∀ env, starEach [a] env = (false, eval a env) :: starEach [] env := by intro _; rfl) (he2 : ∀ env, starEach [.Call (.Name "range" p2) [a] [] pos2] env = (false, eval (.Call (.Name "range" p2) [a] [] pos2) env) :: starEach [] env := by intro _; rfl) :
    Sx v .V ρ (.Call (.Name "tuple" p) [.Call (.Name "range" p2) [a] [] pos2] [] pos) (eT eI) (m.bind rng1) := fun X hX =>
  (pe_tupRg hX.calm (hX.gl hg) (by rw [hX.hmg]; exact hm) (prg_1 (hX.gl hg2) (by rw [hX.hmg]; exact hm2) (h X hX) (he _)) (he2 _)).weak fun σ H Q ⟨B, F, hE, hW⟩ => by
    refine ⟨B, F, hE, hW.bind fun n _ hW u H1 F1 s1 r1 => ?_⟩
    cases r1
    obtain ⟨xs, e, q⟩ := want_no (rng1_calm n) hW
    obtain ⟨rfl, k⟩ := rng1_ok e
    refine ⟨n, rfl, (rgOk_of k).1, fun t nt => ?_⟩
    exact (q.step s1) _ _ (upd F1 t _) (.froz s1.sub nt) (.tup upd_same (rgOk_of k).2 (rg_rp _ _))
theorem sx_lrg2 {m n : R Int} (hm : v.mg "list" = none) (hm2 : v.mg "range" = none) (h : Sx v .V ρ a eI m) (h' : Sx v .V ρ b eI n) (hg : v.sc.names.lookup ("list" : Str) = some .globalImplicit := by rfl) (hg2 : v.sc.names.lookup ("range" : Str) = some .globalImplicit := by rfl)
    (he : ∀ env, starEach [a, b] env = (false, eval a env) :: starEach [b] env := by intro _; rfl) (heb : ∀ env, starEach [b] env = (false, eval b env) :: starEach [] env := by intro _; rfl) (hpl : ∀ env, (backTo pos2 (starEach [b] env)).any (·.1) = false := by intro _; rfl)
    (he2 : ∀ env, starEach [.Call (.Name "range" p2) [a, b] [] pos2] env = (false, eval (.Call (.Name "range" p2) [a, b] [] pos2) env) :: starEach [] env := by intro _; rfl) :
    Sx v .N ρ (.Call (.Name "list" p) [.Call (.Name "range" p2) [a, b] [] pos2] [] pos) (eL eI) (m.bind fun i => n.bind fun j => rng2 i j) := fun X hX =>
  (pe_listRg hX.calm (hX.gl hg) (by rw [hX.hmg]; exact hm) (prg_2 (hX.gl hg2) (by rw [hX.hmg]; exact hm2) (h X hX) (h' X hX) (he _) (heb _) (hpl _)) (he2 _)).weak fun σ H Q ⟨B, F, hE, hW⟩ => by
    refine ⟨B, F, hE, hW.bind fun i _ hW u H1 F1 s1 r1 => ?_⟩
    cases r1
    refine ⟨B, F1, hE.step s1, (hW.step s1).bind fun j _ hW u H2 F2 s2 r2 => ?_⟩
    cases r2
    obtain ⟨xs, e, q⟩ := want_no (rng2_calm i j) hW
    obtain ⟨rfl, k⟩ := rng2_ok e
    refine ⟨i, j, rfl, rfl, (rgOk_of k).1, fun t nt => ?_⟩
    obtain ⟨ds, e2, q⟩ := q.step s2
    cases e2
    exact q t _ _ F2 (.laid s2.sub nt) nt (s2.sub.free nt) upd_same (rgOk_of k).2 (rg_rp _ _)
theorem sx_trg2 {m n : R Int} (hm : v.mg "tuple" = none) (hm2 : v.mg "range" = none) (h : Sx v .V ρ a eI m) (h' : Sx v .V ρ b eI n) (hg : v.sc.names.lookup ("tuple" : Str) = some .globalImplicit := by rfl) (hg2 : v.sc.names.lookup ("range" : Str) = some .globalImplicit := by rfl)
    (he : ∀ env, starEach [a, b] env = (false, eval a env) :: starEach [b] env := by intro _; rfl) (heb : ∀ env, starEach [b] env = (false, eval b env) :: starEach [] env := by intro _; rfl) (hpl : ∀ env, (backTo pos2 (starEach [b] env)).any (·.1) = false := by intro _; rfl)
    (he2 : ∀ env, starEach [.Call (.Name "range" p2) [a, b] [] pos2] env = (false, eval (.Call (.Name "range" p2) [a, b] [] pos2) env) :: starEach [] env := by intro _; rfl) :
    Sx v .V ρ (.Call (.Name "tuple" p) [.Call (.Name "range" p2) [a, b] [] pos2] [] pos) (eT eI) (m.bind fun i => n.bind fun j => rng2 i j) := fun X hX =>
  (pe_tupRg hX.calm (hX.gl hg) (by rw [hX.hmg]; exact hm) (prg_2 (hX.gl hg2) (by rw [hX.hmg]; exact hm2) (h X hX) (h' X hX) (he _) (heb _) (hpl _)) (he2 _)).weak fun σ H Q ⟨B, F, hE, hW⟩ => by
    refine ⟨B, F, hE, hW.bind fun i _ hW u H1 F1 s1 r1 => ?_⟩
    cases r1
    refine ⟨B, F1, hE.step s1, (hW.step s1).bind fun j _ hW u H2 F2 s2 r2 => ?_⟩
    cases r2
    obtain ⟨xs, e, q⟩ := want_no (rng2_calm i j) hW
    obtain ⟨rfl, k⟩ := rng2_ok e
    refine ⟨i, j, rfl, rfl, (rgOk_of k).1, fun t nt => ?_⟩
    exact (q.step s2) _ _ (upd F2 t _) (.froz s2.sub nt) (.tup upd_same (rgOk_of k).2 (rg_rp _ _))
end Cw
namespace Cw
open PySem PySem.Spec PyProof.Rows L2
variable {α β γ δ ε ζ η S τ τ1 κ : Type} {v : Vw} {ρ : Rho} {ρs : S → Rho} {μ : Md} {ea : α → D} {eb : β → D} {ec : γ → D} {a b c : Expr} {ma : R α} {mb : R β} {mc : R γ} {p pos : Pos} {G : Rt β} {C : Cs β} {rest : List Stmt}

theorem Ss.cast {sts : List Stmt} {m m' : R β} (h : Ss v G C ρ sts m) (q : m = m') : Ss v G C ρ sts m' := q ▸ h
theorem S1.cast {st : Stmt} {m m' : R β} (h : S1 v G C ρ st m) (q : m = m') : S1 v G C ρ st m' := q ▸ h
/-! ### blocks that fall through -/
theorem sj_nil {N : τ → Rho} {K : τ → R β} (t : τ) (l : Le ρ (N t)) : Ss v G (C.to N K) ρ [] ((R.ok t).bind K) := ss_nil (C := C.to N K) (ρ' := N t) t l rfl
theorem sj_cons {st : Stmt} {N1 : τ1 → Rho} {N : τ → Rho} {j1 : R τ1} {j2 : τ1 → R τ} {K : τ → R β} (h1 : ∀ K1 : τ1 → R β, S1 v G (C.to N1 K1) ρ st (j1.bind K1)) (h2 : ∀ t, Ss v G (C.to N K) (N1 t) rest ((j2 t).bind K)) : Ss v G (C.to N K) ρ (st :: rest) ((j1.bind j2).bind K) := by
  rw [R.bind_assoc]
  exact ss_cons (C := C.to N K) (h1 _) h2
theorem sj_one {st : Stmt} {N : τ → Rho} {j : R τ} {K : τ → R β} (h1 : S1 v G (C.to N K) ρ st (j.bind K)) : Ss v G (C.to N K) ρ [st] (j.bind K) := ss_one h1
/-- if c: .. that doesn't come back, and the rest -/
theorem ss_ifX {c : Expr} {A : List Stmt} {mc : R Bool} {m1 m2 : R β} (hc : Tt v ρ c mc) (h1 : Ss v G (C.to (fun e : Empty => e.elim) (fun e : Empty => e.elim)) ρ A m1) (h2 : Ss v G C ρ rest m2) (hx : Le ρ G.rx := by first | exact .nil | exact .k .nil | exact .refl _) :
    Ss v G C ρ (.If c A [] pos :: rest) (mc.bind fun t => if t then m1 else m2) :=
  ss_cons (N := fun _ : Unit => ρ) (K := fun _ => m2) (s1_if (C := C.to (fun _ : Unit => ρ) fun _ => m2) hc (fun X hX => (h1 X hX).weak fun D' σ H ⟨B, F, hE, hW, g⟩ => ⟨B, F, hE, hW, ⟨fun t => t.elim, g.bk, g.ct⟩⟩)
    (ss_nil (C := C.to (fun _ : Unit => ρ) fun _ => m2) (ρ' := ρ) () (.refl _) rfl) hx) fun _ => h2

/-! ### x += e -/
theorem s1_aug {op : Operator} {x : Str} {e : Expr} {p' : Pos} {x0 : Int} {m : R Int} {f : Int → Int → Int} {k : Int → R β} (i : Nat) (ho : ∀ X, PIp X op (ipI f)) (hi : ρ[i]? = some (some (.sh (.int x0)))) (h : Sx v .V ρ e eI m) (hN : v.N[i]? = some x := by rfl) (hx : Sto v x := by first | exact Or.inl rfl | exact Or.inr ⟨rfl, rfl⟩) (hr : Le ρ G.rx := by first | exact .nil | exact .k .nil | exact .refl _) :
    S1 v G (C.to (fun a : Int => ρ.set i (some (.sh (.int a)))) k) ρ (.AugAssign (.Name x p') op e pos) ((m.bind fun y => .ok (f x0 y)).bind k) := fun X hX => by
  have hN' : X.N[i]? = some x := by rw [hX.hN]; exact hN
  have h1 := ps_aug (pos := pos) (pos' := p') hX.nd hN' (hX.loc hx.loc) (h X hX) (ho X) (hx.fn hX)
  refine ⟨fun pins s σ H D' I ⟨B, F, hE, hW, g⟩ => h1.run pins s σ H D' I ?_⟩
  obtain ⟨u, e1, r⟩ := hE.at hi
  cases r
  refine ⟨_, e1, ?_⟩
  rw [R.bind_assoc] at hW
  refine wantS hE hr hW fun y _ hW u H' F' t r => ?_
  cases r
  refine ⟨x0, y, rfl, rfl, ?_⟩
  have hW : WantS v B G F (k (f x0 y)) D' := hW
  exact g.nx (f x0 y) _ H' F' t.fr ((hE.step t).setSh (lenσ I hN') (.int _)) (hW.mono t.fr)

/-! ### records that are lists: a written place -/
section
variable {x : Str} {q1 q2 q3 : Pos} {j3 : Nat} {e : Expr} {m : R α} {re : List D → Sl} {ds : List D}
theorem s1_setAt (i : Nat) {jc : Int} (jj : Nat) (w : Owns ρ i ds re) (hj : ixN ds.length jc = some jj) {N : τ → Rho} {k : τ → R β} (put : α → τ) (hp : ∀ a, N (put a) = ρ.set i (some (re (ds.set jj (ea a))))) (h : Sx v .V ρ e ea m) (hN : v.N[i]? = some x := by rfl) (hv : Vis v.sc x := by first | exact Or.inl rfl | exact Or.inr (Or.inl rfl) | exact Or.inr (Or.inr rfl))
    (hd : (x == ("__debug__" : Str)) = false := by decide) (hcd : (x == ("__classdict__" : Str)) = false := by decide)
    (ha : ∀ env u, assign (.Subscript (.Name x q1) (.Constant (.int jc) j3 q3) q2) env u = (do
      let o ← holding [u] (eval (.Name x q1) env)
      let j ← holding [u, o] (eval (.Constant (.int jc) j3 q3) env)
      standAt q2
      holding [u, o, j] (setItem o j u)
      release [u, o, j] []) := by intro _ _; rfl)
    (hs : ∀ env, swapsWithSole [.Subscript (.Name x q1) (.Constant (.int jc) j3 q3) q2] e pos.line env = pure false := by intro _; rfl) (hw : ∀ env, swappedStores [.Subscript (.Name x q1) (.Constant (.int jc) j3 q3) q2] e env = pure none := by intro _; rfl)
    (h1 : ∀ env, (assignEach [.Subscript (.Name x q1) (.Constant (.int jc) j3 q3) q2] env).map (·.2) = [assign (.Subscript (.Name x q1) (.Constant (.int jc) j3 q3) q2) env] := by intro _; rfl) (hr : Le ρ G.rx := by first | exact .nil | exact .k .nil | exact .refl _) :
    S1 v G (C.to N k) ρ (.Assign [.Subscript (.Name x q1) (.Constant (.int jc) j3 q3) q2] e pos) ((m.bind fun a => .ok (put a)).bind k) := fun X hX =>
  (ps_asg (h X hX) (pg_sub (hX.pv i hN hv hd hcd) pe_int set_list (ha _)) (hs _) (hw _) (h1 _)).weak fun D' σ H ⟨B, F, hE, hW, g⟩ => by
    rw [R.bind_assoc] at hW
    refine wantS hE hr hW fun a _ hW u H1 F1 s1 r1 => ?_
    have hE1 := hE.step s1
    obtain ⟨q, us, e1, nf, hq, z, r, go⟩ := hE1.lst w
    have hW : WantS v B G F (k (put a)) D' := hW
    refine ⟨.ref q, e1, q, us, jc, jj, rfl, rfl, hq, by rw [r.length]; exact hj, ?_⟩
    refine g.nx (put a) _ _ F1 s1.fr ?_ (hW.mono s1.fr)
    show EnvOk v.K B F1 _ σ (N (put a))
    rw [hp]
    exact go (us.set jj u) _ (by rw [List.length_set]; exact z) (r.set r1 jj)
theorem s1_augAt {op : Operator} {f : Int → Int → Int} {x0 : Int} {m : R Int} (i : Nat) {jc : Int} (jj : Nat) (w : Owns ρ i ds re) (hj : atI ds jc = some (.int x0)) (hj2 : ixN ds.length jc = some jj) {N : τ → Rho} {k : τ → R β} (put : Int → τ) (ho : ∀ X, PIp X op (ipI f)) (hp : ∀ a, N (put a) = ρ.set i (some (re (ds.set jj (.int a))))) (h : Sx v .V ρ e eI m)
    (hN : v.N[i]? = some x := by rfl) (hv : Vis v.sc x := by first | exact Or.inl rfl | exact Or.inr (Or.inl rfl) | exact Or.inr (Or.inr rfl))
    (hd : (x == ("__debug__" : Str)) = false := by decide) (hcd : (x == ("__classdict__" : Str)) = false := by decide) (hr : Le ρ G.rx := by first | exact .nil | exact .k .nil | exact .refl _)
    (ha : ∀ ov iv new, augStore (.Constant (.int jc) j3 q3) ov iv new = (do holding [new, ov, iv] (setItem ov iv new); release [new, ov, iv] []; pure .next) := by intros; rfl) :
    S1 v G (C.to N k) ρ (.AugAssign (.Subscript (.Name x q1) (.Constant (.int jc) j3 q3) q2) op e pos) ((m.bind fun y => .ok (put (f x0 y))).bind k) := fun X hX =>
  (ps_augS (hX.pv i hN hv hd hcd) pe_int get_list (h X hX) (ho X) set_list ha).weak fun D' σ H ⟨B, F, hE, hW, g⟩ => by
    obtain ⟨q, us, e1, nf, hq, z, r, _⟩ := hE.lst w
    obtain ⟨u0, h1, r0⟩ := r.atI hj
    cases r0
    refine ⟨.ref q, e1, q, us, jc, _, rfl, rfl, .of hq, h1, ?_⟩
    rw [R.bind_assoc] at hW
    refine wantS hE hr hW fun y _ hW u H1 F1 s1 r1 => ?_
    cases r1
    have hE1 := hE.step s1
    obtain ⟨q', us', e1', nf', hq', z', r', go⟩ := hE1.lst w
    rw [e1] at e1'
    cases e1'
    have hW : WantS v B G F (k (put (f x0 y))) D' := hW
    refine ⟨x0, y, rfl, rfl, q, us', jc, jj, rfl, rfl, hq', by rw [r'.length]; exact hj2, ?_⟩
    refine g.nx (put (f x0 y)) _ _ F1 s1.fr ?_ (hW.mono s1.fr)
    show EnvOk v.K B F1 _ σ (N (put (f x0 y)))
    rw [hp]
    exact go (us'.set jj _) _ (by rw [List.length_set]; exact z') (r'.set (.int _) jj)
/-- x[b] += e -/
def addAtR (f : Int → Int → Int) (ns : List Int) (j y : Int) : R (List Int) := (idx ns j).bind fun o => setR ns j (f o y)
theorem s1_augItem {op : Operator} {f : Int → Int → Int} {ns : List Int} {mi m : R Int} {k : List Int → R β} (i : Nat) (w : Owns ρ i (ns.map eI) re) (ho : ∀ X, PIp X op (ipI f)) (h : Sx v .V ρ e eI m) (h2 : Sx v .V ρ b eI mi)
    (hN : v.N[i]? = some x := by rfl) (hv : Vis v.sc x := by first | exact Or.inl rfl | exact Or.inr (Or.inl rfl) | exact Or.inr (Or.inr rfl))
    (hd : (x == ("__debug__" : Str)) = false := by decide) (hcd : (x == ("__classdict__" : Str)) = false := by decide) (hr : Le ρ G.rx := by first | exact .nil | exact .k .nil | exact .refl _)
    (ha : ∀ ov iv new, augStore b ov iv new = (do holding [new, ov, iv] (setItem ov iv new); release [new, ov, iv] []; pure .next) := by intros; rfl) :
    S1 v G (C.to (fun ys : List Int => ρ.set i (some (re (ys.map eI)))) k) ρ (.AugAssign (.Subscript (.Name x q1) b q2) op e pos) ((mi.bind fun j => (idx ns j).bind fun o => m.bind fun y => setR ns j (f o y)).bind k) := fun X hX =>
  (ps_augS (hX.pv i hN hv hd hcd) (h2 X hX) get_list (h X hX) (ho X) set_list ha).weak fun D' σ H ⟨B, F, hE, hW, g⟩ => by
    obtain ⟨q, us, e1, nf, hq, z, r, _⟩ := hE.lst w
    rw [R.bind_assoc] at hW
    refine ⟨.ref q, e1, wantS hE hr hW fun j _ hW u H1 F1 s1 r1 => ?_⟩
    cases r1
    have hE1 := hE.step s1
    obtain ⟨q', us', e1', nf', hq', z', r', _⟩ := hE1.lst w
    rw [e1] at e1'
    cases e1'
    rw [R.bind_assoc] at hW
    cases ho : idx ns j with
    | exc x => exact absurd ho (ofOpt_calm _ x)
    | bad => rw [ho] at hW; exact hW.elim
    | ok o =>
      rw [ho] at hW
      have hW : WantS v B G F ((m.bind fun y => setR ns j (f o y)).bind k) D' := hW
      rw [R.bind_assoc] at hW
      have h3 : atI (ns.map eI) j = some (.int o) := by rw [atI_map, ofOpt_ok ho]; rfl
      obtain ⟨u0, h4, r0⟩ := r'.atI h3
      cases r0
      refine ⟨q, us', j, _, rfl, rfl, .of hq', h4, ?_⟩
      refine wantS hE1 hr (hW.mono s1.fr) fun y _ hW u H2 F2 s2 r2 => ?_
      cases r2
      have hE2 := hE1.step s2
      obtain ⟨q2, us2, e2, nf2, hq2, z2, r2, go⟩ := hE2.lst w
      rw [e1] at e2
      cases e2
      have hl := r2.length
      rw [List.length_map] at hl
      unfold setR at hW
      split at hW
      · rename_i jj hjj
        have hW : WantS v B G F1 (k (ns.set jj (f o y))) D' := hW
        refine ⟨o, y, rfl, rfl, q, us2, j, jj, rfl, rfl, hq2, by rw [hl]; exact hjj, ?_⟩
        refine g.nx (ns.set jj (f o y)) _ _ F2 (s1.fr.trans s2.fr) ?_ (hW.mono s2.fr)
        refine go (us2.set jj _) _ (by rw [List.length_set]; exact z2) ?_
        rw [List.map_set]
        exact r2.set (.int _) jj
      · exact hW.elim
end

/-! ### data read as of a kind -/
structure Dec (e : α → D) where
  dec : D → Option α
  ok : ∀ d a, dec d = some a → e a = d
  full : ∀ a, dec (e a) = some a
def rdI1 : D → Option Int
  | .int i => some i
  | _ => none
def rdB1 : D → Option Bool
  | .bool i => some i
  | _ => none
def rdS1 : D → Option Str
  | .str i => some i
  | _ => none
def allM (f : D → Option α) : List D → Option (List α)
  | [] => some []
  | d :: ds => match f d, allM f ds with
    | some a, some as => some (a :: as)
    | _, _ => none
theorem allM_ok {e : α → D} {f : D → Option α} (h : ∀ d a, f d = some a → e a = d) : ∀ (ds : List D) (as : List α), allM f ds = some as → as.map e = ds
  | [], as, q => by cases q; rfl
  | d :: ds, as, q => by
    unfold allM at q
    split at q
    · rename_i x xs h1 h2
      cases q
      rw [List.map_cons, h _ _ h1, allM_ok h ds _ h2]
    · cases q
theorem allM_full {e : α → D} {f : D → Option α} (h : ∀ a, f (e a) = some a) : ∀ as : List α, allM f (as.map e) = some as
  | [] => rfl
  | a :: as => by
    simp only [List.map_cons, allM, h, allM_full h as]
def dI : Dec eI := ⟨rdI1, fun d a h => by cases d <;> cases h; rfl, fun _ => rfl⟩
def dB : Dec eB := ⟨rdB1, fun d a h => by cases d <;> cases h; rfl, fun _ => rfl⟩
def dS : Dec eS := ⟨rdS1, fun d a h => by cases d <;> cases h; rfl, fun _ => rfl⟩
def dD : Dec eD := ⟨some, fun d a h => by cases h; rfl, fun _ => rfl⟩
def asT (f : D → Option α) : D → Option (List α)
  | .tuple ds => allM f ds
  | _ => none
def asL (f : D → Option α) : D → Option (List α)
  | .list ds => allM f ds
  | _ => none
def dT {e : α → D} (h : Dec e) : Dec (eT e) where
  dec := asT h.dec
  ok := fun d a q => by
    cases d with
    | tuple ds => exact congrArg PyData.tuple (allM_ok h.ok ds a q)
    | _ => cases q
  full := fun a => allM_full h.full a
def dL {e : α → D} (h : Dec e) : Dec (eL e) where
  dec := asL h.dec
  ok := fun d a q => by
    cases d with
    | list ds => exact congrArg PyData.list (allM_ok h.ok ds a q)
    | _ => cases q
  full := fun a => allM_full h.full a
def asP (f : D → Option α) (g : D → Option β) : D → Option (α × β)
  | .tuple [x, y] => match f x, g y with
    | some a, some b => some (a, b)
    | _, _ => none
  | _ => none
def dP {e : α → D} {e' : β → D} (h : Dec e) (h' : Dec e') : Dec (eP e e') where
  dec := asP h.dec h'.dec
  ok := fun d a q => by
    unfold asP at q
    split at q
    · split at q
      · rename_i h1 h2
        cases q
        show PyData.tuple [_, _] = _
        rw [h.ok _ _ h1, h'.ok _ _ h2]
      · cases q
    · cases q
  full := fun a => by simp [asP, eP, h.full, h'.full]
theorem sx_dn (dc : Dec ea) {e : Expr} {m : R D} (h : Sx v μ ρ e eD m) : Sx v μ ρ e ea (m.bind fun d => R.ofOpt (dc.dec d)) := sx_down dc.ok h
theorem sx_upD {e : Expr} {m : R α} (h : Sx v μ ρ e ea m) : Sx v μ ρ e eD (m.bind fun a => .ok (ea a)) := sx_up h
theorem ee_dn (dc : Dec ea) {e : Expr} {m : S → R (D × S)} (h : Ee v μ ρs e eD m) : Ee v μ ρs e ea fun s => (m s).bind fun t => (R.ofOpt (dc.dec t.1)).bind fun a => .ok (a, t.2) := ee_down dc.ok h
theorem ee_upD {e : Expr} {m : S → R (α × S)} (h : Ee v μ ρs e ea m) : Ee v μ ρs e eD fun s => (m s).bind fun t => .ok (ea t.1, t.2) := ee_to h fun _ => rfl

/-! ### comprehensions whose parts are plain -/
section
variable {elt tg iter : Expr} {ifs : List Expr} {scope : Scope} {own : List (Str × Nat)} {js : List Nat} {upd : α → Rho → Rho} {cb : α → Bool} {mi : R (List α)} {f : α → R β} {fb : α → β}
/-- [f(x) for x in xs] -/
theorem sx_lc1 (hi : Si v false ρ tg iter ea mi) (ok : blkC v.N v.sc scope own = true) (hg : Gt (v.blk scope) tg ea js upd) (he : ∀ x, Sx (v.blk scope) .V (upd x (wipeR ρ (own.map (·.2)))) elt eb (f x)) (hjs : ∀ j ∈ js, j ∈ own.map (·.2) := by decide)
    (hs : ∀ env x, foldedSetIterable iter env x = pure x := by intro _ _; rfl) : Sx v .N ρ (.ListComp elt [⟨tg, iter, [], 0⟩] scope pos) (eL eb) (mi.bind fun l => R.mapM f l) :=
  (sx_lcG hjs hi ok hg (fun _ => tts_nil) he hs).cast (by
    congr 1
    funext l
    exact R.fmapM_map f l)
theorem sx_lc1P (hi : Si v false ρ tg iter ea mi) (ok : blkC v.N v.sc scope own = true) (hg : Gt (v.blk scope) tg ea js upd) (he : ∀ x, Sx (v.blk scope) .V (upd x (wipeR ρ (own.map (·.2)))) elt eb (.ok (fb x))) (hjs : ∀ j ∈ js, j ∈ own.map (·.2) := by decide)
    (hs : ∀ env x, foldedSetIterable iter env x = pure x := by intro _ _; rfl) : Sx v .N ρ (.ListComp elt [⟨tg, iter, [], 0⟩] scope pos) (eL eb) (mi.bind fun l => .ok (l.map fb)) :=
  (sx_lc1 hi ok hg he hjs hs).cast (by
    congr 1
    funext l
    exact R.mapM_ok fb l)
/-- [f(x) for x in xs if c(x)] -/
theorem sx_lc2 {t : Expr} (hi : Si v false ρ tg iter ea mi) (ok : blkC v.N v.sc scope own = true) (hg : Gt (v.blk scope) tg ea js upd) (ht : ∀ x, Tt (v.blk scope) (upd x (wipeR ρ (own.map (·.2)))) t (.ok (cb x))) (he : ∀ x, Sx (v.blk scope) .V (upd x (wipeR ρ (own.map (·.2)))) elt eb (f x)) (hjs : ∀ j ∈ js, j ∈ own.map (·.2) := by decide)
    (hs : ∀ env x, foldedSetIterable iter env x = pure x := by intro _ _; rfl) : Sx v .N ρ (.ListComp elt [⟨tg, iter, [t], 0⟩] scope pos) (eL eb) (mi.bind fun l => R.mapM f (l.filter cb)) :=
  (sx_lcG hjs hi ok hg (fun x => tts_one (ht x)) he hs).cast (by
    congr 1
    funext l
    exact R.fmapM_filter cb f l)
theorem sx_lc2P {t : Expr} (hi : Si v false ρ tg iter ea mi) (ok : blkC v.N v.sc scope own = true) (hg : Gt (v.blk scope) tg ea js upd) (ht : ∀ x, Tt (v.blk scope) (upd x (wipeR ρ (own.map (·.2)))) t (.ok (cb x))) (he : ∀ x, Sx (v.blk scope) .V (upd x (wipeR ρ (own.map (·.2)))) elt eb (.ok (fb x))) (hjs : ∀ j ∈ js, j ∈ own.map (·.2) := by decide)
    (hs : ∀ env x, foldedSetIterable iter env x = pure x := by intro _ _; rfl) : Sx v .N ρ (.ListComp elt [⟨tg, iter, [t], 0⟩] scope pos) (eL eb) (mi.bind fun l => .ok ((l.filter cb).map fb)) :=
  (sx_lc2 hi ok hg ht he hjs hs).cast (by
    congr 1
    funext l
    exact R.mapM_ok fb _)
/-- the test may stop -/
def filtM (cf : α → R Bool) (f : α → R β) : List α → R (List β) := R.fmapM fun x => (cf x).bind fun t => if t then (f x).bind fun y => .ok (some y) else .ok none
theorem sx_lc3 {t : Expr} {cf : α → R Bool} (hi : Si v false ρ tg iter ea mi) (ok : blkC v.N v.sc scope own = true) (hg : Gt (v.blk scope) tg ea js upd) (ht : ∀ x, Tt (v.blk scope) (upd x (wipeR ρ (own.map (·.2)))) t (cf x)) (he : ∀ x, Sx (v.blk scope) .V (upd x (wipeR ρ (own.map (·.2)))) elt eb (f x)) (hjs : ∀ j ∈ js, j ∈ own.map (·.2) := by decide)
    (hs : ∀ env x, foldedSetIterable iter env x = pure x := by intro _ _; rfl) : Sx v .N ρ (.ListComp elt [⟨tg, iter, [t], 0⟩] scope pos) (eL eb) (mi.bind fun l => filtM cf f l) :=
  sx_lcG hjs hi ok hg (fun x => tts_one (ht x)) he hs
end
end Cw
namespace Cw
open PySem PySem.Spec PyProof.Rows L2
variable {α β γ δ ε ζ η S τ τ1 κ : Type} {v : Vw} {ρ : Rho} {ρs : S → Rho} {μ : Md} {ea : α → D} {eb : β → D} {ec : γ → D} {a b c : Expr} {ma : R α} {mb : R β} {mc : R γ} {p pos : Pos} {G : Rt β} {C : Cs β} {rest : List Stmt}

/-- no way on but return and raise -/
def csDead : Cs β := ⟨⟨Empty, fun e => e.elim, fun e => e.elim⟩, kNo, kNo⟩
/-- what the two classes of errors are -/
structure ErrOk (G : Pg) : Prop where
  gu : G.mg "UnfitCard" = some (.ref (G.cls .unfit))
  gw : G.mg "TooWide" = some (.ref (G.cls .wide))
  ex : ∀ x y, PySem.W.exmOne G.K (.ref (G.cls x)) (.ref (G.cls y)) = some (decide (x = y))
  C : ∀ x, ExcC G.K (G.cls x)
  kit : ∀ x, PySem.W.kitOne G.K (.ref (G.cls x)) (.type "ValueError") = some true
  mi : G.mg "isinstance" = none
  mv : G.mg "ValueError" = none
namespace R
/-- an error of any of the two is turned to a -/
def caught (m : R β) (k : R β) : R β := match m with
  | .exc _ => k
  | m => m
def caughtU (m : R β) (k : R β) : R β := match m with
  | .exc .unfit => k
  | m => m
@[simp] theorem caught_ok (b : β) (k : R β) : (R.ok b).caught k = .ok b := rfl
@[simp] theorem caught_exc (x : Ex) (k : R β) : (R.exc x).caught k = k := rfl
@[simp] theorem caught_bad (k : R β) : (R.bad).caught k = .bad := rfl
@[simp] theorem caughtU_ok (b : β) (k : R β) : (R.ok b).caughtU k = .ok b := rfl
@[simp] theorem caughtU_unfit (k : R β) : (R.exc .unfit).caughtU k = k := rfl
@[simp] theorem caughtU_wide (k : R β) : (R.exc .wide).caughtU k = .exc .wide := rfl
@[simp] theorem caughtU_bad (k : R β) : (R.bad).caughtU k = .bad := rfl
end R
variable {X : Cx}
theorem pss_if {sts : List Stmt} {P : Prop} {t : TS} (h : P → PSs X sts t) : PSs X sts (fun D' σ H => P ∧ t D' σ H) := ⟨fun pins s σ H D' I ⟨p, q⟩ => (h p).run pins s σ H D' I q⟩
theorem pss_any {sts : List Stmt} {ι : Type} {t : ι → TS} (h : ∀ i, PSs X sts (t i)) : PSs X sts (fun D' σ H => ∃ i, t i D' σ H) := ⟨fun pins s σ H D' I ⟨i, q⟩ => (h i).run pins s σ H D' I q⟩
theorem Vw.Has.tr (hX : v.Has X) {W : WX} {pn : List (Addr × Obj)} {xe : Value → Shared → Prop} (tk : Takes (X.tr pn xe) W) (po : PassesOwn (model X.prog X.w) X.A X.env xe) : Vw.Has { v with W := W } (X.tr pn xe) where
  hP := hX.hP
  hw := hX.hw
  hK := hX.hK
  hmg := hX.hmg
  hb := hX.hb
  hN := hX.hN
  hsc := hX.hsc
  calm := hX.calm
  room := hX.room
  gd := hX.gd
  tk := tk
  po := po
  nd := hX.nd
  fn := hX.fn
  stk := hX.stk
  kind := hX.kind
/-- isinstance(error, ValueError) in a suite -/
theorem pe_isErr (E : ErrOk v.pg) (hX : v.Has X) (y : Ex) {a : Addr} {oe : Obj} {pn : List (Addr × Obj)} {n : Str} {q1 q2 q3 : Pos} (i : Nat) (hz : Zc (.ref (v.cls y)) none oe) (hf : ∃ vs, oe.data = .fields vs) (hN : v.N[i]? = some n) (hl : v.sc.names.lookup n = some .local)
    (hd : (n == ("__debug__" : Str)) = false) (hcd : (n == ("__classdict__" : Str)) = false) (hgi : v.sc.names.lookup ("isinstance" : Str) = some .globalImplicit) (hgv : v.sc.names.lookup ("ValueError" : Str) = some .globalImplicit) :
    PE (X.suite a ((a, oe) :: pn)) (.Call (.Name "isinstance" q1) [.Name n q2, .Name "ValueError" q3] [] pos) (fun σ H Q => σ[i]? = some (some (.ref a)) ∧ Q (.bl true) H) := by
  have cE : ExcC X.K (v.cls y) := by rw [hX.hK]; exact E.C y
  have hv : PE (X.suite a ((a, oe) :: pn)) (.Name n q2) (tVar i) := pe_var (X := X.suite a ((a, oe) :: pn)) (by show X.N[i]? = _; rw [hX.hN]; exact hN) (.inl (by show X.env.scope.names.lookup n = _; rw [hX.hsc]; exact hl)) hd hcd
  have hV : PE (X.suite a ((a, oe) :: pn)) (.Name "ValueError" q3) (tC (.ty "ValueError")) := pe_bltn (X := X.suite a ((a, oe) :: pn)) (by show Gl X _; exact hX.gl hgv) (by show X.mg _ = none; rw [hX.hmg]; exact E.mv) (by decide +kernel) rfl
  refine (pe_callB (X := X.suite a ((a, oe) :: pn)) (call_isE cE hz hf) (by show Gl X _; exact hX.gl hgi) (by show X.mg _ = none; rw [hX.hmg]; exact E.mi) (by decide +kernel) (pa_cons hv (pa_cons hV pa_nil))).weak fun σ H Q ⟨e, q⟩ => ?_
  refine ⟨.ref a, e, .ty "ValueError", .type "ValueError", true, rfl, fun u r => ?_, ?_, q⟩
  · exact r
  · show PySem.W.kitOne X.K _ _ = _
    rw [hX.hK]
    exact E.kit y
/-- a slot of which nothing was known may hold anything -/
theorem EnvOk.forget {K : PySem.W.Frag} {B : Bs} {F H : Hp} {σ : L2.St} (h : EnvOk K B F H σ ρ) (i : Nat) : EnvOk K B F H (σ.set i none) (ρ.set i none) := h.wipe [i]
theorem Names.gl {X : Cx} {x : Str} {c : Addr} (h1 : Gl X x) (h2 : X.mg x = some (.ref c)) (h3 : (x == ("__debug__" : Str)) = false) : Names X x (.ref c) := ⟨h1, h3, .inl h2⟩
section
variable {body : List Stmt} {n : Str} {ρx : Rho} {q1 q2 q3 q4 q5 q6 q7 q8 r1 r2 r3 r4 r5 r6 r7 r8 : Pos} {k1 k2 j1 j2 : Nat}
/-- the suite «return () if isinstance(error, ValueError) else None» -/
theorem suite_none (E : ErrOk v.pg) (hX : v.Has X) (i : Nat) (hN : v.N[i]? = some n) (hl : v.sc.names.lookup n = some .local)
    (hd : (n == ("__debug__" : Str)) = false) (hcd : (n == ("__classdict__" : Str)) = false) (hgi : v.sc.names.lookup ("isinstance" : Str) = some .globalImplicit) (hgv : v.sc.names.lookup ("ValueError" : Str) = some .globalImplicit) :
    ∀ (a : Addr) (oe : Obj) (cls : Value) (d : Option Addr) (pn : List (Addr × Obj)), Zc cls d oe → (∃ vs, oe.data = .fields vs) → PSs (X.suite a ((a, oe) :: pn)) [.Return (some (.IfExp (.Call (.Name "isinstance" q1) [.Name n q2, .Name "ValueError" q3] [] q4) (.Tuple [] k1 q5) (.Constant .none j1 q6) q7)) q8]
      (fun D' σ H => ∃ y : Ex, (cls = .ref (v.cls y) ∧ d = none) ∧ σ[i]? = some (some (.ref a)) ∧ ∀ t, H t = none → D'.rt (.ref t) (upd H t (.tup []))) := by
  intro a oe cls d pn hz hf
  refine pss_any fun y => pss_if fun ⟨e1, e2⟩ => ?_
  subst e1 e2
  refine (pss_one (ps_ret (pe_ifExp (pt_val (pe_isErr (pos := q4) (q1 := q1) (q2 := q2) (q3 := q3) E hX y i hz hf hN hl hd hcd hgi hgv)) (pe_tup pa_nil) pe_non))).weak fun D' σ H ⟨h1, h2⟩ => ?_
  exact ⟨h1, true, rfl, ⟨Nat.zero_le _, h2⟩⟩
/-- try: .. except UnfitCard as error: return () if .. except TooWide as error: return () if .. -/
theorem s1_near (E : ErrOk v.pg) (i : Nat) {m : R β} (r0 : β) (h0 : G.enc r0 = .tuple []) (hb : ∀ W, Ss { v with W := W } { G with rx := ρx } csDead ρ body m) (hl0 : Le ρx (G.re r0)) (ht : v.top = true := by rfl)
    (hN : v.N[i]? = some n := by rfl) (hl : v.sc.names.lookup n = some .local := by rfl) (hd : (n == ("__debug__" : Str)) = false := by decide) (hcd : (n == ("__classdict__" : Str)) = false := by decide)
    (hgi : v.sc.names.lookup ("isinstance" : Str) = some .globalImplicit := by rfl) (hgv : v.sc.names.lookup ("ValueError" : Str) = some .globalImplicit := by rfl) (hgu : v.sc.names.lookup ("UnfitCard" : Str) = some .globalImplicit := by rfl) (hgw : v.sc.names.lookup ("TooWide" : Str) = some .globalImplicit := by rfl) :
    S1 v G C ρ (.Try body [.ExceptHandler (some (.Name "UnfitCard" p)) (some n) [.Return (some (.IfExp (.Call (.Name "isinstance" q1) [.Name n q2, .Name "ValueError" q3] [] q4) (.Tuple [] k1 q5) (.Constant .none j1 q6) q7)) q8] r8,
      .ExceptHandler (some (.Name "TooWide" p')) (some n) [.Return (some (.IfExp (.Call (.Name "isinstance" r1) [.Name n r2, .Name "ValueError" r3] [] r4) (.Tuple [] k2 r5) (.Constant .none j2 r6) r7)) p''] pos'] [] [] pos) (m.caught (.ok r0)) := fun X hX => by
  have hst := hX.stk ht
  have hh := HdsA.cons (X := X) (hs := [_]) (np := p) (hp := r8) (by rw [hX.hN]; exact hN) (by show X.env.scope.names.lookup n = _; rw [hX.hsc]; exact hl) (Names.gl (hX.gl hgu) (by rw [hX.hmg]; exact E.gu) (by decide)) (suite_none (q1 := q1) (q2 := q2) (q3 := q3) (q4 := q4) (q5 := q5) (q6 := q6) (q7 := q7) (q8 := q8) (k1 := k1) (j1 := j1) E hX i hN hl hd hcd hgi hgv)
    (HdsA.cons (X := X) (np := p') (hp := pos') (by rw [hX.hN]; exact hN) (by show X.env.scope.names.lookup n = _; rw [hX.hsc]; exact hl) (Names.gl (hX.gl hgw) (by rw [hX.hmg]; exact E.gw) (by decide)) (suite_none (q1 := r1) (q2 := r2) (q3 := r3) (q4 := r4) (q5 := r5) (q6 := r6) (q7 := r7) (q8 := p'') (k1 := k2) (j1 := j2) E hX i hN hl hd hcd hgi hgv) .nil)
  refine (ps_tryA (Wout := v.W) (pos := pos) hst.1 hst.2 hX.nd hX.tk (tb := fun W => rdS { v with W := W } { G with rx := ρx } csDead ρ m) (fun W pn xe tk po => hb W _ (hX.tr tk po)) hh).weak fun D' σ H ⟨B, F, hE, hW, g⟩ => ?_
  refine ⟨B, F, hE, ?_, ⟨fun t => t.elim, fun t => t.elim, fun t => t.elim⟩⟩
  · cases m with
    | ok b => exact hW
    | bad => exact hW
    | exc y =>
      intro σ1 H1 F1 s1 hE1
      have hE2 : ∀ t, H1 t = none → D'.rt (.ref t) (upd H1 t (.tup [])) := fun t nt => by
        have hW : WantS v B G F (.ok r0) D' := hW
        refine hW (.ref t) σ1 _ (upd F1 t (.tup [])) (s1.trans (Step.froz hE1.sub nt).fr) ((hE1.step (.froz hE1.sub nt)).le hl0) ?_
        rw [h0]
        exact .tup upd_same (Nat.zero_le _) .nil
      have fin : ∀ (a : Addr), i < σ1.length → ∃ z : Ex, (Value.ref (v.cls y) = .ref (v.cls z) ∧ (none : Option Addr) = none) ∧ (σ1.set i (some (V.ref a)))[i]? = some (some (.ref a)) ∧ ∀ t, H1 t = none → D'.rt (.ref t) (upd H1 t (.tup [])) :=
        fun a hi => ⟨y, ⟨rfl, rfl⟩, by rw [List.getElem?_set_self hi], hE2⟩
      cases y with
      | unfit => exact ⟨true, by rw [hX.hK]; exact E.ex .unfit .unfit, fun _ a na hi => fin a hi, fun z => nomatch z⟩
      | wide => exact ⟨false, by rw [hX.hK]; exact E.ex .wide .unfit, fun z => (nomatch z), fun _ => ⟨true, by rw [hX.hK]; exact E.ex .wide .wide, fun _ a na hi => fin a hi, fun z => nomatch z⟩⟩
/-- the suite «if not isinstance(error, ValueError): return False» -/
theorem suite_pass (E : ErrOk v.pg) (hX : v.Has X) (i : Nat) (hN : v.N[i]? = some n) (hl : v.sc.names.lookup n = some .local)
    (hd : (n == ("__debug__" : Str)) = false) (hcd : (n == ("__classdict__" : Str)) = false) (hgi : v.sc.names.lookup ("isinstance" : Str) = some .globalImplicit) (hgv : v.sc.names.lookup ("ValueError" : Str) = some .globalImplicit) :
    ∀ (a : Addr) (oe : Obj) (cls : Value) (d : Option Addr) (pn : List (Addr × Obj)), Zc cls d oe → (∃ vs, oe.data = .fields vs) → PSs (X.suite a ((a, oe) :: pn)) [.If (.UnaryOp .Not (.Call (.Name "isinstance" q1) [.Name n q2, .Name "ValueError" q3] [] q4) q5) [.Return (some (.Constant (.bool false) j1 q6)) q7] [] q8]
      (fun D' σ H => ∃ y : Ex, (cls = .ref (v.cls y) ∧ d = none) ∧ σ[i]? = some (some (.ref a)) ∧ D'.nx σ H) := by
  intro a oe cls d pn hz hf
  refine pss_any fun y => pss_if fun ⟨e1, e2⟩ => ?_
  subst e1 e2
  refine (pss_one (ps_if (pt_not (pt_val (pe_isErr (pos := q4) (q1 := q1) (q2 := q2) (q3 := q3) E hX y i hz hf hN hl hd hcd hgi hgv))) (pss_one (ps_ret pe_bl)) pss_nil)).weak fun D' σ H ⟨h1, h2⟩ => ?_
  exact ⟨h1, true, rfl, h2⟩
/-- try: .. (it returns) except UnfitCard as error: if not ..: return False -/
theorem s1_unfit (E : ErrOk v.pg) (i : Nat) {m : R β} {N : τ → Rho} {K : τ → R β} (t0 : τ) (hb : ∀ W, Ss { v with W := W } { G with rx := ρx } csDead ρ body m) (hl0 : Le (ρx.set i none) (N t0)) (hlx : Le ρx G.rx := by first | exact .nil | exact .k .nil | exact .refl _) (ht : v.top = true := by rfl)
    (hN : v.N[i]? = some n := by rfl) (hl : v.sc.names.lookup n = some .local := by rfl) (hd : (n == ("__debug__" : Str)) = false := by decide) (hcd : (n == ("__classdict__" : Str)) = false := by decide)
    (hgi : v.sc.names.lookup ("isinstance" : Str) = some .globalImplicit := by rfl) (hgv : v.sc.names.lookup ("ValueError" : Str) = some .globalImplicit := by rfl) (hgu : v.sc.names.lookup ("UnfitCard" : Str) = some .globalImplicit := by rfl) :
    S1 v G (C.to N K) ρ (.Try body [.ExceptHandler (some (.Name "UnfitCard" p)) (some n) [.If (.UnaryOp .Not (.Call (.Name "isinstance" q1) [.Name n q2, .Name "ValueError" q3] [] q4) q5) [.Return (some (.Constant (.bool false) j1 q6)) q7] [] q8] r8] [] [] pos) (m.caughtU (K t0)) := fun X hX => by
  have hst := hX.stk ht
  have hh := HdsA.cons (X := X) (hs := []) (np := p) (hp := r8) (by rw [hX.hN]; exact hN) (by show X.env.scope.names.lookup n = _; rw [hX.hsc]; exact hl) (Names.gl (hX.gl hgu) (by rw [hX.hmg]; exact E.gu) (by decide))
    (suite_pass (q1 := q1) (q2 := q2) (q3 := q3) (q4 := q4) (q5 := q5) (q6 := q6) (q7 := q7) (q8 := q8) (j1 := j1) E hX i hN hl hd hcd hgi hgv) .nil
  refine (ps_tryA (Wout := v.W) (pos := pos) hst.1 hst.2 hX.nd hX.tk (tb := fun W => rdS { v with W := W } { G with rx := ρx } csDead ρ m) (fun W pn xe tk po => hb W _ (hX.tr tk po)) hh).weak fun D' σ H ⟨B, F, hE, hW, g⟩ => ?_
  refine ⟨B, F, hE, ?_, ⟨fun t => t.elim, fun t => t.elim, fun t => t.elim⟩⟩
  · cases m with
    | ok b => exact hW
    | bad => exact hW
    | exc y =>
      intro σ1 H1 F1 s1 hE1
      cases y with
      | unfit =>
        refine ⟨true, by rw [hX.hK]; exact E.ex .unfit .unfit, fun _ a na hi => ⟨.unfit, ⟨rfl, rfl⟩, by rw [List.getElem?_set_self hi], ?_⟩, fun z => nomatch z⟩
        refine g.nx t0 _ H1 F1 s1 ?_ (WantS.mono s1 hW)
        rw [List.set_set]
        exact (hE1.forget i).le hl0
      | wide =>
        refine ⟨false, by rw [hX.hK]; exact E.ex .wide .unfit, fun z => (nomatch z), fun _ => ?_⟩
        exact hW σ1 H1 F1 s1 (hE1.le hlx)
end
end Cw
namespace Cw
open PySem PySem.Spec PyProof.Rows L2
variable {α β γ δ ε ζ η S τ τ1 κ : Type} {v : Vw} {ρ : Rho} {ρs : S → Rho} {μ : Md} {ea : α → D} {eb : β → D} {ec : γ → D} {a b c : Expr} {ma : R α} {mb : R β} {mc : R γ} {p pos : Pos} {G : Rt β} {C : Cs β} {rest : List Stmt}

theorem Ss.rho {ρ' : Rho} {sts : List Stmt} {m : R β} (h : Ss v G C ρ' sts m) (e : ρ = ρ') : Ss v G C ρ sts m := e ▸ h
theorem ss_fin {m : R β} (t : C.nx.τ) (l : Le ρ (C.nx.N t)) (hm : C.nx.K t = m) : Ss v G C ρ [] m := ss_nil (ρ' := []) t l hm
theorem ss_consL {st : Stmt} {m : R β} {N N' : τ → Rho} {K : τ → R β} (h1 : S1 v G (C.to N K) ρ st m) (h2 : ∀ t, Ss v G C (N' t) rest (K t)) (e : ∀ t, N t = N' t) : Ss v G C ρ (st :: rest) m := ss_cons h1 fun t => (e t).symm ▸ h2 t
theorem sj_consL {st : Stmt} {N1 N' : τ1 → Rho} {N : τ → Rho} {j1 : R τ1} {j2 : τ1 → R τ} {K : τ → R β} (h1 : ∀ K1 : τ1 → R β, S1 v G (C.to N1 K1) ρ st (j1.bind K1)) (h2 : ∀ t, Ss v G (C.to N K) (N' t) rest ((j2 t).bind K)) (e : ∀ t, N1 t = N' t) : Ss v G (C.to N K) ρ (st :: rest) ((j1.bind j2).bind K) :=
  sj_cons h1 fun t => (e t).symm ▸ h2 t
theorem R.cb_bind (m : R α) (f : α → R β) (g : β → R γ) : (m.cb f).bind g = m.cb fun a => (f a).bind g := by cases m <;> rfl
theorem sj_consE {st : Stmt} {N1 N' : τ1 → Rho} {N : τ → Rho} {j1 : R τ1} {j2 : τ1 → R τ} {K : τ → R β} (h1 : ∀ K1 : τ1 → R β, S1 v G (C.to N1 K1) ρ st (j1.cb K1)) (h2 : ∀ t, Ss v G (C.to N K) (N' t) rest ((j2 t).bind K)) (e : ∀ t, N1 t = N' t) : Ss v G (C.to N K) ρ (st :: rest) ((j1.cb j2).bind K) := by
  rw [R.cb_bind]
  exact ss_cons (C := C.to N K) (h1 _) fun t => (e t).symm ▸ h2 t
def csL (L : κ → Rho) (K nx : κ → R β) : Cs β := ⟨kNo, ⟨κ, L, K⟩, ⟨κ, L, nx⟩⟩
theorem s1_forR' {iter tg : Expr} {body : List Stmt} {mi : R (List α)} {js : List Nat} {upd : α → Rho → Rho} {L : κ → Rho} {K : κ → R β} {g : α → κ → R κ} {t0 : κ} (hi : Si v true ρ tg iter ea mi) (hg : Gt v tg ea js upd)
    (h0 : Le ρ (L t0)) (hb : ∀ x t nx, Ss v G ((csL L K nx).to L nx) (upd x (L t)) body ((g x t).bind nx)) (hs : ∀ env x, foldedSetIterable iter env x = pure x := by intro _ _; rfl) (hr : Le ρ G.rx := by first | exact .nil | exact .k .nil | exact .refl _) :
    S1 v G (C.to L K) ρ (.For tg iter body [] pos) ((mi.bind fun xs => forR g xs t0).bind K) := s1_forR hi hg h0 hb hs hr
/-- a test that may change the state -/
def R.cbIf (m : R (Bool × S)) (m1 m2 : S → R β) : R β := m.cb fun t => if t.1 then m1 t.2 else m2 t.2
@[simp] theorem R.cbIf_ok (t : Bool × S) (m1 m2 : S → R β) : R.cbIf (R.ok t) m1 m2 = if t.1 then m1 t.2 else m2 t.2 := rfl
/-- if c: .. (c may change the state) that doesn't come back -/
theorem ss_ifXE {c : Expr} {A : List Stmt} {mc : S → R (Bool × S)} {m1 m2 : S → R β} (s : S) (hc : Te v ρs c mc) (h1 : ∀ s, Ss v G (C.to (fun e : Empty => e.elim) (fun e : Empty => e.elim)) (ρs s) A (m1 s)) (h2 : ∀ s, Ss v G C (ρs s) rest (m2 s)) :
    Ss v G C (ρs s) (.If c A [] pos :: rest) (R.cbIf (mc s) m1 m2) :=
  ss_cons (N := ρs) (K := m2) (s1_ifE (C := C.to ρs m2) s hc (fun s X hX => (h1 s X hX).weak fun D' σ H ⟨B, F, hE, hW, g⟩ => ⟨B, F, hE, hW, ⟨fun t => t.elim, g.bk, g.ct⟩⟩)
    (fun s => ss_nil (C := C.to ρs m2) (ρ' := ρs s) s (.refl _) rfl)) h2
theorem cvT {e : α → D} (xs : List α) : eT eD (xs.map e) = eT e xs := by simp [eT, eD]
theorem cvL {e : α → D} (xs : List α) : eL eD (xs.map e) = eL e xs := by simp [eL, eD]
/-! ### calls of defs with a state -/
section calls
variable {T' : Type} {k : Nat} {x y : Str} {ps : List Str} {q2 : Pos} {e1 e2 e3 e4 e5 : Expr} {α1 α2 α3 α4 α5 : Type} {n1 : α1 → D} {n2 : α2 → D} {n3 : α3 → D} {n4 : α4 → D} {n5 : α5 → D} {m1 : S → R α1} {m2 : S → R α2} {m3 : S → R α3} {m4 : S → R α4} {m5 : S → R α5} {es : S → D} {re : D → Sl}
theorem bind_eta (m : R (α × S)) : (m.bind fun t => R.ok (t.1, t.2)) = m := by cases m <;> rfl
theorem ee_c0 {f : S → R (β × S)} (i : Nat) (h : Df v.pg k x ps (spI es (fun _ : Unit => []) eb fun _ => f)) (hk : k ≤ v.k) (l : Lens ρs i re es id fun _ t => t)
    (hN : v.N[i]? = some y := by rfl) (hv : Vis v.sc y := by first | exact Or.inl rfl | exact Or.inr (Or.inl rfl) | exact Or.inr (Or.inr rfl))
    (hd : (y == ("__debug__" : Str)) = false := by decide) (hcd : (y == ("__classdict__" : Str)) = false := by decide) (hg : v.sc.names.lookup x = some .globalImplicit := by rfl) (hdb : (x == ("__debug__" : Str)) = false := by decide)
    (he : ∀ env, starEach [.Name y q2] env = (false, eval (.Name y q2) env) :: starEach [] env := by intro _; rfl) (hpl : ∀ env, (backTo pos (starEach [] env)).any (·.1) = false := by intro _; rfl) :
    Ee v .V ρs (.Call (.Name x p) [.Name y q2] [] pos) eb f :=
  (ee_callI i h hk l (fun s => sar_nil) hN hv hd hcd hg hdb he hpl).cast fun s => bind_eta (f s)
theorem ee_c1 {f : α1 → S → R (β × S)} (i : Nat) (h : Df v.pg k x ps (spI es (fun q : α1 × Unit => [n1 q.1]) eb fun q => f q.1)) (hk : k ≤ v.k) (l : Lens ρs i re es id fun _ t => t) (h1 : ∀ s, Sx v .V (ρs s) e1 n1 (m1 s))
    (hN : v.N[i]? = some y := by rfl) (hv : Vis v.sc y := by first | exact Or.inl rfl | exact Or.inr (Or.inl rfl) | exact Or.inr (Or.inr rfl))
    (hd : (y == ("__debug__" : Str)) = false := by decide) (hcd : (y == ("__classdict__" : Str)) = false := by decide) (hg : v.sc.names.lookup x = some .globalImplicit := by rfl) (hdb : (x == ("__debug__" : Str)) = false := by decide)
    (he : ∀ env, starEach [.Name y q2, e1] env = (false, eval (.Name y q2) env) :: starEach [e1] env := by intro _; rfl) (s1 : ∀ env, starEach [e1] env = (false, eval e1 env) :: starEach [] env := by intro _; rfl)
    (hpl : ∀ env, (backTo pos (starEach [e1] env)).any (·.1) = false := by intro _; rfl) :
    Ee v .V ρs (.Call (.Name x p) [.Name y q2, e1] [] pos) eb fun s => (m1 s).bind fun a => f a s :=
  (ee_callI i h hk l (fun s => sar_cons (h1 s) sar_nil s1) hN hv hd hcd hg hdb he hpl).cast fun s => by
    cases m1 s with
    | ok a => exact bind_eta (f a s)
    | _ => rfl
theorem ee_c2 {f : α1 → α2 → S → R (β × S)} (i : Nat) (h : Df v.pg k x ps (spI es (fun q : α1 × α2 × Unit => [n1 q.1, n2 q.2.1]) eb fun q => f q.1 q.2.1)) (hk : k ≤ v.k) (l : Lens ρs i re es id fun _ t => t) (h1 : ∀ s, Sx v .V (ρs s) e1 n1 (m1 s)) (h2 : ∀ s, Sx v .V (ρs s) e2 n2 (m2 s))
    (hN : v.N[i]? = some y := by rfl) (hv : Vis v.sc y := by first | exact Or.inl rfl | exact Or.inr (Or.inl rfl) | exact Or.inr (Or.inr rfl))
    (hd : (y == ("__debug__" : Str)) = false := by decide) (hcd : (y == ("__classdict__" : Str)) = false := by decide) (hg : v.sc.names.lookup x = some .globalImplicit := by rfl) (hdb : (x == ("__debug__" : Str)) = false := by decide)
    (he : ∀ env, starEach [.Name y q2, e1, e2] env = (false, eval (.Name y q2) env) :: starEach [e1, e2] env := by intro _; rfl) (s1 : ∀ env, starEach [e1, e2] env = (false, eval e1 env) :: starEach [e2] env := by intro _; rfl) (s2 : ∀ env, starEach [e2] env = (false, eval e2 env) :: starEach [] env := by intro _; rfl)
    (hpl : ∀ env, (backTo pos (starEach [e1, e2] env)).any (·.1) = false := by intro _; rfl) :
    Ee v .V ρs (.Call (.Name x p) [.Name y q2, e1, e2] [] pos) eb fun s => (m1 s).bind fun a => (m2 s).bind fun b => f a b s :=
  (ee_callI i h hk l (fun s => sar_cons (h1 s) (sar_cons (h2 s) sar_nil s2) s1) hN hv hd hcd hg hdb he hpl).cast fun s => by
    cases m1 s with
    | ok a =>
      cases m2 s with
      | ok b => exact bind_eta (f a b s)
      | _ => rfl
    | _ => rfl
theorem ee_c3 {f : α1 → α2 → α3 → S → R (β × S)} (i : Nat) (h : Df v.pg k x ps (spI es (fun q : α1 × α2 × α3 × Unit => [n1 q.1, n2 q.2.1, n3 q.2.2.1]) eb fun q => f q.1 q.2.1 q.2.2.1)) (hk : k ≤ v.k) (l : Lens ρs i re es id fun _ t => t) (h1 : ∀ s, Sx v .V (ρs s) e1 n1 (m1 s)) (h2 : ∀ s, Sx v .V (ρs s) e2 n2 (m2 s)) (h3 : ∀ s, Sx v .V (ρs s) e3 n3 (m3 s))
    (hN : v.N[i]? = some y := by rfl) (hv : Vis v.sc y := by first | exact Or.inl rfl | exact Or.inr (Or.inl rfl) | exact Or.inr (Or.inr rfl))
    (hd : (y == ("__debug__" : Str)) = false := by decide) (hcd : (y == ("__classdict__" : Str)) = false := by decide) (hg : v.sc.names.lookup x = some .globalImplicit := by rfl) (hdb : (x == ("__debug__" : Str)) = false := by decide)
    (he : ∀ env, starEach [.Name y q2, e1, e2, e3] env = (false, eval (.Name y q2) env) :: starEach [e1, e2, e3] env := by intro _; rfl) (s1 : ∀ env, starEach [e1, e2, e3] env = (false, eval e1 env) :: starEach [e2, e3] env := by intro _; rfl) (s2 : ∀ env, starEach [e2, e3] env = (false, eval e2 env) :: starEach [e3] env := by intro _; rfl)
    (s3 : ∀ env, starEach [e3] env = (false, eval e3 env) :: starEach [] env := by intro _; rfl) (hpl : ∀ env, (backTo pos (starEach [e1, e2, e3] env)).any (·.1) = false := by intro _; rfl) :
    Ee v .V ρs (.Call (.Name x p) [.Name y q2, e1, e2, e3] [] pos) eb fun s => (m1 s).bind fun a => (m2 s).bind fun b => (m3 s).bind fun c => f a b c s :=
  (ee_callI i h hk l (fun s => sar_cons (h1 s) (sar_cons (h2 s) (sar_cons (h3 s) sar_nil s3) s2) s1) hN hv hd hcd hg hdb he hpl).cast fun s => by
    cases m1 s with
    | ok a =>
      cases m2 s with
      | ok b =>
        cases m3 s with
        | ok c => exact bind_eta (f a b c s)
        | _ => rfl
      | _ => rfl
    | _ => rfl
theorem ee_c4 {f : α1 → α2 → α3 → α4 → S → R (β × S)} (i : Nat) (h : Df v.pg k x ps (spI es (fun q : α1 × α2 × α3 × α4 × Unit => [n1 q.1, n2 q.2.1, n3 q.2.2.1, n4 q.2.2.2.1]) eb fun q => f q.1 q.2.1 q.2.2.1 q.2.2.2.1)) (hk : k ≤ v.k) (l : Lens ρs i re es id fun _ t => t) (h1 : ∀ s, Sx v .V (ρs s) e1 n1 (m1 s)) (h2 : ∀ s, Sx v .V (ρs s) e2 n2 (m2 s)) (h3 : ∀ s, Sx v .V (ρs s) e3 n3 (m3 s)) (h4 : ∀ s, Sx v .V (ρs s) e4 n4 (m4 s))
    (hN : v.N[i]? = some y := by rfl) (hv : Vis v.sc y := by first | exact Or.inl rfl | exact Or.inr (Or.inl rfl) | exact Or.inr (Or.inr rfl))
    (hd : (y == ("__debug__" : Str)) = false := by decide) (hcd : (y == ("__classdict__" : Str)) = false := by decide) (hg : v.sc.names.lookup x = some .globalImplicit := by rfl) (hdb : (x == ("__debug__" : Str)) = false := by decide)
    (he : ∀ env, starEach [.Name y q2, e1, e2, e3, e4] env = (false, eval (.Name y q2) env) :: starEach [e1, e2, e3, e4] env := by intro _; rfl) (s1 : ∀ env, starEach [e1, e2, e3, e4] env = (false, eval e1 env) :: starEach [e2, e3, e4] env := by intro _; rfl) (s2 : ∀ env, starEach [e2, e3, e4] env = (false, eval e2 env) :: starEach [e3, e4] env := by intro _; rfl)
    (s3 : ∀ env, starEach [e3, e4] env = (false, eval e3 env) :: starEach [e4] env := by intro _; rfl) (s4 : ∀ env, starEach [e4] env = (false, eval e4 env) :: starEach [] env := by intro _; rfl) (hpl : ∀ env, (backTo pos (starEach [e1, e2, e3, e4] env)).any (·.1) = false := by intro _; rfl) :
    Ee v .V ρs (.Call (.Name x p) [.Name y q2, e1, e2, e3, e4] [] pos) eb fun s => (m1 s).bind fun a => (m2 s).bind fun b => (m3 s).bind fun c => (m4 s).bind fun d => f a b c d s :=
  (ee_callI i h hk l (fun s => sar_cons (h1 s) (sar_cons (h2 s) (sar_cons (h3 s) (sar_cons (h4 s) sar_nil s4) s3) s2) s1) hN hv hd hcd hg hdb he hpl).cast fun s => by
    cases m1 s with
    | ok a =>
      cases m2 s with
      | ok b =>
        cases m3 s with
        | ok c =>
          cases m4 s with
          | ok d => exact bind_eta (f a b c d s)
          | _ => rfl
        | _ => rfl
      | _ => rfl
    | _ => rfl
end calls
/-! ### arithmetic with written numbers -/
section
variable {m : R Int} {j : Nat} {q : Pos} {i : Nat}
theorem sx_modC {i : Int} (h : Sx v .P ρ a eI m) (hi : 0 < i := by decide) : Sx v .V ρ (.BinOp a .Mod (.Constant (.int i) j q) pos) eI (m.bind fun x => .ok (x % i)) := (sx_op o_mod h (sx_VP sx_int)).cast (by
  cases m with
  | ok x => exact if_pos hi
  | _ => rfl)
theorem sx_divC {i : Int} (h : Sx v .P ρ a eI m) (hi : 0 < i ∧ i.natAbs.log2 < 9000 := by decide) : Sx v .V ρ (.BinOp a .FloorDiv (.Constant (.int i) j q) pos) eI (m.bind fun x => .ok (x / i)) := (sx_op o_div h (sx_VP sx_int)).cast (by
  cases m with
  | ok x => exact if_pos hi
  | _ => rfl)
theorem sx_mulC {i : Int} (h : Sx v .P ρ a eI m) (hi : i.natAbs < 2 ^ 64 := by decide) : Sx v .V ρ (.BinOp a .Mult (.Constant (.int i) j q) pos) eI (m.bind fun x => .ok (x * i)) := (sx_op o_mul h (sx_VP sx_int)).cast (by
  cases m with
  | ok x => exact if_pos (by simp [mulOk, hi])
  | _ => rfl)
theorem sx_mulD {i : Int} (h : Sx v .P ρ a eI m) (hi : i.natAbs < 2 ^ 64 := by decide) : Sx v .V ρ (.BinOp (.Constant (.int i) j q) .Mult a pos) eI (m.bind fun x => .ok (i * x)) := (sx_op o_mul (sx_VP sx_int) h).cast (by
  cases m with
  | ok x => exact if_pos (by simp [mulOk, hi])
  | _ => rfl)
end
/-- {} -/
theorem sx_dic0 : Sx v .V ρ (.Dict [] [] pos) eD (.ok (.dict [])) := fun X hX => pe_dnewK.weak fun σ H Q ⟨B, F, hE, hW⟩ t nt => by
  have hW : Po .V F H (.dict []) Q := hW
  exact hW _ _ (upd F t (.dK [])) (.froz hE.sub nt) (.dic upd_same)
def cutSR (x : Str) (lo hi : Option Int) : R Str := if x.length ≤ sizeLine then .ok (cutS x lo hi) else .bad
def sgnR (x : Str) : R (List Str) := if x.length ≤ sizeLine then .ok (sgn x) else .bad
/-! ### comprehensions given to a name at once -/
section
variable {elt tg iter : Expr} {scope : Scope} {own : List (Str × Nat)} {js : List Nat} {upd : α → Rho → Rho} {cb : α → Bool} {cf : α → R Bool} {mi : R (List α)} {f : α → R γ} {fb : α → γ} {y : Str} {py spos : Pos} {k : List γ → R β} {s : List γ → Sl}
theorem s1_lc1 (i : Nat) (hi : Si v false ρ tg iter ea mi) (ok : blkC v.N v.sc scope own = true) (hg : Gt (v.blk scope) tg ea js upd) (he : ∀ x, Sx (v.blk scope) .V (upd x (wipeR ρ (own.map (·.2)))) elt ec (f x)) (hsl : s = (fun l => .sh (eL ec l)) ∨ s = (fun l => .ow (eL ec l)))
    (hjs : ∀ j ∈ js, j ∈ own.map (·.2) := by decide) (hy : v.N[i]? = some y := by rfl) (hyl : v.sc.names.lookup y = some .local := by rfl) (hl : (py.line == pos.line) = true := by rfl) (hn : (scope.names.any fun (n, k) => n == y && (k == .local || k == .cell)) = false := by rfl)
    (hs : ∀ env x, foldedSetIterable iter env x = pure x := by intro _ _; rfl) (hr : Le ρ G.rx := by first | exact .nil | exact .k .nil | exact .refl _) :
    S1 v G (C.to (fun l => ρ.set i (some (s l))) k) ρ (.Assign [.Name y py] (.ListComp elt [⟨tg, iter, [], 0⟩] scope pos) spos) ((mi.bind fun l => R.mapM f l).bind k) :=
  (s1_lc (μ := .N) i hjs hy hyl hl hn hi ok hg (fun _ => tts_nil) he hsl hs hr).cast (by
    congr 2
    funext l
    exact R.fmapM_map f l)
theorem s1_lc1P (i : Nat) (hi : Si v false ρ tg iter ea mi) (ok : blkC v.N v.sc scope own = true) (hg : Gt (v.blk scope) tg ea js upd) (he : ∀ x, Sx (v.blk scope) .V (upd x (wipeR ρ (own.map (·.2)))) elt ec (.ok (fb x))) (hsl : s = (fun l => .sh (eL ec l)) ∨ s = (fun l => .ow (eL ec l)))
    (hjs : ∀ j ∈ js, j ∈ own.map (·.2) := by decide) (hy : v.N[i]? = some y := by rfl) (hyl : v.sc.names.lookup y = some .local := by rfl) (hl : (py.line == pos.line) = true := by rfl) (hn : (scope.names.any fun (n, k) => n == y && (k == .local || k == .cell)) = false := by rfl)
    (hs : ∀ env x, foldedSetIterable iter env x = pure x := by intro _ _; rfl) (hr : Le ρ G.rx := by first | exact .nil | exact .k .nil | exact .refl _) :
    S1 v G (C.to (fun l => ρ.set i (some (s l))) k) ρ (.Assign [.Name y py] (.ListComp elt [⟨tg, iter, [], 0⟩] scope pos) spos) ((mi.bind fun l => .ok (l.map fb)).bind k) :=
  (s1_lc1 i hi ok hg he hsl hjs hy hyl hl hn hs hr).cast (by
    congr 2
    funext l
    exact R.mapM_ok fb l)
theorem s1_lc2 {t : Expr} (i : Nat) (hi : Si v false ρ tg iter ea mi) (ok : blkC v.N v.sc scope own = true) (hg : Gt (v.blk scope) tg ea js upd) (ht : ∀ x, Tt (v.blk scope) (upd x (wipeR ρ (own.map (·.2)))) t (.ok (cb x))) (he : ∀ x, Sx (v.blk scope) .V (upd x (wipeR ρ (own.map (·.2)))) elt ec (f x)) (hsl : s = (fun l => .sh (eL ec l)) ∨ s = (fun l => .ow (eL ec l)))
    (hjs : ∀ j ∈ js, j ∈ own.map (·.2) := by decide) (hy : v.N[i]? = some y := by rfl) (hyl : v.sc.names.lookup y = some .local := by rfl) (hl : (py.line == pos.line) = true := by rfl) (hn : (scope.names.any fun (n, k) => n == y && (k == .local || k == .cell)) = false := by rfl)
    (hs : ∀ env x, foldedSetIterable iter env x = pure x := by intro _ _; rfl) (hr : Le ρ G.rx := by first | exact .nil | exact .k .nil | exact .refl _) :
    S1 v G (C.to (fun l => ρ.set i (some (s l))) k) ρ (.Assign [.Name y py] (.ListComp elt [⟨tg, iter, [t], 0⟩] scope pos) spos) ((mi.bind fun l => R.mapM f (l.filter cb)).bind k) :=
  (s1_lc (μ := .N) i hjs hy hyl hl hn hi ok hg (fun x => tts_one (ht x)) he hsl hs hr).cast (by
    congr 2
    funext l
    exact R.fmapM_filter cb f l)
theorem s1_lc2P {t : Expr} (i : Nat) (hi : Si v false ρ tg iter ea mi) (ok : blkC v.N v.sc scope own = true) (hg : Gt (v.blk scope) tg ea js upd) (ht : ∀ x, Tt (v.blk scope) (upd x (wipeR ρ (own.map (·.2)))) t (.ok (cb x))) (he : ∀ x, Sx (v.blk scope) .V (upd x (wipeR ρ (own.map (·.2)))) elt ec (.ok (fb x))) (hsl : s = (fun l => .sh (eL ec l)) ∨ s = (fun l => .ow (eL ec l)))
    (hjs : ∀ j ∈ js, j ∈ own.map (·.2) := by decide) (hy : v.N[i]? = some y := by rfl) (hyl : v.sc.names.lookup y = some .local := by rfl) (hl : (py.line == pos.line) = true := by rfl) (hn : (scope.names.any fun (n, k) => n == y && (k == .local || k == .cell)) = false := by rfl)
    (hs : ∀ env x, foldedSetIterable iter env x = pure x := by intro _ _; rfl) (hr : Le ρ G.rx := by first | exact .nil | exact .k .nil | exact .refl _) :
    S1 v G (C.to (fun l => ρ.set i (some (s l))) k) ρ (.Assign [.Name y py] (.ListComp elt [⟨tg, iter, [t], 0⟩] scope pos) spos) ((mi.bind fun l => .ok ((l.filter cb).map fb)).bind k) :=
  (s1_lc2 i hi ok hg ht he hsl hjs hy hyl hl hn hs hr).cast (by
    congr 2
    funext l
    exact R.mapM_ok fb _)
theorem s1_lc3 {t : Expr} (i : Nat) (hi : Si v false ρ tg iter ea mi) (ok : blkC v.N v.sc scope own = true) (hg : Gt (v.blk scope) tg ea js upd) (ht : ∀ x, Tt (v.blk scope) (upd x (wipeR ρ (own.map (·.2)))) t (cf x)) (he : ∀ x, Sx (v.blk scope) .V (upd x (wipeR ρ (own.map (·.2)))) elt ec (f x)) (hsl : s = (fun l => .sh (eL ec l)) ∨ s = (fun l => .ow (eL ec l)))
    (hjs : ∀ j ∈ js, j ∈ own.map (·.2) := by decide) (hy : v.N[i]? = some y := by rfl) (hyl : v.sc.names.lookup y = some .local := by rfl) (hl : (py.line == pos.line) = true := by rfl) (hn : (scope.names.any fun (n, k) => n == y && (k == .local || k == .cell)) = false := by rfl)
    (hs : ∀ env x, foldedSetIterable iter env x = pure x := by intro _ _; rfl) (hr : Le ρ G.rx := by first | exact .nil | exact .k .nil | exact .refl _) :
    S1 v G (C.to (fun l => ρ.set i (some (s l))) k) ρ (.Assign [.Name y py] (.ListComp elt [⟨tg, iter, [t], 0⟩] scope pos) spos) ((mi.bind fun l => filtM cf f l).bind k) :=
  s1_lc (μ := .N) i hjs hy hyl hl hn hi ok hg (fun x => tts_one (ht x)) he hsl hs hr
end
/-! ### builtins' names, the two raises -/
structure Bi (G : Pg) : Prop where
  len : G.mg "len" = none
  isinstance : G.mg "isinstance" = none
  int : G.mg "int" = none
  bool : G.mg "bool" = none
  str : G.mg "str" = none
  tuple : G.mg "tuple" = none
  list : G.mg "list" = none
  range : G.mg "range" = none
  sorted : G.mg "sorted" = none
  sum : G.mg "sum" = none
  max : G.mg "max" = none
  min : G.mg "min" = none
  abs : G.mg "abs" = none
  set : G.mg "set" = none
  repr : G.mg "repr" = none
  enumerate : G.mg "enumerate" = none
  zip : G.mg "zip" = none
  dict : G.mg "dict" = none
/-- what is raised -/
structure RaOk (G : Pg) : Prop where
  u : ClsOk G "UnfitCard" (G.cls .unfit) [.type "ValueError", .type "Exception", .type "BaseException", .type "object"]
  w : ClsOk G "TooWide" (G.cls .wide) [.type "ValueError", .type "Exception", .type "BaseException", .type "object"]
theorem s1_raise_unfit {q1 q2 q3 : Pos} {j : Nat} {m : Str} (E : RaOk v.pg) (hg : v.sc.names.lookup ("UnfitCard" : Str) = some .globalImplicit := by rfl) (hr : Le ρ G.rx := by first | exact .nil | exact .k .nil | exact .refl _) :
    S1 v G C ρ (.Raise (some (.Call (.Name "UnfitCard" q1) [.Constant (.str m) j q2] [] q3)) none pos) (.exc .unfit) := s1_raise PySem.F.excBase_ValueError rfl E.u hg (by decide) hr
theorem s1_raise_wide {q1 q2 q3 : Pos} {j : Nat} {m : Str} (E : RaOk v.pg) (hg : v.sc.names.lookup ("TooWide" : Str) = some .globalImplicit := by rfl) (hr : Le ρ G.rx := by first | exact .nil | exact .k .nil | exact .refl _) :
    S1 v G C ρ (.Raise (some (.Call (.Name "TooWide" q1) [.Constant (.str m) j q2] [] q3)) none pos) (.exc .wide) := s1_raise PySem.F.excBase_ValueError rfl E.w hg (by decide) hr
/-! ### the state of the draws -/
abbrev Sta := List Int × Int × Int × Int
def eSt (s : Sta) : D := .list [.list (s.1.map .int), .int s.2.1, .int s.2.2.1, .int s.2.2.2]
/-- where a def of the text stands -/
def Def (G : Pg) (x : Str) (st : Stmt) (ps : List Str) : Prop := ∃ fa fd, Fun G.K x x st fa fd ∧ G.mg x = some (.ref fa) ∧ Binds G.K fd ps []
theorem df_p {G : Pg} {x : Str} {st : Stmt} {N ps : List Str} {k : Nat} {enc : α → List D} {f : α → R β} (o : Option β) (ho : ∀ b, o = some b → eb b = .none) (d : Def G x st ps) (S : FnScope N ps (defScope st)) (hl : ∀ a, (enc a).length = ps.length) (body : ∀ a W, Ss (G.vw N (defScope st) k W) (pRt eb) (endK o) (rho0 N (enc a)) (defBody st) (f a)) :
    Df G (k + 1) x ps (spP G.cls enc eb f) := by
  obtain ⟨fa, fd, F, hm, hb⟩ := d
  exact df_pure o ho F S hm hb hl body
theorem df_i {G : Pg} {x : Str} {st : Stmt} {N ps : List Str} {k : Nat} {enc : α → List D} {es : S → D} {f : α → S → R (β × S)} (d : Def G x st ps) (Sc : FnScope N ps (defScope st)) (hl : ∀ a, (enc a).length + 1 = ps.length)
    (body : ∀ a s q W, Ss (G.vw N (defScope st) k W) (iRt eb q es) (endK none) (rhoI N q (es s) (enc a)) (defBody st) (f a s)) : Df G (k + 1) x ps (spI es enc eb f) := by
  obtain ⟨fa, fd, F, hm, hb⟩ := d
  exact df_io F Sc hm hb hl body
/-- a def of which nothing is asked -/
theorem df_no {G : Pg} {x : Str} {st : Stmt} {ps : List Str} {k : Nat} {sp : Sp} (d : Def G x st ps) (h : ∀ vs H Q E, ¬ sp vs H Q E) : Df G k x ps sp := by
  obtain ⟨fa, fd, F, hm, hb⟩ := d
  refine ⟨fa, fd, ⟨fun vs H Q E q => (h _ _ _ _ q).elim, fun _ _ _ _ _ _ _ _ _ _ _ _ _ _ q => (h _ _ _ _ q).elim⟩, hm, F.kp, hb⟩
theorem df_noP {G : Pg} {x : Str} {st : Stmt} {ps : List Str} {k : Nat} {enc : α → List D} (d : Def G x st ps) : Df G k x ps (spP G.cls enc eb fun _ => .bad) := df_no d fun vs H Q E ⟨a, F, _, _, q⟩ => q
theorem df_noI {G : Pg} {x : Str} {st : Stmt} {ps : List Str} {k : Nat} {enc : α → List D} {es : S → D} (d : Def G x st ps) : Df G k x ps (spI es enc eb fun _ _ => .bad) := df_no d fun vs H Q E ⟨a, s, F, q, us, _, _, _, _, _, h⟩ => h
end Cw
namespace Cw
open PySem PySem.Spec PyProof.Rows L2
variable {α β γ δ ε ζ η S : Type} {v : Vw} {ρ : Rho} {ρs : S → Rho} {μ : Md} {ea : α → D} {eb : β → D} {ec : γ → D} {a b c : Expr} {ma : R α} {mb : R β} {mc : R γ} {p pos : Pos}

/-! ### the order of data of one kind -/
structure Od {α : Type} [DecidableEq α] (e : α → D) where
  lt : α → α → Bool
  fit : α → Bool
  alk : ∀ a b, PySem.W.alike (e a) (e b) = true
  srt : (∀ a, fit a = true → ∃ x r, e a = .tuple (x :: r)) ∨ ∀ a, e a ≠ .none ∧ ∀ xs, e a ≠ .tuple xs
  lay : ∀ a, (e a).canLay0 = true
  dep : ∀ a, (e a).depth ≤ 60
  is : ∀ a b, PySem.W.dataLt (e a) (e b) = lt a b
  eqv : ∀ a b, PyData.eqv (e a) (e b) = decide (a = b)
  irr : ∀ a, lt a a = false
  asym : ∀ a b, lt a b = true → lt b a = false
  tr : ∀ a b c, lt a b = true → lt b c = true → lt a c = true
  anti : ∀ a b, lt a b = false → lt b a = false → a = b
section
variable [DecidableEq α] {e : α → D} (o : Od e)
def Od.le (a b : α) : Bool := !o.lt b a
theorem Od.tot (a b : α) : o.le a b = true ∨ o.le b a = true := by
  unfold Od.le
  cases h : o.lt b a with
  | false => exact .inl rfl
  | true => right; rw [o.asym _ _ h]; rfl
theorem Od.letr (a b c : α) (h1 : o.le a b = true) (h2 : o.le b c = true) : o.le a c = true := by
  unfold Od.le at *
  rw [Bool.not_eq_true'] at *
  cases h : o.lt c a with
  | false => rfl
  | true =>
    cases h3 : o.lt a b with
    | true => have := o.tr _ _ _ h h3; rw [h2] at this; cases this
    | false =>
      have := o.anti _ _ h3 h1
      subst this
      rw [h2] at h; cases h
theorem perm_sorted_eqG : ∀ {xs ys : List α}, xs.Perm ys → xs.Pairwise (fun a b => o.le a b = true) → ys.Pairwise (fun a b => o.le a b = true) → xs = ys
  | [], ys, h, _, _ => by rw [h.nil_eq]
  | x :: xs, [], h, _, _ => by have := h.length_eq; simp at this
  | x :: xs, y :: ys, h, h1, h2 => by
    have e : x = y := by
      rw [List.pairwise_cons] at h1 h2
      rcases List.mem_cons.mp (h.mem_iff.mp List.mem_cons_self) with q | q
      · exact q
      · rcases List.mem_cons.mp (h.mem_iff.mpr List.mem_cons_self) with q2 | q2
        · exact q2.symm
        · have a1 := h2.1 _ q
          have a2 := h1.1 _ q2
          unfold Od.le at a1 a2
          rw [Bool.not_eq_true'] at a1 a2
          exact o.anti _ _ a1 a2
    subst e
    rw [perm_sorted_eqG h.cons_inv h1.of_cons h2.of_cons]
def sortBy (o : Od e) (xs : List α) : R (List α) := if decide (xs.length ≤ 1) || xs.all o.fit then .ok (isort o.le xs) else .bad
theorem merge_is (xs : List α) : xs.mergeSort o.le = isort o.le xs :=
  perm_sorted_eqG o ((List.mergeSort_perm xs _).trans (isort_perm _ xs).symm) (List.pairwise_mergeSort (fun a b c => o.letr a b c) (fun a b => by have := o.tot a b; simpa using this) xs) (isort_sorted o.tot o.letr xs)
theorem isort_short {le : α → α → Bool} : ∀ {xs : List α}, xs.length ≤ 1 → isort le xs = xs
  | [], _ => rfl
  | [x], _ => rfl
  | _ :: _ :: _, h => by simp at h
theorem rpA_dpA {K : PySem.W.Frag} {F H : Hp} (s : Same F H) : ∀ {ds : List D} {xs : List V}, (∀ d ∈ ds, d.canLay0 = true) → RpA F xs ds → DpAll K H xs ds
  | _, _, h, r => rpA_dp s (by
    rename_i ds xs
    clear r
    induction ds with
    | nil => simp [PyData.canLayAll0]
    | cons d ds ih =>
      simp only [PyData.canLayAll0, Bool.and_eq_true]
      exact ⟨h d List.mem_cons_self, ih fun x hx => h x (List.mem_cons_of_mem _ hx)⟩) r
/-- values with what they stand for -/
theorem each_of {F : Hp} {h : Heap} : ∀ {xs : List V} {bs : List α} {us : List Value}, Vals xs us → RpA F xs (bs.map e) → PySem.W.EachIs (fun u b => ∃ x, RelV x u ∧ Rp F x (e b)) us bs
  | _, [], _, r, q => by
    cases q
    cases r
    exact .nil
  | _, b :: bs, _, r, q => by
    cases q with
    | cons q1 q2 =>
      cases r with
      | cons r1 r2 => exact .cons ⟨_, r1, q1⟩ (each_of (h := h) r2 q2)
theorem of_each {F : Hp} : ∀ {bs : List α} {us : List Value}, PySem.W.EachIs (fun u b => ∃ x, RelV x u ∧ Rp F x (e b)) us bs → ∃ xs, Vals xs us ∧ RpA F xs (bs.map e)
  | _, _, .nil => ⟨[], .nil, .nil⟩
  | _, _, .cons ⟨x, r1, q1⟩ t => by
    obtain ⟨xs, r2, q2⟩ := of_each t
    exact ⟨x :: xs, .cons r1 r2, .cons q1 q2⟩
theorem sorted_run {X : Cx} (hX : v.Has X) {pins : List (Addr × Obj)} {s : Shared} {σ : L2.St} {H F : Hp} {q : Addr} {xs : List V} {bs : List α} {Q : VK} (I : Inv X pins σ H s) (sm : Same F H) (hH : SqL X.K H q xs) (r : RpA F xs (bs.map e)) (hz : xs.length ≤ sizeLine)
    (hf : (decide (bs.length ≤ 1) || bs.all o.fit) = true) (hQ : ∀ p ys, H p = none → ys.length ≤ sizeLine → RpA F ys ((isort o.le bs).map e) → Q (.ref p) (upd H p (.lst ys))) :
    wpAny (model X.prog X.w) X.A (call (.builtin "sorted") [.ref q]) (EP X pins σ Q) X.xe s := by
  obtain ⟨its, rv, hl, hz2⟩ := I.list hH
  have hlen : its.length = bs.length := by
    have := rv.length
    have := r.length
    rw [List.length_map] at this
    omega
  have fin : ∀ out : List Value, out.length = its.length → PySem.W.EachIs (fun u b => ∃ x, RelV x u ∧ Rp F x (e b)) out (isort o.le bs) → EP X pins σ Q (.ref (s.heap.objs.size + 1)) { s with heap := sortedAll s.heap its out.toArray } := fun out hol he => by
    obtain ⟨ys, r1, r2⟩ := of_each he
    obtain ⟨ep, he'⟩ := PyProof.Rows.sortedAll_at s.heap its out.toArray
    have hy : ys.length ≤ sizeLine := by
      have := r1.length
      have := rv.length
      omega
    exact ⟨.ref _, upd H (s.heap.objs.size + 1) (.lst ys), I.laid (t' := s.toks) (fun _ _ => PyProof.Rows.sortedAll_old) (Nat.le_succ _) ⟨hy, out, ep, r1, he'⟩, rfl, hQ _ ys (I.hok.fresh (Nat.le_succ _)) hy r2⟩
  by_cases h1 : bs.length ≤ 1
  · refine SrtO.sorted_ord (ltv := fun _ _ => false) ⟨fun _ _ h => (nomatch h), fun _ _ _ _ _ => rfl⟩ hl.isList (by have := rv.length; omega) (fun h2 => absurd h2 (by omega)) fun out h2 h3 => ?_
    have eo : out = its := by
      have hp := h3.perm
      match its, hlen, hp with
      | [], _, hp => exact hp.eq_nil
      | [x], _, hp => exact List.perm_singleton.mp hp
      | _ :: _ :: _, hlen, _ => simp at hlen; omega
    subst eo
    refine fin _ rfl ?_
    rw [isort_short h1]
    exact each_of (h := s.heap) rv r
  · have hf' : ∀ b ∈ bs, o.fit b = true := by
      simp only [h1, decide_false, Bool.false_or, List.all_eq_true] at hf
      exact hf
    have er : PySem.W.EachIs (fun u b => ∃ as, Reads s.heap u (e b) as) its bs := by
      refine (each_of (h := s.heap) rv r).mono fun u b ⟨x, r1, r2⟩ => ?_
      exact Dp.reads I (e b) x u (rp_dp sm (o.lay b) r2) r1
    have hun := hX.room.units
    refine PySem.W.sorted_data (enc := e) (bs := bs) hl.isList (each_of (h := s.heap) rv r) er (PySem.W.AllAlike.of o.alk) ?_ (by have := rv.length; omega) (fun b _ => by have := o.dep b; omega) fun out h2 h3 => ?_
    · rcases o.srt with h | h
      · refine .inl fun d hd => ?_
        obtain ⟨b, hb, rfl⟩ := List.mem_map.mp hd
        exact h b (hf' b hb)
      · exact .inr fun d hd => by
          obtain ⟨b, _, rfl⟩ := List.mem_map.mp hd
          exact h b
    · refine fin out (by omega) ?_
      have ele : PySem.W.dataLe false e = o.le := by
        funext a b
        show (!PySem.W.dataLt (e b) (e a)) = !o.lt b a
        rw [o.is]
      rw [ele, merge_is] at h3
      exact h3
theorem c_sortedLO : Cl1 v (.builtin "sorted") .N (eL e) (eL e) (sortBy o) where
  calm := fun xs x => by unfold sortBy; split <;> nofun
  run := fun X hX => by
    intro pins s σ H xs us Q I rr ⟨F, x, bs, e1, sm, n, c, g, q⟩
    unfold sortBy at g
    split at g
    · rename_i hf
      cases g
      subst e1
      obtain ⟨p, ys, rfl, h, r, z⟩ := nwLst sm n
      obtain ⟨u, rfl, ru⟩ := vals1 rr
      cases ru
      obtain ⟨ds, e2, q⟩ := q
      cases e2
      exact sorted_run o hX I sm (.of h) r z hf fun t zs nt hz r2 => q t zs _ F (.laid sm nt) nt (sm.free nt) upd_same hz (r2.mono fun _ _ e => e)
    · cases g
end
/-! ### kinds with an order -/
def odI : Od eI where
  lt a b := decide (a < b)
  fit _ := true
  alk _ _ := by simp [PySem.W.alike]
  srt := .inr fun a => ⟨by simp [eI], by simp [eI]⟩
  lay := eqq_int.lay
  dep a := by simp [PyData.depth]
  is a b := PySem.W.dataLt_int a b
  eqv := eqq_int.eq
  irr a := by simp
  asym a b h := by simp at *; omega
  tr a b c h h' := by simp at *; omega
  anti a b h h' := by simp at *; omega
def lexL [DecidableEq α] (lt : α → α → Bool) : List α → List α → Bool
  | [], [] => false
  | [], _ :: _ => true
  | _ :: _, [] => false
  | x :: xs, y :: ys => if x = y then lexL lt xs ys else lt x y
section
variable [DecidableEq α] {e : α → D} (o : Od e)
include o in
theorem alikeAll_map : ∀ xs ys : List α, PySem.W.alikeAll (xs.map e) (ys.map e) = true
  | [], _ => by simp [PySem.W.alikeAll]
  | _ :: _, [] => by simp [PySem.W.alikeAll]
  | x :: xs, y :: ys => by simp [PySem.W.alikeAll, o.alk, alikeAll_map xs ys]
theorem rowLt_map : ∀ xs ys : List α, PySem.W.rowLt (xs.map e) (ys.map e) = lexL o.lt xs ys
  | [], [] => PySem.W.dataLt_ints [] []
  | [], y :: ys => by
    show PySem.W.rowLt [] (e y :: ys.map e) = true
    unfold PySem.W.rowLt
    simp only [PySem.W.keyToksAll]
    rw [PyProof.Rows.lex_diff (O := itemOrd) (by simp)]
    rfl
  | x :: xs, [] => by
    show PySem.W.rowLt (e x :: xs.map e) [] = false
    unfold PySem.W.rowLt
    simp only [PySem.W.keyToksAll]
    rw [PyProof.Rows.lex_diff (O := itemOrd) (by simp)]
    rfl
  | x :: xs, y :: ys => by
    show PySem.W.rowLt (e x :: xs.map e) (e y :: ys.map e) = _
    unfold PySem.W.rowLt
    rw [PySem.W.dataLt_cons (o.alk x y), o.eqv, o.is]
    have := rowLt_map xs ys
    unfold PySem.W.rowLt at this
    rw [this]
    simp [lexL]
theorem lexL_irr {lt : α → α → Bool} : ∀ xs : List α, lexL lt xs xs = false
  | [] => rfl
  | x :: xs => by simp [lexL, lexL_irr xs]
theorem lexL_asym : ∀ xs ys : List α, lexL o.lt xs ys = true → lexL o.lt ys xs = false
  | [], [], h => by cases h
  | [], _ :: _, _ => rfl
  | _ :: _, [], h => by cases h
  | x :: xs, y :: ys, h => by
    unfold lexL at h ⊢
    by_cases q : x = y
    · subst q; simp only [if_true] at h ⊢; exact lexL_asym xs ys h
    · rw [if_neg q] at h
      rw [if_neg (fun z => q z.symm)]
      exact o.asym _ _ h
theorem lexL_tr : ∀ xs ys zs : List α, lexL o.lt xs ys = true → lexL o.lt ys zs = true → lexL o.lt xs zs = true
  | [], [], _, h, _ => by cases h
  | _ :: _, [], _, h, _ => by cases h
  | _, _ :: _, [], _, h => by cases h
  | [], _ :: _, _ :: _, _, _ => rfl
  | x :: xs, y :: ys, z :: zs, h, h' => by
    unfold lexL at h h' ⊢
    by_cases q : x = y
    · subst q
      simp only [if_true] at h
      by_cases q2 : x = z
      · subst q2; simp only [if_true] at h' ⊢; exact lexL_tr xs ys zs h h'
      · rw [if_neg q2] at h' ⊢; exact h'
    · rw [if_neg q] at h
      by_cases q2 : y = z
      · subst q2; rw [if_neg q]; exact h
      · rw [if_neg q2] at h'
        have := o.tr _ _ _ h h'
        by_cases q3 : x = z
        · subst q3
          rw [o.irr] at this; cases this
        · rw [if_neg q3]; exact this
theorem lexL_anti : ∀ xs ys : List α, lexL o.lt xs ys = false → lexL o.lt ys xs = false → xs = ys
  | [], [], _, _ => rfl
  | [], _ :: _, h, _ => by cases h
  | _ :: _, [], _, h => by cases h
  | x :: xs, y :: ys, h, h' => by
    unfold lexL at h h'
    by_cases q : x = y
    · subst q
      simp only [if_true] at h h'
      rw [lexL_anti xs ys h h']
    · rw [if_neg q] at h
      rw [if_neg (fun z => q z.symm)] at h'
      exact absurd (o.anti _ _ h h') q
theorem Od.eqvAll (o : Od e) : ∀ xs ys : List α, PyData.eqvAll (xs.map e) (ys.map e) = decide (xs = ys) := eqvAll_map o.eqv
end
section
variable [DecidableEq α] {e : α → D}
theorem depthAll_le {n : Nat} (h : ∀ a, (e a).depth ≤ n) (xs : List α) : PyData.depthAll (xs.map e) ≤ n := depAll_map h xs
def odT (o : Od e) (hd : ∀ a, (e a).depth ≤ 59) : Od (eT e) where
  lt := lexL o.lt
  fit xs := !xs.isEmpty
  alk xs ys := by
    show PySem.W.alike (.tuple _) (.tuple _) = true
    unfold PySem.W.alike
    exact alikeAll_map o xs ys
  srt := .inl fun xs h => by
    cases xs with
    | nil => cases h
    | cons x xs => exact ⟨e x, xs.map e, rfl⟩
  lay xs := by
    show PyData.canLay0 (.tuple _) = true
    simp only [PyData.canLay0]
    exact layAll_map o.lay xs
  dep xs := by
    show PyData.depth (.tuple _) ≤ 60
    simp only [PyData.depth]
    have := depthAll_le hd xs
    omega
  is xs ys := by
    show PySem.W.dataLt (.tuple _) (.tuple _) = _
    rw [PySem.W.dataLt_tuple]
    exact rowLt_map o xs ys
  eqv xs ys := by
    show PyData.eqv (.tuple _) (.tuple _) = _
    simp only [PyData.eqv]
    exact eqvAll_map o.eqv xs ys
  irr := lexL_irr
  asym := lexL_asym o
  tr := lexL_tr o
  anti := lexL_anti o
def odTI : Od (eT eI) := odT odI fun a => by simp [PyData.depth]
/-- pairs -/
def odP [DecidableEq β] {f : β → D} (o : Od e) (o' : Od f) (hd : ∀ a, (e a).depth ≤ 59) (hd' : ∀ a, (f a).depth ≤ 59) : Od (eP e f) where
  lt p q := if p.1 = q.1 then o'.lt p.2 q.2 else o.lt p.1 q.1
  fit _ := true
  alk p q := by
    show PySem.W.alike (.tuple _) (.tuple _) = true
    simp [PySem.W.alike, PySem.W.alikeAll, o.alk, o'.alk]
  srt := .inl fun p _ => ⟨_, _, rfl⟩
  lay p := by
    show PyData.canLay0 (.tuple _) = true
    simp [PyData.canLay0, PyData.canLayAll0, o.lay, o'.lay]
  dep p := by
    show PyData.depth (.tuple _) ≤ 60
    have := hd p.1
    have := hd' p.2
    simp only [PyData.depth, PyData.depthAll]
    omega
  is p q := by
    show PySem.W.dataLt (.tuple _) (.tuple _) = _
    rw [PySem.W.dataLt_pair (o.alk _ _) (o'.alk _ _), o.eqv, o'.eqv, o.is, o'.is]
    by_cases h : p.1 = q.1 <;> by_cases h' : p.2 = q.2 <;> simp [h, h', o'.irr]
  eqv p q := by
    show PyData.eqv (.tuple _) (.tuple _) = _
    simp only [PyData.eqv, PyData.eqvAll, o.eqv, o'.eqv, Bool.and_true]
    rw [← Bool.decide_and]
    congr 1
    exact propext ⟨fun h => Prod.ext h.1 h.2, fun h => by rw [h]; exact ⟨rfl, rfl⟩⟩
  irr p := by simp [o'.irr]
  asym p q h := by
    by_cases z : p.1 = q.1
    · rw [if_pos z] at h; rw [if_pos z.symm]; exact o'.asym _ _ h
    · rw [if_neg z] at h; rw [if_neg (fun y => z y.symm)]; exact o.asym _ _ h
  tr p q r h h' := by
    by_cases z : p.1 = q.1
    · rw [if_pos z] at h
      by_cases y : q.1 = r.1
      · rw [if_pos y] at h'; rw [if_pos (z.trans y)]; exact o'.tr _ _ _ h h'
      · rw [if_neg y] at h'; rw [if_neg (fun x => y (z.symm.trans x)), z]; exact h'
    · rw [if_neg z] at h
      by_cases y : q.1 = r.1
      · rw [if_pos y] at h'; rw [if_neg (fun x => z (x.trans y.symm)), ← y]; exact h
      · rw [if_neg y] at h'
        have := o.tr _ _ _ h h'
        by_cases x : p.1 = r.1
        · rw [x, o.irr] at this; cases this
        · rw [if_neg x]; exact this
  anti p q h h' := by
    by_cases z : p.1 = q.1
    · rw [if_pos z] at h; rw [if_pos z.symm] at h'
      exact Prod.ext z (o'.anti _ _ h h')
    · rw [if_neg z] at h; rw [if_neg (fun y => z y.symm)] at h'
      exact absurd (o.anti _ _ h h') z
end
end Cw
namespace Cw
open PySem PySem.Spec PyProof.Rows L2
variable {α β γ δ ε ζ η S τ τ1 κ : Type} {v : Vw} {ρ : Rho} {ρs : S → Rho} {μ : Md} {ea : α → D} {eb : β → D} {ec : γ → D} {a b c : Expr} {ma : R α} {mb : R β} {mc : R γ} {p pos : Pos} {G : Rt β} {C : Cs β} {rest : List Stmt}
theorem s1_setItemF {x : Str} {q1 q2 : Pos} {b : Expr} {xs : List α} {mi : S → R Int} {k : List α × S → R β} {re : List D → Sl} {e : Expr} {m : S → R (α × S)} (i : Nat) (s : S) (w : ∀ s, Owns (ρs s) i (xs.map ea) re) (h : Ee v .V ρs e ea m) (h2 : ∀ s, Sx v .V (ρs s) b eI (mi s)) (hN : v.N[i]? = some x := by rfl) (hv : Vis v.sc x := by first | exact Or.inl rfl | exact Or.inr (Or.inl rfl) | exact Or.inr (Or.inr rfl))
    (hd : (x == ("__debug__" : Str)) = false := by decide) (hcd : (x == ("__classdict__" : Str)) = false := by decide)
    (ha : ∀ env u, assign (.Subscript (.Name x q1) b q2) env u = (do
      let o ← holding [u] (eval (.Name x q1) env)
      let j ← holding [u, o] (eval b env)
      standAt q2
      holding [u, o, j] (setItem o j u)
      release [u, o, j] []) := by intro _ _; rfl)
    (hs : ∀ env, swapsWithSole [.Subscript (.Name x q1) b q2] e pos.line env = pure false := by intro _; rfl) (hw : ∀ env, swappedStores [.Subscript (.Name x q1) b q2] e env = pure none := by intro _; rfl)
    (h1 : ∀ env, (assignEach [.Subscript (.Name x q1) b q2] env).map (·.2) = [assign (.Subscript (.Name x q1) b q2) env] := by intro _; rfl) :
    S1 v G (C.to (fun t => (ρs t.2).set i (some (re (t.1.map ea)))) k) (ρs s) (.Assign [.Subscript (.Name x q1) b q2] e pos) (((m s).bind fun t => ((mi t.2).bind fun j => setR xs j t.1).bind fun ys => .ok (ys, t.2)).cb k) :=
  (s1_setItemE i s w h h2 hN hv hd hcd ha hs hw h1).cast (by
    cases m s with
    | ok t =>
      show ((mi t.2).bind fun j => setR xs j t.1).cb _ = (((mi t.2).bind fun j => setR xs j t.1).bind _).cb k
      cases (mi t.2).bind fun j => setR xs j t.1 <;> rfl
    | _ => rfl)
theorem s1_forK' {iter tg : Expr} {body : List Stmt} {mi : R (List α)} {js : List Nat} {upd : α → Rho → Rho} {L : κ → Rho} {K : κ → R β} {f : α → κ → (κ → R β) → R β} {t0 : κ} (hi : Si v true ρ tg iter ea mi) (hg : Gt v tg ea js upd)
    (h0 : Le ρ (L t0)) (hb : ∀ x t nx, Ss v G ((csL L K nx).to L nx) (upd x (L t)) body (f x t nx)) (hs : ∀ env x, foldedSetIterable iter env x = pure x := by intro _ _; rfl) (hr : Le ρ G.rx := by first | exact .nil | exact .k .nil | exact .refl _) :
    S1 v G (C.to L K) ρ (.For tg iter body [] pos) (mi.bind fun xs => forK f K xs t0) := s1_for hi hg h0 hb hs hr
theorem s1_whileK' {c : Expr} {body : List Stmt} {L : κ → Rho} {K : κ → R β} {mc : κ → R Bool} {f : κ → (κ → R β) → R β} {t0 : κ} (n : Nat) (h0 : Le ρ (L t0)) (hc : ∀ t, Tt v (L t) c (mc t)) (hb : ∀ t nx, Ss v G ((csL L K nx).to L nx) (L t) body (f t nx))
    (hr : ∀ t, Le (L t) G.rx := by intro _; exact .nil) : S1 v G (C.to L K) ρ (.While c body [] pos) (whileK mc f K n t0) := s1_while n h0 hc hb hr
end Cw
namespace Cw
open PySem PySem.Spec PyProof.Rows L2
variable {α β γ δ ε ζ η S τ τ1 κ : Type} {v : Vw} {ρ : Rho} {ρs : S → Rho} {μ : Md} {ea : α → D} {eb : β → D} {ec : γ → D} {a b c : Expr} {ma : R α} {mb : R β} {mc : R γ} {p pos : Pos} {G : Rt β} {C : Cs β} {rest : List Stmt}
/-- list(script) -/
theorem sx_scr {x : Str} {q1 : Pos} (i : Nat) {ad : Addr} {ns : List Int} (hz : ns.length ≤ sizeLine) (hr : ρ[i]? = some (some (.scr ad ns))) (hm : v.mg "list" = none) (hN : v.N[i]? = some x := by rfl)
    (hv : Vis v.sc x := by first | exact Or.inl rfl | exact Or.inr (Or.inl rfl) | exact Or.inr (Or.inr rfl)) (hd : (x == ("__debug__" : Str)) = false := by decide) (hcd : (x == ("__classdict__" : Str)) = false := by decide)
    (hg : v.sc.names.lookup ("list" : Str) = some .globalImplicit := by rfl) (he : ∀ env, starEach [.Name x q1] env = (false, eval (.Name x q1) env) :: starEach [] env := by intro _; rfl) :
    Sx v .N ρ (.Call (.Name "list" p) [.Name x q1] [] pos) (eL eI) (.ok ns) := fun X hX =>
  (pe_callTy (T := "list") call_list_of (hX.gl hg) (by rw [hX.hmg]; exact hm) (by decide +kernel) (pa_cons (hX.pv i hN hv hd hcd) pa_nil (he _)) (by decide) (by decide) (he _) (by rfl)).weak fun σ H Q ⟨B, F, hE, hW⟩ => by
    obtain ⟨u, e1, rfl, hS⟩ := hE.at hr
    refine ⟨_, e1, ad, ns.map V.int, rfl, 
      .inl (hE.sub.seq (by rw [hX.hK]; exact hS)), fun t nt => ?_⟩
    obtain ⟨ds, e2, q⟩ := (hW : Po .N F H (eL eI ns) Q)
    cases e2
    exact q t _ _ F (.laid hE.sub nt) nt (hE.sub.free nt) upd_same (by rw [List.length_map]; exact hz) (.of_ints _)
theorem si_rng1P {tg : Expr} {n : Int} (hm : v.mg "range" = none) (h : Sx v .V ρ a eI (.ok n)) (hg : v.sc.names.lookup ("range" : Str) = some .globalImplicit := by rfl) (he : ∀ env, starEach [a] env = (false, eval a env) :: starEach [] env := by intro _; rfl) :
    Si v true ρ tg (.Call (.Name "range" p) [a] [] pos) eI (rng1 n) := si_rng1 hm h hg he
theorem si_rng1L {tg : Expr} {n : Int} (hm : v.mg "range" = none) (h : Sx v .V ρ a eI (.ok n)) (hn : rng1 n = .ok (rng 0 n) := by decide +kernel) (hg : v.sc.names.lookup ("range" : Str) = some .globalImplicit := by rfl) (he : ∀ env, starEach [a] env = (false, eval a env) :: starEach [] env := by intro _; rfl) :
    Si v true ρ tg (.Call (.Name "range" p) [a] [] pos) eI (.ok (rng 0 n)) := hn ▸ si_rng1 hm h hg he
theorem si_rng2P {tg : Expr} {n m : Int} (hm : v.mg "range" = none) (h : Sx v .V ρ a eI (.ok n)) (h' : Sx v .V ρ b eI (.ok m)) (hg : v.sc.names.lookup ("range" : Str) = some .globalImplicit := by rfl) (he : ∀ env, starEach [a, b] env = (false, eval a env) :: starEach [b] env := by intro _; rfl) (he2 : ∀ env, starEach [b] env = (false, eval b env) :: starEach [] env := by intro _; rfl) :
    Si v true ρ tg (.Call (.Name "range" p) [a, b] [] pos) eI (rng2 n m) := si_rng2 hm h h' hg he he2
section
variable {p2 pos2 : Pos} {n : Int} {m : Int}
theorem sx_lrg1P (hm : v.mg "list" = none) (hm2 : v.mg "range" = none) (h : Sx v .V ρ a eI (.ok n)) (hg : v.sc.names.lookup ("list" : Str) = some .globalImplicit := by rfl) (hg2 : v.sc.names.lookup ("range" : Str) = some .globalImplicit := by rfl)
    (he : ∀ env, starEach [a] env = (false, eval a env) :: starEach [] env := by intro _; rfl) (he2 : ∀ env, starEach [.Call (.Name "range" p2) [a] [] pos2] env = (false, eval (.Call (.Name "range" p2) [a] [] pos2) env) :: starEach [] env := by intro _; rfl) :
    Sx v .N ρ (.Call (.Name "list" p) [.Call (.Name "range" p2) [a] [] pos2] [] pos) (eL eI) (rng1 n) := sx_lrg1 hm hm2 h hg hg2 he he2
theorem sx_trg1P (hm : v.mg "tuple" = none) (hm2 : v.mg "range" = none) (h : Sx v .V ρ a eI (.ok n)) (hg : v.sc.names.lookup ("tuple" : Str) = some .globalImplicit := by rfl) (hg2 : v.sc.names.lookup ("range" : Str) = some .globalImplicit := by rfl)
    (he : ∀ env, starEach [a] env = (false, eval a env) :: starEach [] env := by intro _; rfl) (he2 : ∀ env, starEach [.Call (.Name "range" p2) [a] [] pos2] env = (false, eval (.Call (.Name "range" p2) [a] [] pos2) env) :: starEach [] env := by intro _; rfl) :
    Sx v .V ρ (.Call (.Name "tuple" p) [.Call (.Name "range" p2) [a] [] pos2] [] pos) (eT eI) (rng1 n) := sx_trg1 hm hm2 h hg hg2 he he2
theorem sx_trg1L (hm : v.mg "tuple" = none) (hm2 : v.mg "range" = none) (h : Sx v .V ρ a eI (.ok n)) (hn : rng1 n = .ok (rng 0 n) := by decide +kernel) (hg : v.sc.names.lookup ("tuple" : Str) = some .globalImplicit := by rfl) (hg2 : v.sc.names.lookup ("range" : Str) = some .globalImplicit := by rfl)
    (he : ∀ env, starEach [a] env = (false, eval a env) :: starEach [] env := by intro _; rfl) (he2 : ∀ env, starEach [.Call (.Name "range" p2) [a] [] pos2] env = (false, eval (.Call (.Name "range" p2) [a] [] pos2) env) :: starEach [] env := by intro _; rfl) :
    Sx v .V ρ (.Call (.Name "tuple" p) [.Call (.Name "range" p2) [a] [] pos2] [] pos) (eT eI) (.ok (rng 0 n)) := hn ▸ sx_trg1 hm hm2 h hg hg2 he he2
theorem sx_lrg1L (hm : v.mg "list" = none) (hm2 : v.mg "range" = none) (h : Sx v .V ρ a eI (.ok n)) (hn : rng1 n = .ok (rng 0 n) := by decide +kernel) (hg : v.sc.names.lookup ("list" : Str) = some .globalImplicit := by rfl) (hg2 : v.sc.names.lookup ("range" : Str) = some .globalImplicit := by rfl)
    (he : ∀ env, starEach [a] env = (false, eval a env) :: starEach [] env := by intro _; rfl) (he2 : ∀ env, starEach [.Call (.Name "range" p2) [a] [] pos2] env = (false, eval (.Call (.Name "range" p2) [a] [] pos2) env) :: starEach [] env := by intro _; rfl) :
    Sx v .N ρ (.Call (.Name "list" p) [.Call (.Name "range" p2) [a] [] pos2] [] pos) (eL eI) (.ok (rng 0 n)) := hn ▸ sx_lrg1 hm hm2 h hg hg2 he he2
end
/-- what the law promises -/
def spLaw (K : PySem.W.Frag) (f : List Int → R Bool) : Sp := fun vs H Q _ => ∃ a ns, vs = [.ref a] ∧ SqL K H a (ns.map V.int) ∧ ns.length ≤ 63 ∧ f ns = .ok true ∧ ∀ H', Q (.bl true) H'
theorem law_fn {G : Pg} {st : Stmt} {N : List Str} {k : Nat} {fa : Addr} {fd : FuncData} {f : List Int → R Bool} (Fn : Fun G.K "law" "law" st fa fd) (Sc : FnScope N ["script"] (defScope st))
    (body : ∀ q ns W, ns.length ≤ 63 → Ss (G.vw N (defScope st) k W) (pRt eB) (endK none) (some (.scr q ns) :: List.replicate (N.length - 1) none) (defBody st) (f ns)) : FnG G.P G.w G.K G.mg G.base (k + 1) fa fd ["script"] (spLaw G.K f) := by
  refine fn_ofG Fn Sc (fun vs H Q E ⟨a, ns, e, _⟩ => by rw [e]; rfl) (fun cdv A out s H vs Q E hr hgd ⟨a, ns, e, hS, hn, hf, q⟩ => ?_)
  subst e
  have sl : ∀ {i : Nat} {s : Sl}, (some (.scr a ns) :: List.replicate (N.length - 1) none : Rho)[i]? = some (some s) → i = 0 ∧ s = .scr a ns := fun {i s} h => by
    cases i with
    | zero => cases h; exact ⟨rfl, rfl⟩
    | succ i =>
      rw [List.getElem?_cons_succ, List.getElem?_replicate] at h
      split at h <;> cases h
  have no : ∀ {i : Nat}, ¬ owned (some (.scr a ns) :: List.replicate (N.length - 1) none) i := fun {i} ⟨s, e, o⟩ => by
    obtain ⟨_, rfl⟩ := sl e
    cases o
  refine ⟨_, body a ns _ hn _ (cx_has Sc hr hgd), ⟨H, H⟩, H, ⟨fun _ _ e => e, fun _ _ e => e, fun _ _ e => e, fun b o e n => n, fun i s e => ?_, fun i j _ _ o => absurd o no, fun i _ o => absurd o no⟩, ?_, fun t σ' H' F' _ _ hW => hW.elim, fun t => t.elim, fun t => t.elim⟩
  · obtain ⟨rfl, rfl⟩ := sl e
    exact ⟨.ref a, rfl, rfl, hS⟩
  · rw [hf]
    intro u σ' H' F' _ _ r
    cases r
    exact q H'
/-- the law is called: nothing but the script stands in the heap that is told -/
theorem call_law {P : Program} {w : World} {K : PySem.W.Frag} {mg mb : Str → Option Value} {k : Nat} {fa a : Addr} {fd : FuncData} {f : List Int → R Bool} {s₁ : Shared} {vs : List Value} {ns : List Int}
    (kIn : K.In s₁.heap) (glob : s₁.heap.Ns mainGlobals mg) (bns : s₁.heap.Ns builtinsNs mb) (bis : ∀ x : Str, x ≠ "__name__" → mb x = bootBuiltins x) (nolim : s₁.heap.NoLimit) (nogen : s₁.gens = #[])
    (at_a : s₁.heap.get? a = some { cls := .type "list", data := .seq vs.toArray }) (itsI : IntsAre vs ns) (short : ns.length ≤ 63) (room : Room k callerA)
    (F : ∀ base : Heap, K.In base → base.Ns mainGlobals mg → FnG P w K mg base k fa fd ["script"] (spLaw K f)) (bind : ∀ (s : Shared) (u : Value), BindsTo s fd ⟨[u], []⟩ [("script", u)]) (hf : f ns = .ok true) :
    codeAny (model P w) callerA (.call (.ref fa) ⟨[.ref a], []⟩) (fun r s' => r = .ok (.ret (.bool true)) ∧ OldK s₁.heap s'.heap ∧ s'.os = s₁.os ∧ AllBare s'.gens) s₁ := by
  have hl : ns.length ≤ sizeLine := Nat.le_trans short (by decide)
  have lv := itsI.length
  have go : ∀ H : Hp, (∀ b u, H b = some u → b = a ∧ u = .frz { cls := .type "list", data := .seq vs.toArray } (.lst (ns.map V.int)) ∧ K.lookup a = none) → SqL K H a (ns.map V.int) →
      codeAny (model P w) callerA (.call (.ref fa) ⟨[.ref a], []⟩) (fun r s' => r = .ok (.ret (.bool true)) ∧ OldK s₁.heap s'.heap ∧ s'.os = s₁.os ∧ AllBare s'.gens) s₁ := by
    intro H only hS
    have free : ∀ {b : Addr} {o : Obj}, s₁.heap.get? b = some o → (∀ us n, o.data ≠ .seq us n) → H b = none := fun {b o} e n => by
      cases q : H b with
      | none => rfl
      | some u =>
        obtain ⟨rfl, _, _⟩ := only b u q
        rw [at_a] at e
        cases e
        exact absurd rfl (n _ _)
    have kept : ∀ {b : Addr} {o : Obj}, s₁.heap.get? b = some o → H b = none → (hidT s₁.heap H).get? b = some o := hidT_get
    have keepNs : ∀ {b : Addr} {m : Str → Option Value}, s₁.heap.Ns b m → (hidT s₁.heap H).Ns b m := fun {b m} ⟨o, es, ep, e, d, r⟩ =>
      ⟨o, es, ep, kept e (free e fun us n z => by rw [d] at z; cases z), d, r⟩
    have kB : K.In (hidT s₁.heap H) := fun b o e => kept (kIn b o e) (by
      cases q : H b with
      | none => rfl
      | some u =>
        obtain ⟨rfl, _, z⟩ := only b u q
        rw [z] at e
        cases e)
    have hok : HOk P w H s₁.heap := fun b u e => by
      obtain ⟨rfl, rfl, _⟩ := only b u e
      exact ⟨at_a, by rw [List.length_map]; exact hl, vs, _, vals_ints itsI, at_a⟩
    have start : Env0 P w K mg (hidT s₁.heap H) callerA [] s₁ H := ⟨rfl, ⟨kB, keepNs glob, ⟨mb, keepNs bns, bis⟩, let ⟨mc, h1, h2⟩ := nolim; ⟨mc, keepNs h1, h2⟩⟩, fun b o e => of_hidT e, Nat.le_of_eq (hidT_size _ _), trivial,
      fun b z => absurd (show b ∈ ([] : List Addr) from z) (by simp), hok, .of_eq nogen⟩
    have run := (F _ kB (keepNs glob)).go callerA [] s₁ H ⟨[.ref a], []⟩ [.ref a] [.ref a] (fun u _ => u = .bl true) (fun _ _ _ => False) room rfl start (bind s₁ (.ref a)) (.cons rfl .nil) ⟨a, ns, rfl, hS, short, hf, fun _ => rfl⟩
    refine codeAny_mono run fun r s' h => ?_
    match r, h with
    | .ok (.ret u), ⟨x, H', os, bare, un, hok', r', q⟩ =>
      cases (q : x = .bl true)
      cases r'
      refine ⟨rfl, .of_keep fun b o e => ?_, os, bare⟩
      cases q : H b with
      | none => exact un.keep b o e q (fun z => absurd (show b ∈ ([] : List Addr) from z) (by simp)) (by simp)
      | some u =>
        obtain ⟨rfl, rfl, _⟩ := only b u q
        have same := (hok' _ _ (un.frzs _ _ _ q)).1
        rw [at_a] at e
        cases e
        exact same
    | .error e, h =>
      obtain ⟨_, _, _, _, _, _, _, _, _, _, _, _, _, _, _, _, z⟩ := h
  cases hk : K.lookup a with
  | some o =>
    have e := kIn a o hk
    rw [at_a] at e
    cases e
    exact go (fun _ => none) (fun b u z => by cases z) (.inr ⟨_, vs.toArray, _, hk, rfl, rfl, rfl, by rw [List.size_toArray, lv]; exact hl, by simpa using vals_ints itsI⟩)
  | none =>
    refine go (fun b => if b = a then some (.frz { cls := .type "list", data := .seq vs.toArray } (.lst (ns.map V.int))) else none) (fun b u z => ?_) (.inl (.inr ⟨_, if_pos rfl⟩))
    by_cases q : b = a
    · exact ⟨q, (Option.some.inj ((if_pos q).symm.trans z)).symm, hk⟩
    · exact absurd ((if_neg q).symm.trans z) (by simp)
/-- the goal that the head leaves -/
theorem walk_law {l : PySem.W.OpenLaw} {k : Nat} {q : Program} {loose : List Str} {XP : (Str → Option Value) → Heap → Prop} {YP : World → Heap → Prop} {d : DefRec} {K : Params → PySem.W.Frag} {f : List Int → R Bool}
    (hn : l.most = some 63) (hdf : d.params.defaults = []) (hr : Room k callerA) (hY : ∀ (w : World) (h : Heap), YP w h → (K w.params).In h) (hf : ∀ ns, f ns = .ok true)
    (F : ∀ (w : World) (mg : Str → Option Value) (fa : Addr) (h : Heap), (K w.params).In h → h.Ns mainGlobals mg → mg d.name = some (.ref fa) →
      ∃ fd : FuncData, (∀ (s : Shared) (u : Value), BindsTo s fd ⟨[u], []⟩ [("script", u)]) ∧ ∀ base : Heap, (K w.params).In base → base.Ns mainGlobals mg → FnG l.prog w (K w.params) mg base k fa fd ["script"] (spLaw (K w.params) f)) :
    PySem.W.WalkO q loose XP YP l.row.toRowW d [] (fun f vs => PySem.call f vs) := by
  refine Att.attach_call hn hdf fun w s₀ s₁ mg mb fa o pm cd doc a vs ns G Y ho hd hcd hmg hobj hints hlen hg => ?_
  have kIn := hY w _ Y
  obtain ⟨fd, hb, hF⟩ := F w mg fa _ kIn G.T.g hmg
  exact call_law kIn G.T.g G.T.b G.T.builtins G.T.nolimit hg hobj hints hlen hr hF hb (hf ns)
end Cw
set_option maxHeartbeats 400000
namespace Cw
open PySem PySem.Spec PyProof.Rows L2

def M_is_whole (value_1 : D) : R Bool :=
  R.ok ((isA .int (value_1)) && (!(isA .bool (value_1))))
def M_is_told (told_1 : D) (word_2 : Str) (count_3 : Int) : R Bool :=
  ((if (!(isA .tuple (told_1))) then R.ok true else ((lenD (told_1)).bind fun (y_4 : Int) => R.ok (!decide (y_4 = (count_3))))).bind fun t => if t then R.ok (false) else (((idxD (told_1) (0 : Int)).bind fun (y_5 : D) => R.ok (isA .str y_5)).bind fun c => if c then ((idxD (told_1) (0 : Int)).bind fun (y_6 : D) => (eqR y_6 (eS (word_2)))) else R.ok false))
def M_are_wholes (value_1 : D) (count_2 : Int) : R Bool :=
  (if (isA .tuple (value_1)) then (((lenD (value_1)).bind fun (y_3 : Int) => R.ok (decide (y_3 = (count_2)))).bind fun c => if c then (((R.ofOpt ((dT dD).dec (value_1))).bind fun (y_5 : (List D)) => (R.mapM (fun (part_4 : D) => (M_is_whole (part_4))) y_5)).bind fun (y_6 : (List Bool)) => R.ok (!decide ((false) ∈ y_6))) else R.ok false) else R.ok false)
def M_law_next (limit_1 : Int) (s_2 : Sta) : R (Int × Sta) :=
  ((if ((decide (((s_2).2.2.1) = (0 : Int))) && (decide (((s_2).2.1) < (((s_2).1).length : Int)))) then ((idx ((s_2).1) ((s_2).2.1)).bind fun (cell_3 : Int) => ((R.ok (s_2.1, (s_2.2.1 + (1 : Int)), s_2.2.2.1, s_2.2.2.2)).bind fun (s_4 : Sta) => ((((powR (10 : Int) (18 : Int)).bind fun (y_5 : Int) => R.ok (decide (y_5 ≤ (cell_3)))).bind fun t => if t then ((R.ok (s_4.1, s_4.2.1, (cell_3), s_4.2.2.2)).bind fun (s_6 : Sta) => R.ok s_6) else ((R.ok (s_4.1, s_4.2.1, s_4.2.2.1, ((((((s_4).2.2.2) * 48271) + ((cell_3) % 2147483647)) + (7 : Int)) % 2147483647))).bind fun (s_7 : Sta) => R.ok s_7)).bind fun (t_8 : Sta) => R.ok t_8))) else R.ok s_2).bind fun (t_9 : Sta) => (if (decide ((0 : Int) < ((t_9).2.2.1))) then ((modR ((t_9).2.2.1) (limit_1)).bind fun (value_10 : Int) => (((divR ((t_9).2.2.1) (limit_1)).bind fun (y_12 : Int) => R.ok (t_9.1, t_9.2.1, y_12, t_9.2.2.2)).bind fun (s_11 : Sta) => R.ok (value_10, s_11))) else ((R.ok (t_9.1, t_9.2.1, t_9.2.2.1, (((((t_9).2.2.2) * 69621) + (12345 : Int)) % 2147483647))).bind fun (s_13 : Sta) => ((modR (((s_13).2.2.2) / 7) (limit_1)).bind fun a => R.ok (a, s_13)))))
def M_law_same_step (rec : D → D → R Bool) (actual_1 : D) (expected_2 : D) : R Bool :=
  (if (isNon (expected_2)) then R.ok (isNon (actual_1)) else (if (isA .bool (expected_2)) then (if (isA .bool (actual_1)) then (eqR (actual_1) (expected_2)) else R.ok false) else (if (isA .int (expected_2)) then (if (isA .int (actual_1)) then (if (!(isA .bool (actual_1))) then (eqR (actual_1) (expected_2)) else R.ok false) else R.ok false) else (if (isA .str (expected_2)) then (if (isA .str (actual_1)) then (eqR (actual_1) (expected_2)) else R.ok false) else (if ((isA .tuple (expected_2)) && (!(isA .tuple (actual_1)))) then R.ok (false) else (if ((isA .list (expected_2)) && (!(isA .list (actual_1)))) then R.ok (false) else (((lenD (actual_1)).bind fun (y_3 : Int) => (lenD (expected_2)).bind fun (y_4 : Int) => R.ok (!decide (y_3 = y_4))).bind fun t => if t then R.ok (false) else (((lenD (expected_2)).bind fun (y_5 : Int) => (rng1 y_5)).bind fun (y_13 : (List Int)) => (forK (fun (k_7 : Int) (t_6 : Unit) (nx_9 : Unit → R Bool) => ((((idxD (actual_1) (k_7)).bind fun (y_11 : D) => (idxD (expected_2) (k_7)).bind fun (y_12 : D) => (rec y_11 y_12)).bind fun c => R.ok (!c)).bind fun t => if t then R.ok (false) else nx_9 ())) (fun (t_8 : Unit) => R.ok (true)) y_13 ())))))))))
def M_law_same : Nat → D → D → R Bool
  | 0 => fun _ _ => .bad
  | n + 1 => M_law_same_step (M_law_same n)
def M_law_changed_step (rec : D → Sta → R (D × Sta)) (value_1 : D) (s_2 : Sta) : R (D × Sta) :=
  (if (isA .bool (value_1)) then (((((((R.ofOpt (dB.dec (value_1))).bind fun (y_3 : Bool) => R.ok (!y_3)).bind fun a => R.ok (eB a)).bind fun (y_4 : D) => ((intD (value_1)).bind fun a => R.ok (eI a)).bind fun (y_5 : D) => R.ok ([y_4, y_5])).bind fun a => R.ok (a, (s_2))).bind fun (t_8 : (List D) × Sta) => (M_law_next (2 : Int) t_8.2).bind fun (t_9 : Int × Sta) => (idx t_8.1 t_9.1).bind fun c => R.ok (c, t_9.2)).cb fun t => R.ok t) else (if ((isNon (value_1)) || (isA .int (value_1))) then ((((R.seq [(((((truD (value_1)).bind fun t => if t then R.ok (value_1) else (R.ok (eI (0 : Int)))).bind fun a => R.ofOpt (dI.dec a)).bind fun (y_10 : Int) => R.ok (y_10 + (1 : Int))).bind fun a => R.ok (eI a)), (((((truD (value_1)).bind fun t => if t then R.ok (value_1) else (R.ok (eI (0 : Int)))).bind fun a => R.ofOpt (dI.dec a)).bind fun (y_11 : Int) => R.ok (y_11 - (1 : Int))).bind fun a => R.ok (eI a)), (R.ok (eI (0 : Int))), (R.ok (eN ())), ((eqR (value_1) (eI (1 : Int))).bind fun a => R.ok (eB a)), (strD (value_1)), (((((truD (value_1)).bind fun t => if t then R.ok (value_1) else (R.ok (eI (1 : Int)))).bind fun a => R.ofOpt (dI.dec a)).bind fun (y_12 : Int) => R.ok (2 * y_12)).bind fun a => R.ok (eI a))]).bind fun a => R.ok (a, (s_2))).bind fun (t_15 : (List D) × Sta) => (M_law_next (7 : Int) t_15.2).bind fun (t_16 : Int × Sta) => (idx t_15.1 t_16.1).bind fun c => R.ok (c, t_16.2)).cb fun t => R.ok t) else (if (isA .str (value_1)) then ((R.seq [(cutD (value_1) (some (1 : Int)) none), (addD (value_1) (eS ("a" : Str))), (revD (value_1)), (addD (eS ("b" : Str)) (value_1)), (R.ok (eS ("" : Str))), (cutD (value_1) none (some (-(1 : Int)))), (R.ok (eS ("left" : Str))), (R.ok (eI (3 : Int))), (R.ok (eS ("in" : Str)))]).bind fun (others_17 : (List D)) => (((M_law_next ((others_17).length : Int) (s_2)).bind fun (t_19 : Int × Sta) => (idx (others_17) t_19.1).bind fun c => R.ok (c, t_19.2)).cb fun t => R.ok t)) else (R.cbIf (if (isA .tuple (value_1)) then (((neR (value_1) ((eT eD) ([] : List D))).bind fun c => R.ok (c, (s_2))).bind fun t => if t.1 then ((M_law_next (4 : Int) t.2).bind fun (t_70 : Int × Sta) => R.ok ((decide ((0 : Int) < t_70.1)), t_70.2)) else R.ok (false, t.2)) else R.ok (false, (s_2))) (fun (s_21 : Sta) => (((lenD (value_1)).bind fun (y_24 : Int) => (M_law_next y_24 (s_21))).cb fun (t_22 : (Int × Sta)) => (((((cutD (value_1) none (some (t_22.1))).bind fun a => R.ok (a, (t_22.2))).bind fun (t_34 : D × Sta) => (((((idxD (value_1) (t_22.1)).bind fun (y_38 : D) => (rec y_38 t_34.2)).bind fun t_36 => (R.ok ((), t_36.2)).bind fun u_37 => R.ok ((t_36.1, u_37.1), u_37.2)).bind fun t => R.ok ((fun (q : D × Unit) => [q.1]) t.1, t.2)).bind fun t => R.ok ((eT eD) t.1, t.2)).bind fun (t_35 : D × Sta) => (addD t_34.1 t_35.1).bind fun c => R.ok (c, t_35.2)).bind fun (t_33 : D × Sta) => ((cutD (value_1) (some ((t_22.1) + (1 : Int))) none).bind fun a => R.ok (a, t_33.2)).bind fun (t_39 : D × Sta) => (addD t_33.1 t_39.1).bind fun c => R.ok (c, t_39.2)).cb fun t => R.ok t))) (fun (s_21 : Sta) => (if (!(isA .tuple (value_1))) then R.ok (((eT eD) ([] : List D)), s_21) else ((((lenD (value_1)).bind fun (y_40 : Int) => R.ok (y_40 + (1 : Int))).bind fun (y_43 : Int) => (M_law_next y_43 (s_21))).cb fun (t_41 : (Int × Sta)) => ((((lenD (value_1)).bind fun (y_44 : Int) => R.ok (y_44 + (1 : Int))).bind fun (y_47 : Int) => (M_law_next y_47 (t_41.2))).cb fun (t_45 : (Int × Sta)) => ((R.seq [((cutD (value_1) none (some (t_41.1))).bind fun (y_48 : D) => (cutD (value_1) (some ((t_41.1) + (1 : Int))) none).bind fun (y_49 : D) => (addD y_48 y_49)), ((cutD (value_1) none (some (1 : Int))).bind fun (y_50 : D) => (addD (value_1) y_50)), (revD (value_1)), ((cutD (value_1) (some (t_41.1)) none).bind fun (y_51 : D) => (cutD (value_1) none (some (t_41.1))).bind fun (y_52 : D) => (addD y_51 y_52)), (((R.ofOpt ((dT dD).dec (value_1))).bind fun (y_53 : (List D)) => R.ok (y_53)).bind fun a => R.ok ((eL eD) a)), (cutD (value_1) none (some (t_41.1))), (R.ok ((eT eD) ([] : List D))), (addD (value_1) ((eT eI) ([(0 : Int)])))]).bind fun (more_54 : (List D)) => (((if (decide ((t_41.1) < (t_45.1))) then (lenD (value_1)).bind fun y_55 => R.ok (decide ((t_45.1) < y_55)) else R.ok false).bind fun t => if t then (((R.mapM (fun (turn_56 : Int) => (((((cutD (value_1) none (some (t_41.1))).bind fun (y_57 : D) => (cutD (value_1) (some (t_45.1)) (some ((t_45.1) + (1 : Int)))).bind fun (y_58 : D) => (addD y_57 y_58)).bind fun (y_59 : D) => (cutD (value_1) (some ((t_41.1) + (1 : Int))) (some (t_45.1))).bind fun (y_60 : D) => (addD y_59 y_60)).bind fun (y_61 : D) => (cutD (value_1) (some (t_41.1)) (some ((t_41.1) + (1 : Int)))).bind fun (y_62 : D) => (addD y_61 y_62)).bind fun (y_63 : D) => (cutD (value_1) (some ((t_45.1) + (1 : Int))) none).bind fun (y_64 : D) => (addD y_63 y_64))) (rng 0 3)).bind fun (y_65 : (List D)) => (catR (more_54) y_65)).bind fun (more_66 : (List D)) => R.ok more_66) else R.ok more_54).bind fun (t_67 : (List D)) => (((M_law_next ((t_67).length : Int) (t_45.2)).bind fun (t_69 : Int × Sta) => (idx (t_67) t_69.1).bind fun c => R.ok (c, t_69.2)).cb fun t => R.ok t)))))))))))
def M_law_changed : Nat → D → Sta → R (D × Sta)
  | 0 => fun _ _ => .bad
  | n + 1 => M_law_changed_step (M_law_changed n)
def M_law_ints_step (rec : D → R (List Int)) (value_1 : D) : R (List Int) :=
  (if ((isA .bool (value_1)) || (!(isA .int (value_1) || isA .tuple (value_1)))) then R.ok ([] : List Int) else (if (isA .int (value_1)) then ((R.ofOpt (dI.dec (value_1))).bind fun (y_2 : Int) => R.ok ([y_2])) else ((R.ok ([] : List Int)).bind fun (found_3 : (List Int)) => (((R.ofOpt ((dT dD).dec (value_1))).bind fun (y_11 : (List D)) => (forR (fun (part_5 : D) (t_4 : (List Int)) => ((((rec (part_5)).bind fun (y_7 : (List Int)) => R.ok (List.map (fun (number_6 : Int) => number_6) (List.filter (fun (number_6 : Int) => (!decide ((number_6) ∈ (t_4)))) y_7))).bind fun (y_8 : (List Int)) => (catR (t_4) y_8)).bind fun (found_9 : (List Int)) => R.ok found_9)) y_11 found_3)).bind fun (t_10 : (List Int)) => R.ok (t_10)))))
def M_law_ints : Nat → D → R (List Int)
  | 0 => fun _ => .bad
  | n + 1 => M_law_ints_step (M_law_ints n)
def M_law_exchanged_step (rec : D → Int → Int → R D) (value_1 : D) (one_2 : Int) (other_3 : Int) : R D :=
  (if ((isA .bool (value_1)) || (!(isA .int (value_1) || isA .tuple (value_1)))) then R.ok (value_1) else (if (isA .int (value_1)) then ((eqR (value_1) (eI (one_2))).bind fun t => if t then (R.ok (eI (other_3))) else ((eqR (value_1) (eI (other_3))).bind fun t => if t then (R.ok (eI (one_2))) else (R.ok value_1))) else ((((R.ofOpt ((dT dD).dec (value_1))).bind fun (y_5 : (List D)) => (R.mapM (fun (part_4 : D) => (rec (part_4) (one_2) (other_3))) y_5)).bind fun (y_6 : (List D)) => R.ok (y_6)).bind fun a => R.ok ((eT eD) a))))
def M_law_exchanged : Nat → D → Int → Int → R D
  | 0 => fun _ _ _ => .bad
  | n + 1 => M_law_exchanged_step (M_law_exchanged n)
def M_law_cut_step (rec : D → Sta → R (D × Sta)) (value_1 : D) (s_2 : Sta) : R (D × Sta) :=
  ((if (!(isA .tuple (value_1))) then R.ok true else (eqR (value_1) ((eT eD) ([] : List D)))).bind fun t => if t then R.ok (value_1, s_2) else (((((R.ofOpt ((dT dD).dec (value_1))).bind fun (y_4 : (List D)) => R.ok (List.map (fun (part_3 : D) => part_3) (List.filter (fun (part_3 : D) => (!(isA .str (part_3)))) y_4))).bind fun a => R.ok ((eL eD) a)).bind fun (y_5 : D) => (neR y_5 ((eL eD) ([] : List D)))).bind fun t => if t then (((lenD (value_1)).bind fun (y_8 : Int) => (M_law_next y_8 (s_2))).cb fun (t_6 : (Int × Sta)) => (((((cutD (value_1) none (some (t_6.1))).bind fun a => R.ok (a, (t_6.2))).bind fun (t_18 : D × Sta) => (((((idxD (value_1) (t_6.1)).bind fun (y_22 : D) => (rec y_22 t_18.2)).bind fun t_20 => (R.ok ((), t_20.2)).bind fun u_21 => R.ok ((t_20.1, u_21.1), u_21.2)).bind fun t => R.ok ((fun (q : D × Unit) => [q.1]) t.1, t.2)).bind fun t => R.ok ((eT eD) t.1, t.2)).bind fun (t_19 : D × Sta) => (addD t_18.1 t_19.1).bind fun c => R.ok (c, t_19.2)).bind fun (t_17 : D × Sta) => ((cutD (value_1) (some ((t_6.1) + (1 : Int))) none).bind fun a => R.ok (a, t_17.2)).bind fun (t_23 : D × Sta) => (addD t_17.1 t_23.1).bind fun c => R.ok (c, t_23.2)).cb fun t => R.ok t)) else (((lenD (value_1)).bind fun (y_26 : Int) => (M_law_next y_26 (s_2))).cb fun (t_24 : (Int × Sta)) => (((((idxD (value_1) (t_24.1)).bind fun (y_27 : D) => (lenD y_27)).bind fun (y_28 : Int) => R.ok (y_28 + (1 : Int))).bind fun (y_31 : Int) => (M_law_next y_31 (t_24.2))).cb fun (t_29 : (Int × Sta)) => (((((cutD (value_1) none (some (t_24.1))).bind fun (y_36 : D) => ((((idxD (value_1) (t_24.1)).bind fun (y_32 : D) => (cutD y_32 none (some (t_29.1)))).bind fun (y_34 : D) => ((idxD (value_1) (t_24.1)).bind fun (y_33 : D) => (cutD y_33 (some (t_29.1)) none)).bind fun (y_35 : D) => R.ok ([y_34, y_35])).bind fun a => R.ok ((eT eD) a)).bind fun (y_37 : D) => (addD y_36 y_37)).bind fun (y_38 : D) => (cutD (value_1) (some ((t_24.1) + (1 : Int))) none).bind fun (y_39 : D) => (addD y_38 y_39)).bind fun (y_46 : D) => (((cutD (value_1) none (some (t_24.1))).bind fun (y_42 : D) => (((((cutD (value_1) (some (t_24.1)) (some ((t_24.1) + (2 : Int)))).bind fun a => R.ofOpt ((dT dS).dec a)).bind fun (y_40 : (List Str)) => (joinR ("" : Str) y_40)).bind fun (y_41 : Str) => R.ok ([y_41])).bind fun a => R.ok ((eT eS) a)).bind fun (y_43 : D) => (addD y_42 y_43)).bind fun (y_44 : D) => (cutD (value_1) (some ((t_24.1) + (2 : Int))) none).bind fun (y_45 : D) => (addD y_44 y_45)).bind fun (y_47 : D) => R.ok ([y_46, y_47])).bind fun (ways_48 : (List D)) => (((R.seq [((((R.ofOpt ((dT dS).dec (value_1))).bind fun (y_49 : (List Str)) => (joinR ("" : Str) y_49)).bind fun (y_50 : Str) => R.ok ([y_50])).bind fun a => R.ok ((eT eS) a)), ((((R.ofOpt ((dT dS).dec (value_1))).bind fun (y_51 : (List Str)) => (joinR ("" : Str) y_51)).bind fun (y_52 : Str) => (sgnR y_52)).bind fun a => R.ok ((eT eS) a)), (((cutD (value_1) none (some (t_24.1))).bind fun (y_53 : D) => (addD y_53 ((eT eS) ([("" : Str)])))).bind fun (y_54 : D) => (cutD (value_1) (some (t_24.1)) none).bind fun (y_55 : D) => (addD y_54 y_55)), (((cutD (value_1) none (some (t_24.1))).bind fun (y_57 : D) => ((cutD (value_1) (some (t_24.1)) (some ((t_24.1) + (2 : Int)))).bind fun (y_56 : D) => (revD y_56)).bind fun (y_58 : D) => (addD y_57 y_58)).bind fun (y_59 : D) => (cutD (value_1) (some ((t_24.1) + (2 : Int))) none).bind fun (y_60 : D) => (addD y_59 y_60))]).bind fun (y_61 : (List D)) => (catR (ways_48) y_61)).bind fun (ways_62 : (List D)) => (((M_law_next ((ways_62).length : Int) (t_29.2)).bind fun (t_64 : Int × Sta) => (idx (ways_62) t_64.1).bind fun c => R.ok (c, t_64.2)).cb fun t => R.ok t)))))))
def M_law_cut : Nat → D → Sta → R (D × Sta)
  | 0 => fun _ _ => .bad
  | n + 1 => M_law_cut_step (M_law_cut n)
def M_law_turned_about (told_1 : D) (s_2 : Sta) : R (D × Sta) :=
  ((M_law_ints 8 (told_1)).bind fun (numbers_3 : (List Int)) => ((M_law_next (5 : Int) (s_2)).cb fun (t_4 : (Int × Sta)) => (if ((decide ((t_4.1) < (3 : Int))) && (!decide ((numbers_3) = ([] : List Int)))) then (((M_law_next ((numbers_3).length : Int) (t_4.2)).bind fun (t_7 : Int × Sta) => (idx (numbers_3) t_7.1).bind fun c => R.ok (c, t_7.2)).cb fun (t_5 : (Int × Sta)) => ((if (decide ((t_4.1) = (0 : Int))) then (R.ok (((t_5.1) + (1 : Int)), (t_5.2))) else ((M_law_next ((numbers_3).length : Int) (t_5.2)).bind fun (t_10 : Int × Sta) => (idx (numbers_3) t_10.1).bind fun c => R.ok (c, t_10.2))).cb fun (t_8 : (Int × Sta)) => ((M_law_exchanged 8 (told_1) (t_5.1) (t_8.1)).bind fun a => R.ok (a, t_8.2)))) else (if (decide ((t_4.1) = (3 : Int))) then ((((cutD (told_1) none (some (1 : Int))).bind fun a => R.ok (a, (t_4.2))).bind fun (t_19 : D × Sta) => ((((lenD (told_1)).bind fun (y_11 : Int) => R.ok (decide ((2 : Int) < y_11))).bind fun c => R.ok (c, t_19.2)).bind fun t => if t.1 then ((cutD (told_1) (some (1 : Int)) none).bind fun (y_21 : D) => (M_law_cut 8 y_21 t.2)) else ((((((cutD (told_1) (some (1 : Int)) none).bind fun a => R.ofOpt ((dT dD).dec a)).bind fun a => R.ok (a, t.2)).bind fun t => R.mapMS (fun (part_12 : D) (s_13 : Sta) => (M_law_cut 8 (part_12) s_13)) t.1 t.2).bind fun (t_22 : (List D) × Sta) => R.ok (t_22.1, t_22.2)).bind fun t => R.ok ((eT eD) t.1, t.2))).bind fun (t_20 : D × Sta) => (addD t_19.1 t_20.1).bind fun c => R.ok (c, t_20.2)).cb fun t => R.ok t) else ((((lenD (told_1)).bind fun (y_26 : Int) => (M_law_next y_26 (t_4.2))).bind fun t_24 => (((lenD (told_1)).bind fun (y_29 : Int) => (M_law_next y_29 t_24.2)).bind fun t_27 => (R.ok ((), t_27.2)).bind fun u_28 => R.ok ((t_27.1, u_28.1), u_28.2)).bind fun u_25 => R.ok ((t_24.1, u_25.1), u_25.2)).cb fun (t_23 : ((Int × Int × Unit) × Sta)) => ((((lenD (told_1)).bind fun (y_30 : Int) => R.ok (decide (y_30 = (2 : Int)))).bind fun c => if c then (((idxD (told_1) (1 : Int)).bind fun (y_31 : D) => R.ok (isA .tuple y_31)).bind fun c => if c then ((idxD (told_1) (1 : Int)).bind fun (y_32 : D) => (neR y_32 ((eT eD) ([] : List D)))) else R.ok false) else R.ok false).bind fun t => if t then (((((idxD (told_1) (1 : Int)).bind fun (y_33 : D) => (lenD y_33)).bind fun (y_38 : Int) => (M_law_next y_38 (t_23.2))).bind fun t_36 => ((((idxD (told_1) (1 : Int)).bind fun (y_34 : D) => (lenD y_34)).bind fun (y_41 : Int) => (M_law_next y_41 t_36.2)).bind fun t_39 => (R.ok ((), t_39.2)).bind fun u_40 => R.ok ((t_39.1, u_40.1), u_40.2)).bind fun u_37 => R.ok ((t_36.1, u_37.1), u_37.2)).cb fun (t_35 : ((Int × Int × Unit) × Sta)) => ((((idxD (told_1) (0 : Int)).bind fun (y_49 : D) => ((((idxD (told_1) (1 : Int)).bind fun (y_42 : D) => (cutD y_42 none (some (t_35.1.1)))).bind fun (y_44 : D) => ((idxD (told_1) (1 : Int)).bind fun (y_43 : D) => (cutD y_43 (some (t_35.1.2.1)) (some ((t_35.1.2.1) + (1 : Int))))).bind fun (y_45 : D) => (addD y_44 y_45)).bind fun (y_47 : D) => ((idxD (told_1) (1 : Int)).bind fun (y_46 : D) => (cutD y_46 (some ((t_35.1.1) + (1 : Int))) none)).bind fun (y_48 : D) => (addD y_47 y_48)).bind fun (y_50 : D) => R.ok ([y_49, y_50])).bind fun a => R.ok ((eT eD) a)).bind fun a => R.ok (a, t_35.2))) else ((if ((decide ((0 : Int) < (t_23.1.1))) && (decide ((0 : Int) < (t_23.1.2.1)))) then (((cutD (told_1) none (some (t_23.1.1))).bind fun (y_51 : D) => (cutD (told_1) (some (t_23.1.2.1)) (some ((t_23.1.2.1) + (1 : Int)))).bind fun (y_52 : D) => (addD y_51 y_52)).bind fun (y_53 : D) => (cutD (told_1) (some ((t_23.1.1) + (1 : Int))) none).bind fun (y_54 : D) => (addD y_53 y_54)) else (R.ok told_1)).bind fun a => R.ok (a, t_23.2))))))))
def M_law_odd (told_1 : D) (s_2 : Sta) : R (D × Sta) :=
  ((R.seq [(R.ok (eN ())), (R.ok (eS ("" : Str))), (R.ok (eS ("yes" : Str))), (R.ok (PyData.dict [])), (R.ok ((eT eD) ([] : List D))), (cutD (told_1) none (some (1 : Int))), (((R.ofOpt ((dT dD).dec (told_1))).bind fun (y_3 : (List D)) => R.ok (y_3)).bind fun a => R.ok ((eL eD) a)), (addD (told_1) ((eT eI) ([(0 : Int)]))), (((((idxD (told_1) (0 : Int)).bind fun (y_4 : D) => R.ok ([y_4])).bind fun (y_5 : (List D)) => R.ok ([y_5])).bind fun a => R.ok ((eT (eL eD)) a)).bind fun (y_6 : D) => (cutD (told_1) (some (1 : Int)) none).bind fun (y_7 : D) => (addD y_6 y_7)), ((cutD (told_1) (some (1 : Int)) none).bind fun (y_8 : D) => (addD ((eT eS) ([("none such" : Str)])) y_8)), (R.ok (eI (7 : Int)))]).bind fun (odd_9 : (List D)) => ((M_law_next (9 : Int) (s_2)).cb fun (t_10 : (Int × Sta)) => (if (decide ((4 : Int) < (t_10.1))) then ((M_law_turned_about (told_1) (t_10.2)).cb fun t => R.ok t) else ((if (decide ((t_10.1) = (0 : Int))) then ((M_law_next ((odd_9).length : Int) (t_10.2)).bind fun (t_12 : Int × Sta) => (idx (odd_9) t_12.1).bind fun c => R.ok (c, t_12.2)) else (M_law_changed 8 (told_1) (t_10.2))).cb fun t => R.ok t))))
def M_law_neighbour_step (rec : D → Sta → R (D × Sta)) (value_1 : D) (s_2 : Sta) : R (D × Sta) :=
  (((M_law_next (2 : Int) (s_2)).bind fun (t_5 : Int × Sta) => (idx ([(1 : Int), (-(1 : Int))]) t_5.1).bind fun c => R.ok (c, t_5.2)).cb fun (t_3 : (Int × Sta)) => (if (isA .str (value_1)) then R.ok (value_1, t_3.2) else (if (isA .int (value_1)) then ((((R.ofOpt (dI.dec (value_1))).bind fun (y_6 : Int) => R.ok (y_6 + (t_3.1))).bind fun a => R.ok (eI a)).bind fun a => R.ok (a, t_3.2)) else ((eqR (value_1) ((eT eD) ([] : List D))).bind fun t => if t then R.ok (value_1, t_3.2) else (((idxD (value_1) (0 : Int)).bind fun (y_7 : D) => R.ok (isA .str y_7)).bind fun t => if t then ((((idxD (value_1) (0 : Int)).bind fun (y_9 : D) => (((idxD (value_1) (1 : Int)).bind fun a => R.ofOpt (dI.dec a)).bind fun (y_8 : Int) => R.ok (y_8 + (t_3.1))).bind fun (y_10 : Int) => R.ok (y_9, y_10)).bind fun a => R.ok ((eP eD eI) a)).bind fun a => R.ok (a, t_3.2)) else (((lenD (value_1)).bind fun (y_13 : Int) => (M_law_next y_13 (t_3.2))).cb fun (t_11 : (Int × Sta)) => (R.cbIf (((M_law_next (3 : Int) (t_11.2)).bind fun (t_34 : Int × Sta) => R.ok ((decide (t_34.1 = (0 : Int))), t_34.2)).bind fun t => if t.1 then (((lenD (value_1)).bind fun (y_14 : Int) => R.ok (decide ((1 : Int) < y_14))).bind fun c => R.ok (c, t.2)) else R.ok (false, t.2)) (fun (s_16 : Sta) => (((cutD (value_1) none (some (t_11.1))).bind fun (y_17 : D) => (cutD (value_1) (some ((t_11.1) + (1 : Int))) none).bind fun (y_18 : D) => (addD y_17 y_18)).bind fun a => R.ok (a, s_16))) (fun (s_16 : Sta) => (((((cutD (value_1) none (some (t_11.1))).bind fun a => R.ok (a, (s_16))).bind fun (t_28 : D × Sta) => (((((idxD (value_1) (t_11.1)).bind fun (y_32 : D) => (rec y_32 t_28.2)).bind fun t_30 => (R.ok ((), t_30.2)).bind fun u_31 => R.ok ((t_30.1, u_31.1), u_31.2)).bind fun t => R.ok ((fun (q : D × Unit) => [q.1]) t.1, t.2)).bind fun t => R.ok ((eT eD) t.1, t.2)).bind fun (t_29 : D × Sta) => (addD t_28.1 t_29.1).bind fun c => R.ok (c, t_29.2)).bind fun (t_27 : D × Sta) => ((cutD (value_1) (some ((t_11.1) + (1 : Int))) none).bind fun a => R.ok (a, t_27.2)).bind fun (t_33 : D × Sta) => (addD t_27.1 t_33.1).bind fun c => R.ok (c, t_33.2)).cb fun t => R.ok t)))))))))
def M_law_neighbour : Nat → D → Sta → R (D × Sta)
  | 0 => fun _ _ => .bad
  | n + 1 => M_law_neighbour_step (M_law_neighbour n)
end Cw
set_option maxHeartbeats 200000
namespace Cw
open PySem PySem.Spec PyProof.Rows L2
variable {α β γ δ ε ζ η S τ τ1 κ T : Type} {v : Vw} {ρ : Rho} {ρs : S → Rho} {μ : Md} {ea : α → D} {eb : β → D} {ec : γ → D} {a b c : Expr} {ma : R α} {mb : R β} {mc : R γ} {p pos : Pos} {G : Rt β} {C : Cs β} {rest : List Stmt}
/-! ### calls of defs with one part of the state -/
section
variable {k : Nat} {x y : Str} {ps : List Str} {q2 : Pos} {e1 e2 e3 e4 : Expr} {α1 α2 α3 α4 : Type} {n1 : α1 → D} {n2 : α2 → D} {n3 : α3 → D} {n4 : α4 → D} {m1 : S → R α1} {m2 : S → R α2} {m3 : S → R α3} {m4 : S → R α4} {es : T → D} {re : D → Sl} {get : S → T} {put : S → T → S}
theorem ee_g1 {f : α1 → T → R (β × T)} (i : Nat) (h : Df v.pg k x ps (spI es (fun q : α1 × Unit => [n1 q.1]) eb fun q => f q.1)) (hk : k ≤ v.k) (l : Lens ρs i re es get put) (h1 : ∀ s, Sx v .V (ρs s) e1 n1 (m1 s))
    (hN : v.N[i]? = some y := by rfl) (hv : Vis v.sc y := by first | exact Or.inl rfl | exact Or.inr (Or.inl rfl) | exact Or.inr (Or.inr rfl))
    (hd : (y == ("__debug__" : Str)) = false := by decide) (hcd : (y == ("__classdict__" : Str)) = false := by decide) (hg : v.sc.names.lookup x = some .globalImplicit := by rfl) (hdb : (x == ("__debug__" : Str)) = false := by decide)
    (he : ∀ env, starEach [.Name y q2, e1] env = (false, eval (.Name y q2) env) :: starEach [e1] env := by intro _; rfl) (s1 : ∀ env, starEach [e1] env = (false, eval e1 env) :: starEach [] env := by intro _; rfl)
    (hpl : ∀ env, (backTo pos (starEach [e1] env)).any (·.1) = false := by intro _; rfl) :
    Ee v .V ρs (.Call (.Name x p) [.Name y q2, e1] [] pos) eb fun s => (m1 s).bind fun a => (f a (get s)).bind fun t => .ok (t.1, put s t.2) :=
  (ee_callI i h hk l (fun s => sar_cons (h1 s) sar_nil s1) hN hv hd hcd hg hdb he hpl).cast fun s => by
    cases m1 s with
    | ok a => rfl
    | _ => rfl
end

/-! ### sets that are read at once -/
/-- each once, in the order of the first ones -/
def ddup (ns : List Int) : List Int := ns.foldl step_dedup []
theorem dd_in (k : Int) : ∀ (ns acc : List Int), k ∈ ns.foldl step_dedup acc ↔ k ∈ acc ∨ k ∈ ns
  | [], acc => by simp
  | n :: ns, acc => by
    rw [List.foldl_cons, dd_in k ns]
    unfold step_dedup
    split
    · rename_i h
      obtain ⟨x, hx, e⟩ := List.any_eq_true.mp h
      have e : x = n := by simpa using e
      subst e
      simp only [List.mem_cons]
      exact ⟨fun z => z.elim .inl fun z => .inr (.inr z), fun z => z.elim .inl fun z => z.elim (fun z => .inl (by rw [z]; exact hx)) .inr⟩
    · simp [or_assoc]
theorem mem_ddup {k : Int} {ns : List Int} : k ∈ ddup ns ↔ k ∈ ns := by
  unfold ddup
  rw [dd_in]
  simp
theorem dd_nd : ∀ (ns acc : List Int), acc.Nodup → (ns.foldl step_dedup acc).Nodup
  | [], _, h => h
  | n :: ns, acc, h => by
    rw [List.foldl_cons]
    refine dd_nd ns _ ?_
    unfold step_dedup
    split
    · exact h
    · rename_i hn
      refine List.nodup_append.mpr ⟨h, by simp, fun x hx y hy e => hn ?_⟩
      have : y = n := by simpa using hy
      subst this; subst e
      exact List.any_eq_true.mpr ⟨x, hx, by simp⟩
theorem ddup_nd (ns : List Int) : (ddup ns).Nodup := dd_nd ns [] .nil
theorem same_len {xs ys : List Int} (h : xs.Nodup) (k : ys.Nodup) (e : ∀ x, x ∈ xs ↔ x ∈ ys) : xs.length = ys.length := ((List.perm_ext_iff_of_nodup h k).mpr e).length_eq
theorem range_getD (ns : List Int) : (List.range ns.length).map (fun i => ns.getD i 0) = ns := by
  apply List.ext_getElem
  · simp
  · intro i h1 h2
    simp only [List.getElem_map, List.getElem_range]
    exact (List.getElem_eq_getD 0).symm
theorem first_ddup (ns : List Int) : firstMet (fun i => ns.getD i 0) ns.length = ddup ns := by
  unfold firstMet ddup
  rw [range_getD]
/-- len(set(x)) -/
def lenSet (ns : List Int) : R Int := if ns.length ≤ 4000 then .ok ((ddup ns).length : Int) else .bad
def tLenS (K : PySem.W.Frag) (ta : TE) : TE := fun σ H Q => ta σ H fun x H1 => ∃ p ns, x = V.ref p ∧ (SqL K H1 p (ns.map V.int) ∨ SqT K H1 p (ns.map V.int)) ∧ ns.length ≤ 4000 ∧ Q (.int (ddup ns).length) H1
theorem pe_lenS {X : Cx} {ta : TE} {p1 p2 p3 p4 : Pos} (hc : X.calm = true) (g1 : Gl X "len") (m1 : X.mg "len" = none) (g2 : Gl X "set") (m2 : X.mg "set" = none) (ha : PE X a ta) (na : starEach [a] X.env = (false, eval a X.env) :: starEach [] X.env) :
    PE X (.Call (.Name "len" p1) [.Call (.Name "set" p2) [a] [] p3] [] p4) (tLenS X.K ta) := ⟨fun pins st σ H Q I h => by
  refine Call_ (ld_blt I g1 m1 boot_len (PyProof.Rows.callWith_builtin1 (PyProof.Rows.args_cons (Call_ (ld_blt I g2 m2 boot_set (PyProof.Rows.callWith_type1 (PyProof.Rows.args_cons (thn (ha.run pins st σ H _ I h) fun u t ⟨x, H1, J, r, q⟩ => PyProof.Rows.args_nil ?_) na) na rfl))) rfl) rfl rfl))
  obtain ⟨ad, ns, rfl, hq, hl, q⟩ := q
  cases r
  have fin : ∀ (h2 : Heap) (tk : Nat) (o : Obj) (es : Array (Int × Value)) (ep : Nat) (tb : SetTable), (∀ b z, t.heap.get? b = some z → h2.get? b = some z) → h2.get? t.heap.objs.size = some o → o.ExactSet → o.data = .set es ep tb → tb.fits es.size = true → es.size = (ddup ns).length →
      wpAny (model X.prog X.w) X.A (call (.builtin "len") [.ref t.heap.objs.size]) (EP X pins σ Q) X.xe { t with heap := h2, toks := tk } := fun h2 tk o es ep tb k ho hx hd hf e => by
    have hsm : es.size ≤ 4000 := by
      rw [e, ← first_ddup]
      exact Nat.le_trans (firstMet_length_le _ _) hl
    exact call_len_set ho hx hd hf (by omega) ⟨.int (ddup ns).length, H1, (J.kept k).tok _, ⟨_, by rw [e]⟩, q⟩
  rcases hq with hq | hq
  · obtain ⟨its, rv, pl, _⟩ := J.list hq
    have e : its.toArray.size = ns.length := by rw [List.size_toArray, ← rv.length, List.length_map]
    refine call_set_list (J.ok.hd hc) pl.isList (by simpa using RZ.intsAre_vals rv) (by rw [e]; unfold scanBound; omega) fun h2 tk hS hk => PyProof.Rows.args_nil ?_
    rw [e, first_ddup] at hS
    obtain ⟨o, es, ep, tb, ho, hx, hd, _, _, _, hf, hn⟩ := hS
    exact fin h2 tk o es ep tb (fun b z q => hk b z (Heap.lt_size q) q) ho hx hd hf hn
  · obtain ⟨its, rv, pl, _⟩ := J.tuple hq
    refine call_set_tupI ns (J.ok.hd hc) pl (by simpa using RZ.intsAre_vals rv) (by unfold scanBound; omega) fun h2 tk c R _ hk => PyProof.Rows.args_nil ?_
    obtain ⟨o, es, ep, tb, ho, hx, hd, _, nd, hm, _, hf, hn, _⟩ := R
    refine fin h2 tk o es ep tb hk ho hx hd hf ?_
    have : (es.toList.map keyOf).length = (ddup ns).length := same_len nd (ddup_nd ns) fun k => by rw [← hm k, mem_ddup]; simp
    simpa using this⟩
theorem lenSet_calm (ns : List Int) (x : Ex) : lenSet ns ≠ .exc x := by
  unfold lenSet
  split <;> simp
section
variable {p2 p3 : Pos} {m : R (List Int)}
theorem sx_lenSetTI (hm : v.mg "len" = none) (hm2 : v.mg "set" = none) (ha : Sx v .P ρ a (eT eI) m) (hg : v.sc.names.lookup ("len" : Str) = some .globalImplicit := by rfl) (hg2 : v.sc.names.lookup ("set" : Str) = some .globalImplicit := by rfl)
    (na : ∀ env, starEach [a] env = (false, eval a env) :: starEach [] env := by intro _; rfl) : Sx v .V ρ (.Call (.Name "len" p) [.Call (.Name "set" p2) [a] [] p3] [] pos) eI (m.bind fun ns => lenSet ns) := fun X hX =>
  (pe_lenS hX.calm (hX.gl hg) (by rw [hX.hmg]; exact hm) (hX.gl hg2) (by rw [hX.hmg]; exact hm2) (ha X hX) (na _)).weak fun σ H Q ⟨B, F, hE, hW⟩ => ⟨B, F, hE, hW.bind fun ns _ hW => fun u H1 F1 s n => by
    obtain ⟨q, xs, rfl, h1, _, r, _⟩ := nwTup s.sub n
    obtain ⟨c, e, w⟩ := want_no (lenSet_calm ns) hW
    unfold lenSet at e
    split at e
    · rename_i hl
      cases e
      exact ⟨q, ns, rfl, .inr (.of (by rw [← RpA.ints r]; exact h1)), hl, w _ H1 F1 s (.int _)⟩
    · cases e⟩
theorem sx_lenSetLI (hm : v.mg "len" = none) (hm2 : v.mg "set" = none) (ha : Sx v .P ρ a (eL eI) m) (hg : v.sc.names.lookup ("len" : Str) = some .globalImplicit := by rfl) (hg2 : v.sc.names.lookup ("set" : Str) = some .globalImplicit := by rfl)
    (na : ∀ env, starEach [a] env = (false, eval a env) :: starEach [] env := by intro _; rfl) : Sx v .V ρ (.Call (.Name "len" p) [.Call (.Name "set" p2) [a] [] p3] [] pos) eI (m.bind fun ns => lenSet ns) := fun X hX =>
  (pe_lenS hX.calm (hX.gl hg) (by rw [hX.hmg]; exact hm) (hX.gl hg2) (by rw [hX.hmg]; exact hm2) (ha X hX) (na _)).weak fun σ H Q ⟨B, F, hE, hW⟩ => ⟨B, F, hE, hW.bind fun ns _ hW => fun u H1 F1 s n => by
    obtain ⟨q, xs, rfl, h1, r, _⟩ := nwLst s.sub n
    obtain ⟨c, e, w⟩ := want_no (lenSet_calm ns) hW
    unfold lenSet at e
    split at e
    · rename_i hl
      cases e
      exact ⟨q, ns, rfl, .inl (.of (by rw [← RpA.ints r]; exact h1)), hl, w _ H1 F1 s (.int _)⟩
    · cases e⟩
end

/-! ### slices whose parts change things -/
def Oe (v : Vw) (ρs : S → Rho) (e : Option Expr) (m : S → R (Option Int × S)) : Prop := ∀ X, v.Has X → PO X e fun σ H Q => ∃ B F s, EnvOk v.K B F H σ (ρs s) ∧ match m s with
  | .ok t => ∀ H' F', Same F F' → EnvOk v.K B F' H' σ (ρs t.2) → Q t.1 H'
  | _ => False
theorem oe_none : Oe v ρs none fun s => .ok (none, s) := fun X hX => po_none.weak fun σ H Q ⟨B, F, s, hE, hW⟩ => hW H F (.refl F) hE
theorem oe_some {m : S → R (Int × S)} (h : Ee v .V ρs a eI m) : Oe v ρs (some a) fun s => (m s).bind fun t => .ok (some t.1, t.2) := fun X hX => (po_some (h X hX)).weak fun σ H Q ⟨B, F, s, hE, hW⟩ => by
  refine ⟨B, F, s, hE, ?_⟩
  dsimp only at hW
  cases q : m s with
  | ok t =>
    rw [q] at hW
    intro u H1 F1 s1 hE1 r
    cases r
    exact ⟨t.1, rfl, hW H1 F1 s1 hE1⟩
  | exc x => rw [q] at hW; exact hW.elim
  | bad => rw [q] at hW; exact hW.elim
theorem ee_sl {g : α → Option Int → Option Int → R γ} {lo hi : Option Expr} {m : S → R (α × S)} {ml mh : S → R (Option Int × S)} {p2 : Pos} (o : Sl3 v .V ea ec g) (ha : Ee v .V ρs a ea m) (hl : Oe v ρs lo ml) (hh : Oe v ρs hi mh) :
    Ee v .V ρs (.Subscript a (.Slice lo hi none p2) pos) ec fun s => (m s).bind fun t => (ml t.2).bind fun l => (mh l.2).bind fun h => (g t.1 l.1 h.1).bind fun c => .ok (c, h.2) := fun X hX =>
  (pe_slice (o.run X hX) (ha X hX) (hl X hX) (hh X hX)).weak fun σ H Q ⟨B, F, s, hE, hW⟩ => by
    refine ⟨B, F, s, hE, hW.bind fun t _ hW => ?_⟩
    intro u H1 F1 s1 hE1 r1
    replace hW := hW.mono s1
    refine ⟨B, F1, t.2, hE1, ?_⟩
    cases q1 : ml t.2 with
    | ok l =>
      rw [q1, R.bind_ok] at hW
      intro H2 F2 s2 hE2
      replace hW := hW.mono s2
      refine ⟨B, F2, l.2, hE2, ?_⟩
      cases q2 : mh l.2 with
      | ok h =>
        rw [q2, R.bind_ok] at hW
        intro H3 F3 s3 hE3
        replace hW := hW.mono s3
        cases q3 : g t.1 l.1 h.1 with
        | ok c =>
          rw [q3, R.bind_ok] at hW
          exact ⟨F3, t.1, hE3.sub, .inl ((r1.mono s2).mono s3), c, q3, fun x H4 F4 s4 r4 => hW x H4 F4 s4.fr (hE3.step s4) r4⟩
        | exc x => exact absurd q3 (o.calm _ _ _ x)
        | bad => rw [q3] at hW; exact hW.elim
      | exc x => rw [q2] at hW; exact hW.elim
      | bad => rw [q2] at hW; exact hW.elim
    | exc x => rw [q1] at hW; exact hW.elim
    | bad => rw [q1] at hW; exact hW.elim
section
variable {g : α → Option Int → Option Int → R γ} {m : S → R (α × S)} {p2 : Pos} {m1 m2 : S → R (Int × S)} {e1 e2 : Expr}
theorem some_b (m : R (Int × S)) (k : Option Int × S → R β) : ((m.bind fun t => .ok (some t.1, t.2)).bind k) = m.bind fun t => k (some t.1, t.2) := by cases m <;> rfl
theorem ee_slHi (o : Sl3 v .V ea ec g) (ha : Ee v .V ρs a ea m) (h2 : Ee v .V ρs e2 eI m2) : Ee v .V ρs (.Subscript a (.Slice none (some e2) none p2) pos) ec fun s => (m s).bind fun t => (m2 t.2).bind fun h => (g t.1 none (some h.1)).bind fun c => .ok (c, h.2) :=
  (ee_sl o ha oe_none (oe_some h2)).cast fun s => by
    congr 1
    funext t
    rw [R.bind_ok, some_b]
theorem ee_slLo (o : Sl3 v .V ea ec g) (ha : Ee v .V ρs a ea m) (h1 : Ee v .V ρs e1 eI m1) : Ee v .V ρs (.Subscript a (.Slice (some e1) none none p2) pos) ec fun s => (m s).bind fun t => (m1 t.2).bind fun l => (g t.1 (some l.1) none).bind fun c => .ok (c, l.2) :=
  (ee_sl o ha (oe_some h1) oe_none).cast fun s => by
    congr 1
    funext t
    rw [some_b]
    rfl
theorem ee_slLH (o : Sl3 v .V ea ec g) (ha : Ee v .V ρs a ea m) (h1 : Ee v .V ρs e1 eI m1) (h2 : Ee v .V ρs e2 eI m2) : Ee v .V ρs (.Subscript a (.Slice (some e1) (some e2) none p2) pos) ec fun s => (m s).bind fun t => (m1 t.2).bind fun l => (m2 l.2).bind fun h => (g t.1 (some l.1) (some h.1)).bind fun c => .ok (c, h.2) :=
  (ee_sl o ha (oe_some h1) (oe_some h2)).cast fun s => by
    congr 1
    funext t
    rw [some_b]
    congr 1
    funext l
    rw [some_b]
end
section
variable {k : Nat} {x y : Str} {ps : List Str} {q2 : Pos} {e1 e2 e3 e4 : Expr} {α1 α2 α3 α4 : Type} {n1 : α1 → D} {n2 : α2 → D} {n3 : α3 → D} {n4 : α4 → D} {t1 : S → α1} {es : T → D} {re : D → Sl} {get : S → T} {put : S → T → S}
/-- .. by a part that needs nothing -/
theorem ee_g1P {f : α1 → T → R (β × T)} (i : Nat) (h : Df v.pg k x ps (spI es (fun q : α1 × Unit => [n1 q.1]) eb fun q => f q.1)) (hk : k ≤ v.k) (l : Lens ρs i re es get put) (h1 : ∀ s, Sx v .V (ρs s) e1 n1 (.ok (t1 s)))
    (hN : v.N[i]? = some y := by rfl) (hv : Vis v.sc y := by first | exact Or.inl rfl | exact Or.inr (Or.inl rfl) | exact Or.inr (Or.inr rfl))
    (hd : (y == ("__debug__" : Str)) = false := by decide) (hcd : (y == ("__classdict__" : Str)) = false := by decide) (hg : v.sc.names.lookup x = some .globalImplicit := by rfl) (hdb : (x == ("__debug__" : Str)) = false := by decide)
    (he : ∀ env, starEach [.Name y q2, e1] env = (false, eval (.Name y q2) env) :: starEach [e1] env := by intro _; rfl) (s1 : ∀ env, starEach [e1] env = (false, eval e1 env) :: starEach [] env := by intro _; rfl)
    (hpl : ∀ env, (backTo pos (starEach [e1] env)).any (·.1) = false := by intro _; rfl) :
    Ee v .V ρs (.Call (.Name x p) [.Name y q2, e1] [] pos) eb fun s => (f (t1 s) (get s)).bind fun t => .ok (t.1, put s t.2) :=
  (ee_g1 (m1 := fun s => .ok (t1 s)) i h hk l h1 hN hv hd hcd hg hdb he s1 hpl).cast fun s => rfl
end
end Cw
set_option maxHeartbeats 400000
namespace Cw
open PySem PySem.Spec PyProof.Rows L2

def M_check_cards (row_1 : (List Int)) (low_2 : Int) (high_3 : Int) : R Unit :=
  ((if (decide ((true) ∈ (List.map (fun (card_4 : Int) => (!((decide ((0 : Int) ≤ (card_4))) && (decide ((card_4) < (52 : Int)))))) (row_1)))) then R.ok true else ((lenSet (row_1)).bind fun (y_5 : Int) => R.ok (decide (y_5 < ((row_1).length : Int))))).bind fun t => if t then R.exc .unfit else (if (!((decide ((low_2) ≤ ((row_1).length : Int))) && (decide (((row_1).length : Int) ≤ (high_3))))) then R.exc .unfit else R.ok ()))
def M_suit_of (card_1 : Int) : R Int :=
  R.ok ((card_1) / 13)
def M_law_mixed (row_1 : (List Int)) (s_2 : Sta) : R ((List Int) × Sta) :=
  ((R.ok (row_1)).bind fun (left_3 : (List Int)) => (((((rng1 ((row_1).length : Int)).bind fun a => R.ok (a, (left_3, s_2))).bind fun t => R.mapMS (fun (k_4 : Int) (s_5 : ((List Int) × Sta)) => (((M_law_next ((s_5.1).length : Int) s_5.2).bind fun t => R.ok (t.1, (s_5.1, t.2))).bind fun (t : Int × ((List Int) × Sta)) => (popR t.2.1 t.1).bind fun u => R.ok (u.1, (u.2, t.2.2)))) t.1 t.2).bind fun (t_7 : (List Int) × ((List Int) × Sta)) => R.ok (t_7.1, t_7.2)).cb fun t => R.ok (t.1, t.2.2)))
def M_law_cards (low_1 : Int) (high_2 : Int) (most_3 : Int) (s_4 : Sta) : R ((List Int) × Sta) :=
  ((((rng1 (most_3)).bind fun (y_10 : (List Int)) => (M_law_mixed y_10 (s_4))).bind fun (t_9 : (List Int) × Sta) => ((M_law_next (((high_2) - (low_1)) + (1 : Int)) t_9.2).bind fun (t_12 : Int × Sta) => R.ok (((low_1) + t_12.1), t_12.2)).bind fun (t_11 : Int × Sta) => R.ok ((cut t_9.1 none (some t_11.1)), t_11.2)).cb fun t => R.ok t)
def M_law_is_whole (value_1 : D) : R Bool :=
  R.ok ((isA .int (value_1)) && (!(isA .bool (value_1))))
def M_law_are_wholes (value_1 : D) (count_2 : Int) : R Bool :=
  (if (isA .tuple (value_1)) then (((lenD (value_1)).bind fun (y_3 : Int) => R.ok (decide (y_3 = (count_2)))).bind fun c => if c then ((((R.ofOpt ((dT dD).dec (value_1))).bind fun (y_5 : (List D)) => (filtM (fun (part_4 : D) => ((M_law_is_whole (part_4)).bind fun c => R.ok (!c))) (fun (part_4 : D) => (R.ok part_4)) y_5)).bind fun a => R.ok ((eL eD) a)).bind fun (y_6 : D) => (eqR y_6 ((eL eD) ([] : List D)))) else R.ok false) else R.ok false)
def M_law_is (told_1 : D) (word_2 : Str) (count_3 : Int) : R Bool :=
  (if (isA .tuple (told_1)) then (((lenD (told_1)).bind fun (y_4 : Int) => R.ok (decide (y_4 = (count_3)))).bind fun c => if c then (((idxD (told_1) (0 : Int)).bind fun (y_5 : D) => R.ok (isA .str y_5)).bind fun c => if c then ((idxD (told_1) (0 : Int)).bind fun (y_6 : D) => (eqR y_6 (eS (word_2)))) else R.ok false) else R.ok false) else R.ok false)
def M_law_orders (count_1 : Int) : R (List (List Int)) :=
  ((R.ok [([] : List Int)]).bind fun (found_2 : (List (List Int))) => (((rng1 (count_1)).bind fun (y_15 : (List Int)) => (forR (fun (k_4 : Int) (t_3 : (List (List Int))) => ((R.ok ([] : List (List Int))).bind fun (longer_5 : (List (List Int))) => ((forR (fun (row_7 : (List Int)) (t_6 : (List (List Int))) => ((((rng1 (count_1)).bind fun (y_9 : (List Int)) => (R.mapM (fun (j_8 : Int) => (catR (row_7) ([(j_8)]))) (List.filter (fun (j_8 : Int) => (!decide ((j_8) ∈ (row_7)))) y_9))).bind fun (y_10 : (List (List Int))) => (catR (t_6) y_10)).bind fun (longer_11 : (List (List Int))) => R.ok longer_11)) (t_3) longer_5).bind fun (t_12 : (List (List Int))) => ((R.ok t_12).bind fun (found_13 : (List (List Int))) => R.ok found_13)))) y_15 found_2)).bind fun (t_14 : (List (List Int))) => R.ok (t_14)))
def M_law_is_place (value_1 : D) (most_2 : Int) : R Bool :=
  ((M_law_is_whole (value_1)).bind fun c => if c then ((R.ofOpt (dI.dec (value_1))).bind fun (y_3 : Int) => (if (decide ((0 : Int) ≤ y_3)) then R.ok (decide (y_3 < (most_2))) else R.ok false)) else R.ok false)
def M_law_are_places (value_1 : D) (most_2 : Int) : R Bool :=
  (if (isA .tuple (value_1)) then ((((R.ofOpt ((dT dD).dec (value_1))).bind fun (y_4 : (List D)) => (filtM (fun (part_3 : D) => ((M_law_is_place (part_3) (most_2)).bind fun c => R.ok (!c))) (fun (part_3 : D) => (R.ok part_3)) y_4)).bind fun a => R.ok ((eL eD) a)).bind fun (y_5 : D) => (eqR y_5 ((eL eD) ([] : List D)))) else R.ok false)
def M_law_ways (count_1 : Int) (size_2 : Int) : R (List (List Int)) :=
  ((R.ok [([] : List Int)]).bind fun (found_3 : (List (List Int))) => (((rng1 (size_2)).bind fun (y_16 : (List Int)) => (forR (fun (k_5 : Int) (t_4 : (List (List Int))) => ((R.ok ([] : List (List Int))).bind fun (longer_6 : (List (List Int))) => ((forR (fun (row_8 : (List Int)) (t_7 : (List (List Int))) => ((((rng1 (count_1)).bind fun (y_10 : (List Int)) => (R.mapM (fun (j_9 : Int) => (catR (row_8) ([(j_9)]))) y_10)).bind fun (y_11 : (List (List Int))) => (catR (t_7) y_11)).bind fun (longer_12 : (List (List Int))) => R.ok longer_12)) (t_4) longer_6).bind fun (t_13 : (List (List Int))) => ((R.ok t_13).bind fun (found_14 : (List (List Int))) => R.ok found_14)))) y_16 found_3)).bind fun (t_15 : (List (List Int))) => R.ok (t_15)))
def M_law_numbers (low_1 : Int) (high_2 : Int) (least_3 : Int) (most_4 : Int) (s_5 : Sta) : R ((List Int) × Sta) :=
  ((((((M_law_next (((high_2) - (low_1)) + (1 : Int)) (s_5)).bind fun (t_12 : Int × Sta) => R.ok (((low_1) + t_12.1), t_12.2)).bind fun t => (rng1 t.1).bind fun xs => R.ok (xs, t.2)).bind fun t => R.mapMS (fun (k_6 : Int) (s_7 : Sta) => ((M_law_next (((most_4) - (least_3)) + (1 : Int)) s_7).bind fun (t_8 : Int × Sta) => R.ok (((least_3) + t_8.1), t_8.2))) t.1 t.2).bind fun (t_11 : (List Int) × Sta) => R.ok (t_11.1, t_11.2)).cb fun t => R.ok t)
def M_law_count (row_1 : (List Int)) (value_2 : Int) : R Int :=
  R.ok ((List.map (fun (each_3 : Int) => (1 : Int)) (List.filter (fun (each_3 : Int) => (decide ((each_3) = (value_2)))) (row_1))).length : Int)
def M_are_places (value_1 : D) (most_2 : Int) : R Bool :=
  (if (isA .tuple (value_1)) then (((R.ofOpt ((dT dD).dec (value_1))).bind fun (y_6 : (List D)) => (R.mapM (fun (part_3 : D) => ((M_is_whole (part_3)).bind fun c => if c then ((R.ofOpt (dI.dec (part_3))).bind fun (y_4 : Int) => (if (decide ((0 : Int) ≤ y_4)) then R.ok (decide (y_4 < (most_2))) else R.ok false)) else R.ok false)) y_6)).bind fun (y_7 : (List Bool)) => R.ok (!decide ((false) ∈ y_7))) else R.ok false)
def M_rank_of (card_1 : Int) : R Int :=
  R.ok ((card_1) % 13)
def M_law_joined (rows_1 : (List (List Int))) : R (List Int) :=
  ((R.ok ([] : List Int)).bind fun (every_2 : (List Int)) => ((forR (fun (row_4 : (List Int)) (t_3 : (List Int)) => ((catR (t_3) (row_4)).bind fun (every_5 : (List Int)) => R.ok every_5)) (rows_1) every_2).bind fun (t_6 : (List Int)) => R.ok (t_6)))
end Cw
set_option maxHeartbeats 200000
namespace Cw
open PySem PySem.Spec PyProof.Rows L2
variable {α β γ δ ε ζ η S τ τ1 κ T : Type} {v : Vw} {ρ : Rho} {ρs : S → Rho} {μ : Md} {ea : α → D} {eb : β → D} {ec : γ → D} {ed : δ → D} {a b c : Expr} {ma : R α} {mb : R β} {mc : R γ} {p pos : Pos} {G : Rt β} {C : Cs β} {rest : List Stmt}
/-! ### x, y = e1, e2 -/
/-- how a value is held by a name: for good, or as its own new list -/
def hm (o : Bool) : Md := if o then .N else .V
def hsl (o : Bool) (d : D) : Sl := if o then .ow d else .sh d
def Held (o : Bool) (H0 F H : Hp) (u : V) (d : D) : Prop := if o then ∃ q xs ds, d = .list ds ∧ u = .ref q ∧ H0 q = none ∧ F q = none ∧ H q = some (.lst xs) ∧ xs.length ≤ sizeLine ∧ RpA F xs ds else Rp F u d
theorem held_po {o : Bool} {F H : Hp} {d : D} {Q : VK} (hd : o = true → ∃ ds, d = .list ds) (h : ∀ u H' F', Step F H F' H' → Held o H F' H' u d → Q u H') : Po (hm o) F H d Q := by
  cases o with
  | false => exact fun u H' F' s r => h u H' F' s r
  | true =>
    obtain ⟨ds, e⟩ := hd rfl
    exact ⟨ds, e, fun q xs H' F' s np nf e2 z r => h _ H' F' s ⟨q, xs, ds, e, rfl, np, nf, e2, z, r⟩⟩
theorem Held.step {o : Bool} {H0 F H F' H' : Hp} {u : V} {d : D} (h : Held o H0 F H u d) (s : Step F H F' H') : Held o H0 F' H' u d := by
  cases o with
  | false => exact Rp.mono s.fr h
  | true =>
    obtain ⟨q, xs, ds, e, e1, n0, nf, e2, z, r⟩ := h
    obtain ⟨n2, w⟩ := s.own (d := .list ds) nf ⟨xs, e2, z, r⟩
    exact ⟨q, xs, ds, e, e1, n0, n2, s.hp _ _ e2, z, r.mono s.fr⟩
theorem Held.set {o : Bool} {K : PySem.W.Frag} {B : Bs} {H0 F H : Hp} {σ : L2.St} {i : Nat} {u : V} {d : D} (h : Held o H0 F H u d) (hE : EnvOk K B F H σ ρ) (hb : ∀ q, H0 q = none → B.hp q = none ∧ ∀ j, owned ρ j → σ[j]? ≠ some (some (.ref q))) (hi : i < σ.length) : EnvOk K B F H (σ.set i (some u)) (ρ.set i (some (hsl o d))) := by
  cases o with
  | false => exact hE.setSh hi h
  | true =>
    obtain ⟨q, xs, ds, e, e1, n0, nf, e2, z, r⟩ := h
    subst e e1
    exact hE.setOw hi nf ⟨xs, e2, z, r⟩ (hb q n0).1 (hb q n0).2
theorem s1_par {o1 o2 : Bool} {x y : Str} {e1 e2 : Expr} {px py pt : Pos} {kt k2 : Nat} {pt2 : Pos} {m1 : R α} {m2 : R γ} {k : α × γ → R β} (i j : Nat) (hij : i ≠ j) (h1 : Sx v (hm o1) ρ e1 ea m1) (h2 : Sx v (hm o2) ρ e2 ec m2)
    (l1 : o1 = true → ∀ a, ∃ ds, ea a = .list ds) (l2 : o2 = true → ∀ a, ∃ ds, ec a = .list ds)
    (hw : ∀ env, env.scope = v.sc → swappedStores [.Tuple [.Name x px, .Name y py] kt pt] (.Tuple [e1, e2] k2 pt2) env = pure (some [x, y]))
    (hNi : v.N[i]? = some x := by rfl) (hNj : v.N[j]? = some y := by rfl) (hx : v.sc.names.lookup x = some .local := by rfl) (hy : v.sc.names.lookup y = some .local := by rfl)
    (hs : ∀ env, swapsWithSole [.Tuple [.Name x px, .Name y py] kt pt] (.Tuple [e1, e2] k2 pt2) pos.line env = pure false := by intro _; rfl)
    (hs1 : ∀ env, starEach [e1, e2] env = (false, eval e1 env) :: starEach [e2] env := by intro _; rfl) (hs2 : ∀ env, starEach [e2] env = (false, eval e2 env) :: starEach [] env := by intro _; rfl) (hr : Le ρ G.rx := by first | exact .nil | exact .k .nil | exact .refl _) :
    S1 v G (C.to (fun t => (ρ.set i (some (hsl o1 (ea t.1)))).set j (some (hsl o2 (ec t.2)))) k) ρ (.Assign [.Tuple [.Name x px, .Name y py] kt pt] (.Tuple [e1, e2] k2 pt2) pos) ((m1.bind fun a => m2.bind fun c => .ok (a, c)).bind k) := fun X hX => by
  have hNi' : X.N[i]? = some x := by rw [hX.hN]; exact hNi
  have hNj' : X.N[j]? = some y := by rw [hX.hN]; exact hNj
  have hp := ps_par (pos := pos) (px := px) (py := py) (kt := kt) (pt := pt) (k2 := k2) (pt2 := pt2) hX.calm hX.nd hNi' hNj' hij (by rw [hX.hsc]; exact hx) (by rw [hX.hsc]; exact hy) (pa_cons (h1 X hX) (pa_cons (h2 X hX) pa_nil (hs2 _)) (hs1 _)) (hw _ hX.hsc) (hs _)
  refine ⟨fun pins st σ H D' I ⟨B, F, hE, hW, g⟩ => hp.run pins st σ H D' I ?_⟩
  rw [R.bind_assoc] at hW
  refine wantS hE hr hW fun a _ hW => held_po (fun e => l1 e a) fun u H1 F1 s1 w1 => ?_
  replace hW := hW.mono s1.fr
  rw [R.bind_assoc] at hW
  refine wantS (hE.step s1) hr hW fun c _ hW => held_po (fun e => l2 e c) fun w H2 F2 s2 w2 => ?_
  refine ⟨u, w, rfl, g.nx (a, c) _ H2 F2 (s1.fr.trans s2.fr) ?_ (hW.mono s2.fr)⟩
  have f1 : ∀ q, H q = none → B.hp q = none ∧ ∀ j, owned ρ j → σ[j]? ≠ some (some (.ref q)) := fun q n => hE.fresh n
  have E1 := (w1.step s2).set (i := i) ((hE.step s1).step s2) f1 (lenσ I hNi')
  refine w2.set (i := j) E1 (fun q n => ⟨((hE.step s1).fresh n).1, fun l ol z => ?_⟩) (by rw [List.length_set]; exact lenσ I hNj')
  by_cases hl : l = i
  · subst hl
    rw [List.getElem?_set_self (lenσ I hNi')] at z
    cases o1 with
    | false =>
      obtain ⟨s, es, os⟩ := ol
      have : l < ρ.length := by
        rcases Nat.lt_or_ge l ρ.length with h | h
        · exact h
        · rw [List.getElem?_eq_none (by rw [List.length_set]; exact h)] at es; cases es
      rw [List.getElem?_set_self this] at es
      cases es
      cases os
    | true =>
      obtain ⟨q', xs, ds, _, e1, _, _, e2, _⟩ := w1
      rw [e1] at z
      cases z
      rw [e2] at n
      cases n
  · rw [List.getElem?_set_ne (fun e => hl e.symm)] at z
    exact ((hE.step s1).fresh n).2 l (owned_set ol hl) z
/-! ### any targets -/
theorem s1_asg {tg e : Expr} {m : R α} {k : α → R β} {js : List Nat} {upd : α → Rho → Rho} (h : Sx v .V ρ e ea m) (hg : Gt v tg ea js upd)
    (hs : ∀ env, swapsWithSole [tg] e pos.line env = pure false := by intro _; rfl) (hw : ∀ env, env.scope = v.sc → swappedStores [tg] e env = pure none) (h1 : ∀ env, (assignEach [tg] env).map (·.2) = [assign tg env] := by intro _; rfl) (hr : Le ρ G.rx := by first | exact .nil | exact .k .nil | exact .refl _) :
    S1 v G (C.to (fun a => upd a ρ) k) ρ (.Assign [tg] e pos) (m.bind k) := fun X hX =>
  (ps_asg (h X hX) (hg X hX) (hs _) (hw _ hX.hsc) (h1 _)).weak fun D' σ H ⟨B, F, hE, hW, g⟩ => by
    refine wantS hE hr hW fun a _ hW u H1 F1 s1 r => ?_
    exact ⟨B, F1, ρ, a, hE.step s1, r, fun σ' H2 F2 s2 hE2 _ => g.nx a σ' H2 F2 (s1.fr.trans s2.fr) hE2 ((hW.mono s1.fr).mono s2.fr)⟩
theorem s1_asgE {tg e : Expr} {m : S → R (α × S)} {k : α × S → R β} {js : List Nat} {upd : α → Rho → Rho} (s : S) (h : Ee v .V ρs e ea m) (hg : Gt v tg ea js upd)
    (hs : ∀ env, swapsWithSole [tg] e pos.line env = pure false := by intro _; rfl) (hw : ∀ env, env.scope = v.sc → swappedStores [tg] e env = pure none) (h1 : ∀ env, (assignEach [tg] env).map (·.2) = [assign tg env] := by intro _; rfl) :
    S1 v G (C.to (fun t => upd t.1 (ρs t.2)) k) (ρs s) (.Assign [tg] e pos) ((m s).cb k) := fun X hX =>
  (ps_asg (h X hX) (hg X hX) (hs _) (hw _ hX.hsc) (h1 _)).weak fun D' σ H ⟨B, F, hE, hW, g⟩ => by
    refine wantSE hE hW fun t _ hW u H1 F1 s1 hE1 r => ?_
    exact ⟨B, F1, ρs t.2, t.1, hE1, r, fun σ' H2 F2 s2 hE2 _ => g.nx t σ' H2 F2 (s1.trans s2.fr) hE2 ((hW.mono s1).mono s2.fr)⟩
end Cw
namespace Cw
open PySem PySem.Spec PyProof.Rows L2
variable {α β γ δ ε ζ η S τ τ1 κ T : Type} {v : Vw} {ρ : Rho} {ρs : S → Rho} {μ : Md} {ea : α → D} {eb : β → D} {ec : γ → D} {ed : δ → D} {a b c : Expr} {ma : R α} {mb : R β} {mc : R γ} {p pos : Pos} {G : Rt β} {C : Cs β} {rest : List Stmt}
/-! ### comprehensions with two sources -/
/-- each item's list, one behind another -/
def fm2 (f : α → R (List β)) : List α → R (List β)
  | [] => .ok []
  | x :: xs => match f x with
    | .ok ys => (fm2 f xs).bind fun zs => .ok (ys ++ zs)
    | _ => .bad
theorem fm2_calm (f : α → R (List β)) : ∀ (l : List α) (z : Ex), fm2 f l ≠ .exc z
  | [], z, h => by cases h
  | x :: l, z, h => by
    unfold fm2 at h
    split at h
    · cases q : fm2 f l with
      | ok _ => rw [q] at h; cases h
      | exc w => exact fm2_calm f l w q
      | bad => rw [q] at h; cases h
    · cases h
theorem fm2_split {f : α → R (List β)} : ∀ {xs : List α} {ys : List β} (i : Nat), fm2 f xs = .ok ys → ∃ zs, fm2 f (xs.take i) = .ok zs ∧ zs.length ≤ ys.length ∧
    ∀ x, xs[i]? = some x → ∃ w, f x = .ok w ∧ fm2 f (xs.take (i + 1)) = .ok (zs ++ w) ∧ zs.length + w.length ≤ ys.length
  | [], ys, i, h => by cases h; exact ⟨[], by simp [fm2], by simp, fun x e => by simp at e⟩
  | x :: xs, ys, 0, h => by
    refine ⟨[], rfl, by simp, fun y e => ?_⟩
    simp at e
    subst e
    unfold fm2 at h
    cases q : f x with
    | ok w =>
      rw [q] at h
      refine ⟨w, rfl, by rw [List.take_succ_cons, List.take_zero]; unfold fm2; rw [q]; simp [fm2], ?_⟩
      cases q2 : fm2 f xs with
      | ok zs => rw [q2] at h; cases h; simp
      | exc z => rw [q2] at h; cases h
      | bad => rw [q2] at h; cases h
    | exc z => rw [q] at h; cases h
    | bad => rw [q] at h; cases h
  | x :: xs, ys, i + 1, h => by
    unfold fm2 at h
    cases q : f x with
    | ok w0 =>
      rw [q] at h
      cases q2 : fm2 f xs with
      | ok us =>
        rw [q2] at h
        cases h
        obtain ⟨zs, h1, h2, h3⟩ := fm2_split i q2
        refine ⟨w0 ++ zs, by rw [List.take_succ_cons]; unfold fm2; rw [q, h1]; rfl, by simp; omega, fun y e => ?_⟩
        obtain ⟨w, k1, k2, k3⟩ := h3 y (by simpa using e)
        exact ⟨w, k1, by rw [List.take_succ_cons]; unfold fm2; rw [q, k2]; simp, by simp; omega⟩
      | exc z => rw [q2] at h; cases h
      | bad => rw [q2] at h; cases h
    | exc z => rw [q] at h; cases h
    | bad => rw [q] at h; cases h
def lc2R (f : α → R (List β)) (l : List α) : R (List β) := (fm2 f l).bind fun ys => if ys.length ≤ sizeLine then .ok ys else .bad
def lc2I (c : α → R Bool) (mi1 : α → R (List γ)) (d : α → γ → R Bool) (f : α → γ → R β) (x : α) : R (List β) := (c x).bind fun t => if t then (mi1 x).bind fun l1 => R.fmapM (fun y => (d x y).bind fun t => if t then (f x y).bind fun z => .ok (some z) else .ok none) l1 else .ok []
theorem fmapM_calm (f : α → R (Option β)) : ∀ (l : List α) (z : Ex), R.fmapM f l ≠ .exc z
  | [], z, h => by cases h
  | x :: l, z, h => by
    unfold R.fmapM at h
    split at h
    · cases q : R.fmapM f l with
      | ok _ => rw [q] at h; cases h
      | exc w => exact fmapM_calm f l w q
      | bad => rw [q] at h; cases h
    · cases h
theorem fmapM_len {f : α → R (Option β)} : ∀ {l : List α} {ys : List β} (i : Nat) {zs : List β} {o : Option β} {x : α}, R.fmapM f l = .ok ys → R.fmapM f (l.take i) = .ok zs → l[i]? = some x → f x = .ok o → zs.length + o.toList.length ≤ ys.length
  | [], _, _, _, _, _, _, _, h, _ => by simp at h
  | y :: l, ys, 0, zs, o, x, h, h1, h2, h3 => by
    simp at h2
    subst h2
    cases h1
    unfold R.fmapM at h
    rw [h3] at h
    cases q : R.fmapM f l with
    | ok us =>
      dsimp only at h
      rw [q] at h
      cases h
      cases o <;> simp [R.consO]
    | exc z => dsimp only at h; rw [q] at h; cases h
    | bad => dsimp only at h; rw [q] at h; cases h
  | y :: l, ys, i + 1, zs, o, x, h, h1, h2, h3 => by
    rw [List.take_succ_cons] at h1
    unfold R.fmapM at h h1
    cases q0 : f y with
    | ok o0 =>
      rw [q0] at h h1
      dsimp only at h h1
      cases q : R.fmapM f l with
      | ok us =>
        rw [q] at h
        cases h
        cases q2 : R.fmapM f (l.take i) with
        | ok ws =>
          rw [q2] at h1
          cases h1
          have ih := fmapM_len i q q2 (by simpa using h2) h3
          cases o0 <;> simp [R.consO] <;> omega
        | exc z => rw [q2] at h1; cases h1
        | bad => rw [q2] at h1; cases h1
      | exc z => rw [q] at h; cases h
      | bad => rw [q] at h; cases h
    | exc z => rw [q0] at h; cases h
    | bad => rw [q0] at h; cases h
theorem step_push {F1 H1 F H : Hp} {Dd : Addr} {us : List V} {w : V} (t : Step F1 H1 F H) (nD : H1 Dd = none) (nF : F Dd = none) : Step F1 H1 F (upd H Dd (.lst (us ++ [w]))) := by
  refine ⟨t.fr, fun b o e => ?_, fun b o e => ?_, t.new⟩
  · rw [upd_ne (ne_of_none e nD)]; exact t.hp b o e
  · rw [upd_ne (fun z => by rw [z, nF] at e; cases e)]; exact t.sub b o e
theorem keep_D {F2 H2 F' H' : Hp} {Dd : Addr} {us : List V} (nF2 : F2 Dd = none) (hD : H2 Dd = some (.lst us)) (t : Step F2 H2 F' H') : F' Dd = none ∧ H' Dd = some (.lst us) := by
  refine ⟨?_, t.hp _ _ hD⟩
  cases q : F' Dd with
  | none => rfl
  | some w =>
    rcases t.new Dd (by rw [q]; simp) with z | z
    · exact absurd nF2 z
    · rw [hD] at z; cases z
theorem wipe_or (σ : L2.St) (j : Nat) : ∀ vs : List Nat, (L2.wipe σ vs)[j]? = σ[j]? ∨ j ∈ vs
  | [] => .inl rfl
  | w :: vs => by
    by_cases e : w = j
    · exact .inr (by rw [e]; exact List.mem_cons_self)
    · rcases wipe_or σ j vs with h | h
      · refine .inl ?_
        unfold L2.wipe
        rw [List.getElem?_set_ne e]
        exact h
      · exact .inr (List.mem_cons_of_mem _ h)
theorem lc2_read {B : Bs} {F H : Hp} {σ : L2.St} {Q : VK} {own : List (Str × Nat)} {scope : Scope} {js js1 : List Nat} {upd' : α → Rho → Rho} {upd1 : γ → Rho → Rho} {c : α → R Bool} {mi : R (List α)} {mi1 : α → R (List γ)} {d : α → γ → R Bool} {f : α → γ → R β}
    (hjs : ∀ j ∈ js, j ∈ own.map (·.2)) (hE : EnvOk v.K B F H σ ρ) (hW : Want v .N σ F H (eL eb) (mi.bind fun l => lc2R (lc2I c mi1 d f) l) Q) :
    tLc2 (rdI v false ρ ea mi) (fun u σ H Q => ∃ B F ρ x, EnvOk v.K B F H σ ρ ∧ Rp F u (ea x) ∧ ∀ σ' H' F', Step F H F' H' → EnvOk v.K B F' H' σ' (upd' x ρ) → (∀ vs : List Nat, (∀ j ∈ js, j ∈ vs) → wipe σ' vs = wipe σ vs) → Q σ' H')
      (fun σ H Q => ∃ x, rdT (v.blk scope) (upd' x (wipeR ρ (own.map (·.2)))) (c x) σ H Q) (fun σ H R' => ∃ x, rdI (v.blk scope) true (upd' x (wipeR ρ (own.map (·.2)))) ec (mi1 x) σ H R')
      (fun u σ H Q => ∃ B F ρ x, EnvOk v.K B F H σ ρ ∧ Rp F u (ec x) ∧ ∀ σ' H' F', Step F H F' H' → EnvOk v.K B F' H' σ' (upd1 x ρ) → (∀ vs : List Nat, (∀ j ∈ js1, j ∈ vs) → wipe σ' vs = wipe σ vs) → Q σ' H')
      (fun σ H Q => ∃ x y, rdT (v.blk scope) (upd1 y (wipeR (upd' x (wipeR ρ (own.map (·.2)))) js1)) (d x y) σ H Q) (fun σ H Q => ∃ x y, rd (v.blk scope) .V (upd1 y (wipeR (upd' x (wipeR ρ (own.map (·.2)))) js1)) eb (f x y) σ H Q) (own.map (·.2)) js1 σ H Q := by
  refine ⟨B, F, hE, ?_⟩
  cases mi with
  | exc x => exact hW
  | bad => exact hW.elim
  | ok l =>
    intro J H1 F1 s1 hz it Dd nD
    replace hW := hW.step s1
    rw [R.bind_ok] at hW
    unfold lc2R at hW
    cases hm : fm2 (lc2I c mi1 d f) l with
    | bad => rw [hm] at hW; exact hW.elim
    | exc z => exact absurd hm (fm2_calm _ l z)
    | ok ys =>
      rw [hm, R.bind_ok] at hW
      by_cases hys : ys.length ≤ sizeLine
      · rw [if_pos hys] at hW
        obtain ⟨ds, e, hQ⟩ := hW
        simp only [eL, PyData.list.injEq] at e
        subst e
        have hE1 := hE.step s1
        have nF1 : F1 Dd = none := s1.sub.free nD
        refine ⟨fun i m H => ∃ F us zs, m = l.length - i ∧ i ≤ l.length ∧ Step F1 H1 F H ∧ F Dd = none ∧ H Dd = some (.lst us) ∧ fm2 (lc2I c mi1 d f) (l.take i) = .ok zs ∧ RpA F us (zs.map eb),
          ⟨l.length, F1, [], [], by simp, Nat.zero_le _, .laid s1.sub nD, nF1, upd_same, by simp [fm2], .nil⟩, ?_⟩
        rintro i m H2 ⟨F2, us, zs, rfl, hi, s2, nF2, hD, hzs, r⟩
        obtain ⟨zs', h1, h2, h3⟩ := fm2_split i hm
        have : zs' = zs := by rw [hzs] at h1; cases h1; rfl
        subst this
        have J1 := it i F2 H2 s2.sub (by simp only [Bool.false_eq_true, if_false]; exact s2)
        by_cases hlt : i < l.length
        · have hx : l[i]? = some l[i] := List.getElem?_eq_getElem hlt
          obtain ⟨go, yl⟩ := J1.2 _ hx
          obtain ⟨wl, hf, hnext, hlen⟩ := h3 _ hx
          refine .inr ⟨go, fun H' => ∃ F us, Step F1 H1 F H' ∧ F Dd = none ∧ H' Dd = some (.lst us) ∧ RpA F us ((zs' ++ wl).map eb), fun H' ⟨F', us', a1, a2, a3, a4⟩ => ⟨l.length - (i + 1), by omega, F', us', _, rfl, hlt, a1, a2, a3, hnext, a4⟩, fun u H3 y => ?_⟩
          obtain ⟨F3, s3, r3⟩ := yl u H3 y
          have s13 := s2.trans s3
          have fr1 := (hE1.fresh nD)
          have nbf : B.f Dd = none := by
            cases q : B.f Dd with
            | none => rfl
            | some o => have := hE1.fz _ _ q; rw [nF1] at this; cases this
          have hW3 := (hE1.step s13).wipe (own.map (·.2))
          obtain ⟨nD3, hD3⟩ := keep_D nF2 hD s3
          have hG3 := hW3.guard hD3 nD3 (fun j oj z => by
            obtain ⟨s, es, os⟩ := oj
            obtain ⟨e1, e2⟩ := wipeR_some es
            rcases wipe_or σ j (own.map (·.2)) with e | e
            · rw [e] at z
              exact fr1.2 j ⟨s, e1, os⟩ z
            · exact e2 e)
          refine ⟨_, F3, wipeR ρ (own.map (·.2)), l[i], hG3, r3, fun σ4 H4 F4 s4 hE4 w4 => ⟨(w4 _ hjs).trans (wipe_wipe σ _), ?_⟩⟩
          have s14 := s13.trans s4
          unfold lc2I at hf
          cases hc : c l[i] with
          | exc z => rw [hc] at hf; cases hf
          | bad => rw [hc] at hf; cases hf
          | ok t =>
            rw [hc, R.bind_ok] at hf
            refine ⟨l[i], _, F4, hE4, ?_⟩
            rw [hc]
            intro H5 F5 s5
            have s15 := s14.trans s5
            obtain ⟨nD5, hD5⟩ := keep_D nF2 hD ((s3.trans s4).trans s5)
            cases t with
            | false =>
              rw [if_neg (by simp)] at hf ⊢
              cases hf
              exact ⟨F5, us, s15, nD5, hD5, by simpa using r.mono ((s3.trans s4).trans s5).fr⟩
            | true =>
              rw [if_pos rfl] at hf ⊢
              cases hm1 : mi1 l[i] with
              | exc z => rw [hm1] at hf; cases hf
              | bad => rw [hm1] at hf; cases hf
              | ok l1 =>
                rw [hm1, R.bind_ok] at hf
                refine ⟨l[i], _, F5, hE4.step s5, ?_⟩
                rw [hm1]
                intro J2 H6 F6 s6 hz1 it1
                have s16 := s15.trans s6
                have s26 := ((s3.trans s4).trans s5).trans s6
                obtain ⟨nD6, hD6⟩ := keep_D nF2 hD s26
                have hE6 := (hE4.step s5).step s6
                refine ⟨fun j k H => ∃ F vs ws, k = l1.length - j ∧ j ≤ l1.length ∧ Step F1 H1 F H ∧ Same F6 F ∧ F Dd = none ∧ H Dd = some (.lst vs) ∧ EnvOk v.K ⟨upd B.hp Dd (.lst vs), B.f⟩ F H σ4 (upd' l[i] (wipeR ρ (own.map (·.2)))) ∧
                    R.fmapM (fun y => (d l[i] y).bind fun t => if t then (f l[i] y).bind fun z => .ok (some z) else .ok none) (l1.take j) = .ok ws ∧ RpA F vs ((zs' ++ ws).map eb),
                  ⟨l1.length, F6, us, [], by simp, Nat.zero_le _, s16, .refl _, nD6, hD6, hE6, by simp [R.fmapM], by simpa using r.mono s26.fr⟩, ?_⟩
                rintro j k H7 ⟨F7, vs, ws, rfl, hj, s7, fr7, nF7, hD7, hE7, hws, r7⟩
                obtain ⟨ws', g1, g2, g3⟩ := R.fmapM_split j hf
                have : ws' = ws := by rw [hws] at g1; cases g1; rfl
                subst this
                have J3 := it1 j F7 H7 s7.sub (by simp only [if_true]; exact fr7)
                by_cases hlt1 : j < l1.length
                · have hx1 : l1[j]? = some l1[j] := List.getElem?_eq_getElem hlt1
                  obtain ⟨go1, yl1⟩ := J3.2 _ hx1
                  obtain ⟨o, hfo, hnx⟩ := g3 _ hx1
                  have hbd := fmapM_len j hf hws hx1 hfo
                  refine .inr ⟨go1, fun H' => ∃ F vs, Step F1 H1 F H' ∧ Same F6 F ∧ F Dd = none ∧ H' Dd = some (.lst vs) ∧ EnvOk v.K ⟨upd B.hp Dd (.lst vs), B.f⟩ F H' σ4 (upd' l[i] (wipeR ρ (own.map (·.2)))) ∧ RpA F vs ((zs' ++ (ws' ++ o.toList)).map eb),
                    fun H' ⟨F', vs', b1, b2, b3, b4, b5, b6⟩ => ⟨l1.length - (j + 1), by omega, F', vs', _, rfl, hlt1, b1, b2, b3, b4, b5, hnx, b6⟩, fun u8 H8 y8 => ?_⟩
                  obtain ⟨F8, s8, r8⟩ := yl1 u8 H8 y8
                  refine ⟨_, F8, wipeR (upd' l[i] (wipeR ρ (own.map (·.2)))) js1, l1[j], (hE7.step s8).wipe _, r8, fun σ9 H9 F9 s9 hE9 w9 => ⟨(w9 _ fun j h => h).trans (wipe_wipe σ4 _), ?_⟩⟩
                  cases hd : d l[i] l1[j] with
                  | exc z => rw [hd] at hfo; cases hfo
                  | bad => rw [hd] at hfo; cases hfo
                  | ok t =>
                    rw [hd, R.bind_ok] at hfo
                    refine ⟨l[i], l1[j], _, F9, hE9, ?_⟩
                    rw [hd]
                    intro H10 F10 s10
                    have s70 := (s8.trans s9).trans s10
                    cases t with
                    | false =>
                      rw [if_neg (by simp)] at hfo ⊢
                      cases hfo
                      obtain ⟨nD10, hD10⟩ := keep_D nF7 hD7 s70
                      exact ⟨F10, vs, s7.trans s70, fr7.trans s70.fr, nD10, hD10, hE7.step s70, by simpa using r7.mono s70.fr⟩
                    | true =>
                      rw [if_pos rfl] at hfo ⊢
                      cases hfx : f l[i] l1[j] with
                      | exc z => rw [hfx] at hfo; cases hfo
                      | bad => rw [hfx] at hfo; cases hfo
                      | ok y =>
                        rw [hfx, R.bind_ok] at hfo
                        cases hfo
                        refine ⟨l[i], l1[j], _, F10, hE9.step s10, want_blk hfx ?_⟩
                        intro w H11 F11 s11 r11
                        have s71 := s70.trans s11
                        obtain ⟨nD11, hD11⟩ := keep_D nF7 hD7 s71
                        have vl : vs.length = zs'.length + ws'.length := by rw [r7.length, List.length_map, List.length_append]
                        simp only [Option.toList_some, List.length_cons, List.length_nil] at hbd
                        refine ⟨vs, hD11, by omega, F11, vs ++ [w], step_push (s7.trans s71) nD nD11, fr7.trans s71.fr, nD11, upd_same, ?_, ?_⟩
                        · obtain ⟨_, _, no, hU⟩ := EnvOk.unguard (o' := .lst (vs ++ [w])) fr1.1 nbf (hE7.step s71)
                          exact hU.guard upd_same nD11 no
                        · rw [← List.append_assoc, List.map_append]
                          exact (r7.mono s71.fr).append (.cons r11 .nil)
                · have ej : j = l1.length := by omega
                  subst ej
                  refine .inl ⟨J3.1 (Nat.le_refl _), F7, vs, s7, nF7, hD7, ?_⟩
                  rw [List.take_length, hf] at hws
                  cases hws
                  exact r7
        · have ei : i = l.length := by omega
          subst ei
          refine .inl ⟨J1.1 (Nat.le_refl _), ?_⟩
          rw [List.take_length, hm] at hzs
          cases hzs
          have len : us.length ≤ sizeLine := by rw [r.length, List.length_map]; exact hys
          exact hQ Dd us _ F2 s2 nD nF2 hD len r
      · rw [if_neg hys] at hW
        exact hW.elim
section
variable {elt tg iter tg1 iter1 : Expr} {ifs ifs1 : List Expr} {scope : Scope} {own : List (Str × Nat)} {js js1 : List Nat} {upd' : α → Rho → Rho} {upd1 : γ → Rho → Rho} {c : α → R Bool} {mi : R (List α)} {mi1 : α → R (List γ)} {d : α → γ → R Bool} {f : α → γ → R β}
theorem sx_lc2G (hjs : ∀ j ∈ js, j ∈ own.map (·.2)) (hj1 : ∀ j ∈ js1, j ∈ own.map (·.2)) (hi : Si v false ρ tg iter ea mi) (ok : blkC v.N v.sc scope own = true) (hg : Gt (v.blk scope) tg ea js upd')
    (ht : ∀ x, Tts (v.blk scope) (upd' x (wipeR ρ (own.map (·.2)))) ifs (c x)) (hi1 : ∀ x, Si (v.blk scope) true (upd' x (wipeR ρ (own.map (·.2)))) tg1 iter1 ec (mi1 x)) (hg1 : Gt (v.blk scope) tg1 ec js1 upd1)
    (ht1 : ∀ x y, Tts (v.blk scope) (upd1 y (wipeR (upd' x (wipeR ρ (own.map (·.2)))) js1)) ifs1 (d x y)) (he : ∀ x y, Sx (v.blk scope) .V (upd1 y (wipeR (upd' x (wipeR ρ (own.map (·.2)))) js1)) elt eb (f x y))
    (hs : ∀ env x, foldedSetIterable iter env x = pure x := by intro _ _; rfl) (hs1 : ∀ env x, foldedSetIterable iter1 env x = pure x := by intro _ _; rfl) :
    Sx v .N ρ (.ListComp elt [⟨tg, iter, ifs, 0⟩, ⟨tg1, iter1, ifs1, 0⟩] scope pos) (eL eb) (mi.bind fun l => lc2R (lc2I c mi1 d f) l) := fun X hX =>
  have hk := (blkOk_by ok).kind
  (pe_lc2 (own := own) (vs1 := js1) hX.calm hX.nd (hi X hX) (by rw [hX.hN, hX.hsc]; exact blkOk_by ok) hj1 (fun s H C cl fp => hg _ (blk_has hX hk))
    (fun s H C cl fp => ⟨fun pins s σ H Q I ⟨x, h⟩ => (ht x _ (blk_has hX hk)).run pins s σ H Q I h⟩) (fun s H C cl fp => ⟨fun pins s σ H Q I ⟨x, h⟩ => (hi1 x _ (blk_has hX hk)).run pins s σ H Q I h⟩) (fun s H C cl fp => hg1 _ (blk_has hX hk))
    (fun s H C cl fp => ⟨fun pins s σ H Q I ⟨x, y, h⟩ => (ht1 x y _ (blk_has hX hk)).run pins s σ H Q I h⟩) (fun s H C cl fp => ⟨fun pins s σ H Q I ⟨x, y, h⟩ => (he x y _ (blk_has hX hk)).run pins s σ H Q I h⟩) (hs _) hs1).weak
    fun σ H Q ⟨B, F, hE, hW⟩ => lc2_read hjs hE hW
end
end Cw
namespace Cw
open PySem PySem.Spec PyProof.Rows L2
variable {α β γ δ ε ζ η S τ τ1 κ T : Type} {v : Vw} {ρ : Rho} {ρs : S → Rho} {μ : Md} {ea : α → D} {eb : β → D} {ec : γ → D} {ed : δ → D} {a b c : Expr} {ma : R α} {mb : R β} {mc : R γ} {p pos : Pos} {G : Rt β} {C : Cs β} {rest : List Stmt}
/-! ### repr of tuples, != of texts -/
def reprD (d : D) : R Str := match d with
  | .tuple ds => if d.showable && (decide (d.shown.length ≤ sizeLine) && SeqAt.shaped d) then .ok d.shown else .bad
  | _ => .bad
theorem call_reprT {X : Cx} (hg : X.A.guards = some []) (hu : X.A.units + 65 < cLine) : CallR X (.builtin "repr") fun xs H Q => ∃ x ds, xs = [x] ∧ Dp X.K H x (.tuple ds) ∧ (PyData.tuple ds).showable = true ∧ (PyData.tuple ds).shown.length ≤ sizeLine ∧ SeqAt.shaped (.tuple ds) = true ∧ Q (.str (PyData.tuple ds).shown) H := by
  intro pins s σ H xs us Q I r h
  obtain ⟨x, ds, rfl, hd, h1, h2, h3, q⟩ := h
  obtain ⟨u, rfl, rx⟩ := vals1 r
  obtain ⟨as, rd⟩ := Dp.reads I _ x u hd rx
  have lay := SeqAt.canLay_of_shaped h3
  have dep : (PyData.tuple ds).depth ≤ 64 := by
    unfold SeqAt.shaped at h3
    simp only [Bool.and_eq_true, decide_eq_true_eq] at h3
    exact h3.2
  have nd : (PyData.tuple ds).hasDict = false := PyData.hasDict_of_canLay _ lay
  obtain ⟨ad, rfl⟩ : ∃ ad, u = .ref ad := by cases rd; exact ⟨_, rfl⟩
  obtain ⟨T, idr, B⟩ := showsBy_of_reads (prog := X.prog) (w := X.w) rd h1 (fun e => by rw [nd] at e; cases e) h2
  refine call_repr_slot (by omega) (B.typeIs s fun _ _ e => e) B.slotRepr (B.call _ _ _ _ (by simpa using hg) (by simp; omega) (fun _ _ e => e) fun h' u tk k => ⟨_, _, rfl, .str _, H, I.kept k, ⟨_, rfl⟩, q⟩)
theorem c_reprD : Cl1 v (.builtin "repr") .V eD eS reprD where
  calm := fun d x => by
    unfold reprD
    split
    · split <;> simp
    · simp
  run := fun X hX => (call_reprT hX.gd (hasU hX)).weak fun xs H Q ⟨F, x, d, e, s, n, c, g, q⟩ => by
    subst e
    unfold reprD at g
    split at g
    · rename_i ds
      split at g
      · rename_i h
        cases g
        simp only [Bool.and_eq_true, decide_eq_true_eq] at h
        refine ⟨x, ds, rfl, nw_dp s (SeqAt.canLay_of_shaped h.2.2) n, h.1, h.2.1, h.2.2, q _ H F (.refl s) (.str _)⟩
      · cases g
    · cases g
theorem o_neS : Op2 v (compareOp .NotEq) .V eS eS eB fun a b => .ok (!decide (a = b)) where
  calm := fun _ _ _ => nofun
  run := fun X hX => op_ne.weak fun x y H Q ⟨F, a, b, s, n1, n2, c, g, q⟩ => by
    cases g
    rw [nwStr n1, nwStr n2]
    exact ⟨rfl, by have := q (.bl (!decide (V.str a = V.str b))) H F (.refl s) (by rw [show decide (V.str a = V.str b) = decide (a = b) by simp]; exact .bl _); exact this⟩
/-! ### the first place of an equal one, how many there are -/
def indexR [DecidableEq α] (xs : List α) (x : α) : R Int := if x ∈ xs ∧ xs.length ≤ 1000000 then .ok (xs.idxOf x : Int) else .bad
theorem indexR_calm [DecidableEq α] (xs : List α) (x : α) (z : Ex) : indexR xs x ≠ .exc z := by
  unfold indexR
  split <;> simp
/-- a method of one argument -/
structure Mt1 (v : Vw) (id : String) (ea : α → D) (eb : β → D) (ec : γ → D) (g : α → β → R γ) : Prop where
  calm : ∀ a b x, g a b ≠ .exc x
  run : ∀ X, v.Has X → MtR X id fun x xs H Q => ∃ F a y b, xs = [y] ∧ Same F H ∧ Nw F H x (ea a) ∧ Nw F H y (eb b) ∧ ∃ c, g a b = .ok c ∧ Po .V F H (ec c) Q
theorem _root_.L2.MtR.weak {X : Cx} {id : String} {r r' : V → List V → Hp → VK → Prop} (h : MtR X id r) (w : ∀ x xs H Q, r' x xs H Q → r x xs H Q) : MtR X id r' := fun pins s σ H x xs u us Q I rx r q => h pins s σ H x xs u us Q I rx r (w _ _ _ _ q)
theorem mt_idxL [DecidableEq α] {n : Nat} {e : α → D} (h : Eqq n e) (hn : n ≤ 60) : Mt1 v "list.index" (eL e) e eI indexR where
  calm := indexR_calm
  run := fun X hX => (mt_indexD (hasU hX)).weak fun x xs H Q ⟨F, as, y, b, rx, s, n1, n2, c, g, q⟩ => by
    subst rx
    unfold indexR at g
    split at g
    · rename_i hm
      cases g
      have lx : (PyData.list (as.map e)).canLay0 = true := by simp only [PyData.canLay0]; exact layAll_map h.lay as
      have dx : (PyData.list (as.map e)).depth ≤ 64 := by
        simp only [PyData.depth]
        have := depAll_map h.dep as
        omega
      obtain ⟨a, ys, rfl, _⟩ := nwLst s n1
      have hi := List.idxOf_lt_length_of_mem hm.1
      refine ⟨a, y, e b, as.map e, as.idxOf b, e as[as.idxOf b], rfl, rfl, nw_dp s lx n1, nw_dp s (h.lay b) n2, by unfold SeqAt.shaped; rw [lx]; simpa using dx, h.shaped (by omega) b, ?_, ?_, fun m z hm2 hz => ?_, q _ H F (.refl s) (.int _)⟩
      · rw [List.getElem?_map, List.getElem?_eq_getElem hi]
        rfl
      · rw [h.eq, List.getElem_idxOf]
        simp
      · rw [List.getElem?_map] at hz
        cases q2 : as[m]? with
        | none => rw [q2] at hz; cases hz
        | some w =>
          rw [q2] at hz
          cases hz
          rw [h.eq]
          simp only [decide_eq_false_iff_not]
          rintro rfl
          have := List.not_of_lt_findIdx (p := (· == w)) (xs := as) (i := m) hm2
          rw [List.getElem?_eq_some_iff] at q2
          obtain ⟨_, q2⟩ := q2
          rw [q2] at this
          simp at this
    · cases g
theorem mt_cntL : Mt1 v "list.count" (eL eI) eI eI fun ns k => .ok (ns.count k : Int) where
  calm := fun _ _ _ => nofun
  run := fun X hX => (mt_lcount).weak fun x xs H Q ⟨F, ns, y, k, rx, s, n1, n2, c, g, q⟩ => by
    subst rx
    cases g
    obtain ⟨a, ys, rfl, h1, r, _⟩ := nwLst s n1
    rw [nwInt n2]
    exact ⟨a, ns, k, rfl, rfl, .of (by rw [← RpA.ints r]; exact h1), q _ H F (.refl s) (.int _)⟩
section
variable {e : α → D} {g : List α → β → R γ} {ap : Pos} {ml : R (List α)}
theorem sx_mt1L {nm : Str} {id : String} (slot : Slot "list" nm id) (hty : typeOf (.builtin id) = pure (.type "method_descriptor")) (o : Mt1 v id (eL e) eb ec g) (ha : Sx v .P ρ a (eL e) ml) (hb : Sx v .P ρ b eb mb)
    (hba : ∀ env, attributeBase a nm env (eval a env) = eval a env := by intro _; rfl) (hw : ∀ env, ((backTo pos (starEach [b] env)).all (fun x => !x.1) && (backToKw pos (keywordEach [] env)).all (fun x => x.1.isSome) && decide (([b] : List Expr).length + ([] : List Keyword).length + (if ([] : List Keyword).isEmpty then 0 else 1) < 30)) = true := by intro _; rfl)
    (hl : (ap.endLine == pos.line) = true := by rfl) (he : ∀ env, starEach [b] env = (false, eval b env) :: starEach [] env := by intro _; rfl) :
    Sx v .V ρ (.Call (.Attribute a nm ap) [b] [] pos) ec (ml.bind fun xs => mb.bind fun y => g xs y) := fun X hX =>
  (pe_bm PySem.F.plainAttrs_list slot hty (o.run X hX) (ha X hX) (pa_cons (hb X hX) pa_nil (he _)) (hba _) (hw _) hl (he _) (by rfl)).weak fun σ H Q ⟨B, F, hE, hW⟩ => by
    refine ⟨B, F, hE, hW.bind fun xs _ hW => ?_⟩
    intro u H1 F1 s1 n1
    obtain ⟨q, us, rfl, h1, r, _⟩ := nwLst s1.sub n1
    refine ⟨.inl ⟨rfl, us, .inl (.inl h1)⟩, B, F1, hE.step s1, (hW.step s1).bind fun y _ hW => ?_⟩
    intro w H2 F2 s2 n2
    obtain ⟨c, e, q2⟩ := want_no (o.calm xs y) hW
    exact ⟨F2, xs, w, y, rfl, s2.sub, n1.step s2, n2, c, e, q2.step s2⟩
theorem sx_indexL [DecidableEq α] {n : Nat} (h : Eqq n e) {mb : R α} (ha : Sx v .P ρ a (eL e) ml) (hb : Sx v .P ρ b e mb)
    (hba : ∀ env, attributeBase a "index" env (eval a env) = eval a env := by intro _; rfl) (hw : ∀ env, ((backTo pos (starEach [b] env)).all (fun x => !x.1) && (backToKw pos (keywordEach [] env)).all (fun x => x.1.isSome) && decide (([b] : List Expr).length + ([] : List Keyword).length + (if ([] : List Keyword).isEmpty then 0 else 1) < 30)) = true := by intro _; rfl)
    (hl : (ap.endLine == pos.line) = true := by rfl) (he : ∀ env, starEach [b] env = (false, eval b env) :: starEach [] env := by intro _; rfl) (hn : n ≤ 60 := by decide) :
    Sx v .V ρ (.Call (.Attribute a "index" ap) [b] [] pos) eI (ml.bind fun xs => mb.bind fun y => indexR xs y) := sx_mt1L F.slot_list_index F.type_list_index (mt_idxL h hn) ha hb hba hw hl he
theorem sx_count {ml : R (List Int)} {mb : R Int} (ha : Sx v .P ρ a (eL eI) ml) (hb : Sx v .P ρ b eI mb)
    (hba : ∀ env, attributeBase a "count" env (eval a env) = eval a env := by intro _; rfl) (hw : ∀ env, ((backTo pos (starEach [b] env)).all (fun x => !x.1) && (backToKw pos (keywordEach [] env)).all (fun x => x.1.isSome) && decide (([b] : List Expr).length + ([] : List Keyword).length + (if ([] : List Keyword).isEmpty then 0 else 1) < 30)) = true := by intro _; rfl)
    (hl : (ap.endLine == pos.line) = true := by rfl) (he : ∀ env, starEach [b] env = (false, eval b env) :: starEach [] env := by intro _; rfl) :
    Sx v .V ρ (.Call (.Attribute a "count" ap) [b] [] pos) eI (ml.bind fun xs => mb.bind fun y => .ok (xs.count y : Int)) := sx_mt1L F.slot_list_count F.type_list_count mt_cntL ha hb hba hw hl he
end
/-! ### sorted of a tuple of ints -/
theorem sorted_tup {prog : Program} {w : World} {A : Around} {E : Value → Shared → Prop} {s : Shared} {l : Addr} {vs : List Value} {ns : List Int} {Q : Value → Shared → Prop} (ht : s.heap.IsTuple l vs.toArray) (hi : IntsAre vs ns) (hz : vs.length ≤ sizeLine)
    (h : ∀ (h1 h2 : Heap) (p : Addr) (out : List Value) (c : Nat), (∀ b o, s.heap.get? b = some o → h1.get? b = some o) → (∀ b o, h1.get? b = some o → h2.get? b = some o) → h1.objs.size ≤ p → h2.get? p = some (seqObj "list" out.toArray c) → IntsAre out (out.map SrtO.iv) → (out.map SrtO.iv).Perm ns → (out.map SrtO.iv).Pairwise (· ≤ ·) → Q (.ref p) { s with heap := h2 }) :
    wpAny (model prog w) A (call (.builtin "sorted") [.ref l]) Q E s := by
  obtain ⟨o, ho, hc, n, hd⟩ := ht
  (refine Calls.call_function_entry kind_sorted plain_sorted entry_sorted (args_sorted1 _) ?_; unfold Builtin.«sorted»)
  (refine wpAny_bind (m := checkCount "sorted" 1 1 _) (wpAny_pure ?_); refine wpAny_bind (wpAny_collect_seq l (.inr rfl) ho hc hd (fun h1 k1 => ?_) (by simpa using hz)))
  refine wpAny_bind (wpAny_newList ?_ hz)
  have at_ : (h1.push (seqObj "list" vs.toArray 0)).get? h1.objs.size = some (seqObj "list" vs.toArray 0) := Heap.get?_push_size _ rfl
  refine wpAny_bind (wpAny_holding (wpAny_call_entry PyProof.Rows.slot_list_sort ⟨_, at_, rfl⟩ PyProof.Rows.entry_list_sort (SrtO.list_sort_ord SrtO.swo_int at_ hz (fun h2 => SrtO.ints_sortable hi h2) fun out hs hb => ⟨_, rfl, ?_⟩) (PyProof.Rows.args_list_sort _)))
  obtain ⟨i1, i2, i3⟩ := SrtO.ints_out hi hs hb
  obtain ⟨c, hc2⟩ := PyProof.Rows.sortedHeap_at (vs := vs) (out := out.toArray) at_
  refine wpAny_pure ⟨_, rfl, h h1 _ h1.objs.size out c k1 (fun b o e1 => ?_) (Nat.le_refl _) hc2 i1 i2 i3⟩
  have lt := Heap.lt_size e1
  rw [PyProof.Rows.sortedHeap_old (Nat.ne_of_lt lt) (by rw [size_push']; exact Nat.lt_succ_of_lt lt)]
  exact Heap.get?_push_of_some _ e1
theorem cr_sortedTI {X : Cx} : CallR X (.builtin "sorted") fun xs H Q => ∃ a ns, xs = [.ref a] ∧ SqT X.K H a (ns.map V.int) ∧ ns.length ≤ sizeLine ∧ ∀ p, H p = none → Q (.ref p) (upd H p (.lst ((sortI ns).map V.int))) := by
  intro pins s σ H xs us Q I r h
  obtain ⟨a, ns, rfl, hq, hz, q⟩ := h
  rw [Vals.ref1 r]
  obtain ⟨its, rv, pl, _⟩ := I.tuple hq
  have hl : its.length = ns.length := by rw [← rv.length, List.length_map]
  refine sorted_tup pl (RZ.intsAre_vals rv) (by omega) fun h1 h2 p out c k1 k2 le at_ i1 i2 i3 => ?_
  have J : L2.Inv X pins σ H { s with heap := h1 } := I.kept (t' := s.toks) k1
  have e : out.map SrtO.iv = sortI ns := perm_sorted_eq (i2.trans (sortI_perm ns).symm) i3 (sortI_sorted ns)
  rw [e] at i1
  refine ⟨.ref p, _, J.laid (t' := s.toks) k2 le (show ObjOk X.prog X.w _ _ _ (.lst ((sortI ns).map V.int)) from ⟨by rw [List.length_map, (sortI_perm ns).length_eq]; exact hz, out, c, vals_of_ints i1, at_⟩), rfl, q p (J.hok.fresh le)⟩
theorem c_sortedT : Cl1 v (.builtin "sorted") .N (eT eI) (eL eI) fun ns => .ok (sortI ns) where
  calm := fun _ _ => nofun
  run := fun X hX => cr_sortedTI.weak fun xs H Q ⟨F, x, ns, e, s, n, c, g, q⟩ => by
    subst e
    cases g
    obtain ⟨a, us, rfl, h1, _, r, z⟩ := nwTup s n
    have eu := RpA.ints r
    have zl : ns.length ≤ sizeLine := by rw [eu, List.length_map] at z; exact z
    obtain ⟨ds, e2, q⟩ := q
    cases e2
    refine ⟨a, ns, rfl, .of (by rw [← eu]; exact h1), zl, fun p np => q p _ _ F (.laid s np) np (s.free np) upd_same (by rw [List.length_map, (sortI_perm ns).length_eq]; exact zl) (RpA.of_ints _)⟩
/-! ### range with a step -/
def rng3L (a b c : Int) : List Int := (List.range (if c < 0 then (a - b + (-c) - 1) / (-c) else (b - a + c - 1) / c).toNat).map fun (i : Nat) => a + (i : Int) * c
end Cw
namespace L2
open PySem PySem.Spec PyProof.Rows
/-! ### enumerate of a tuple, over HandS -/
theorem meets_enumerate_newT (l : Addr) (items : Array Value) (n : Nat) (dct : Option Addr) (sl : Array (Option Value)) :
    Meets (Builtin.«enumerate.__new__» ⟨[.type "enumerate", .ref l], []⟩) (fun _ R s => s.heap.get? l = some { cls := .type "tuple", dict := dct, data := .seq items n, slots := sl } ∧
      R (.ok (.ret (.ref (s.heap.push { cls := .type "tuple_iterator", data := .fields #[.ref l, .int 0 0] }).objs.size)))
        { s with heap := (s.heap.push { cls := .type "tuple_iterator", data := .fields #[.ref l, .int 0 0] }).push { cls := .type "enumerate", data := .fields #[.none, .bool false, .ref s.heap.objs.size, rawInt 0, .none, .none] } }) :=
  .of_wp fun prog w A R s h => by
    obtain ⟨hp, g, d, tk, os⟩ := s; obtain ⟨hl, h⟩ := h
    have hsub := sub_enumerate
    have hL : Heap.IsTuple (Shared.heap ⟨hp, g, d, tk, os⟩) l items := ⟨_, hl, rfl, n, rfl⟩
    wp_walk using AutoSeq1.wpAny_loadPart' hl
    refine wpAny_stack_any fun st => wpAny_pure ?_
    split
    · rename_i c _ _ _ _ _
      cases (c == Value.type "enumerate")
      · wp_walk using AutoSeq1.wpAny_loadPart' hl, wpAny_pyIter_tuple hL
        exact ⟨_, rfl, h⟩
      · wp_walk using AutoSeq1.wpAny_loadPart' hl, wpAny_pyIter_tuple hL
        exact ⟨_, rfl, h⟩
    · wp_walk using AutoSeq1.wpAny_loadPart' hl, wpAny_pyIter_tuple hL
      exact ⟨_, rfl, h⟩
theorem call_enumerate_tuple {prog : Program} {w : World} {A : Around} {E : Value → Shared → Prop} {s : Shared} {l : Addr} {items : Array Value} {Q : Value → Shared → Prop} (hL : s.heap.IsTuple l items)
    (h : ∀ h', IsEnum h' (s.heap.objs.size + 1) s.heap.objs.size 0 .none → h'.IsTupleIter s.heap.objs.size l 0 → h'.objs.size = s.heap.objs.size + 2 →
      (∀ b o, s.heap.get? b = some o → h'.get? b = some o) → Q (.ref (s.heap.objs.size + 1)) { s with heap := h' }) :
    wpAny (model prog w) A (call (.type "enumerate") [.ref l]) Q E s := by
  obtain ⟨⟨c, dct, dt, sl⟩, hl, hc, n, hd⟩ := hL
  replace hc : c = .type "tuple" := hc
  replace hd : dt = .seq items n := hd
  subst hc hd
  refine callType_new F.called_enumerate (by decide) (F.typeCall_enumerate_1 _) (F.newCall_enumerate_1 _) (fun obj => F.args_object_init_2 obj _) F.entry_enumerate_new
    (meets_enumerate_newT l items n dct sl) ⟨hl, ?_⟩
  have hz : (s.heap.push { cls := .type "tuple_iterator", data := .fields #[.ref l, .int 0 0] }).objs.size = s.heap.objs.size + 1 := Heap.size_push ..
  show _ ∧ _
  rw [hz]
  have he : IsEnum ((s.heap.push { cls := .type "tuple_iterator", data := .fields #[.ref l, .int 0 0] }).push
      { cls := .type "enumerate", data := .fields #[.none, .bool false, .ref s.heap.objs.size, rawInt 0, .none, .none] }) (s.heap.objs.size + 1) s.heap.objs.size 0 .none := by
    have := Heap.get?_push_size (s.heap.push { cls := .type "tuple_iterator", data := .fields #[.ref l, .int 0 0] })
      (o := { cls := .type "enumerate", data := .fields #[.none, .bool false, .ref s.heap.objs.size, rawInt 0, .none, .none] }) rfl
    rw [hz] at this; exact this
  refine ⟨⟨_, he, rfl⟩, h _ he ⟨_, Heap.get?_push_of_some _ (Heap.get?_push_size _ rfl), rfl, rfl⟩ (by rw [Heap.size_push, hz]) fun b o x => Heap.get?_push_of_some _ (Heap.get?_push_of_some _ x)⟩
/-- the tuple at a, of n items, each item in a new pair -/
def IteT (K : PySem.W.Frag) (a : Addr) (n : Nat) : It :=
  ⟨fun i H => ∃ (xs : List V) (x : V), SqT K H a xs ∧ xs.length = n ∧ xs[i]? = some x, fun i H v H' => ∃ T x, v = .ref T ∧ H T = none ∧ H' = upd H T (.tup [.int (i : Nat), x]) ∧ ∀ xs, SqT K H a xs → xs[i]? = some x, fun i H => ∃ xs : List V, SqT K H a xs ∧ xs.length = n ∧ n ≤ i⟩
theorem turn_enumT {P : Program} {w : World} {K : PySem.W.Frag} {elts : List Expr} {kk : Nat} {tpos : Pos} (a e it : Addr) (n : Nat) (hea : a ≠ it) (hea2 : e ≠ a) :
    Turn P w K (.Tuple elts kk tpos) (IteT K a n) [e, it] e (fun i h => (∃ old, IsEnum h e it ((i : Nat) : Int) old) ∧ h.IsTupleIter it a i ∧ e ≠ it ∧ i ≤ n) where
  mem := by simp
  obj := fun i h st b hb => by
    obtain ⟨⟨old, he⟩, ⟨o, ho, hc, hd⟩, _⟩ := st
    have e' : b = e ∨ b = it := by simpa using hb
    rcases e' with z | z
    · rw [z]; exact ⟨_, he, fun v q => nomatch q⟩
    · rw [z]; exact ⟨o, ho, fun v q => by rw [hd] at q; cases q⟩
  keep := fun i h h' st k => let ⟨⟨old, he⟩, hi, hne, hl⟩ := st; ⟨⟨old, k e (by simp) _ he⟩, hi.at fun o q => k it (by simp) o q, hne, hl⟩
  item := by
    intro X hP hw hK hc i pins s σ H E I hf st hg
    subst hP hw hK
    obtain ⟨⟨old, he⟩, hit, hne, hle⟩ := st
    obtain ⟨xs, x, hq, hn, hx⟩ := hg
    obtain ⟨its, rv, p, hz⟩ := I.tuple hq
    obtain ⟨u, hu, ru⟩ := rv.get hx
    have hl := rv.length
    have hel : e < s.heap.objs.size := Heap.lt_size he
    have hil : it < s.heap.objs.size := by obtain ⟨_, q, _⟩ := hit; exact Heap.lt_size q
    have hlt : i < its.toArray.size := by
      have := (List.getElem?_eq_some_iff.mp hu).1
      simpa using this
    have hef : e ∉ [it, a] := by simp [hne, hea2]
    refine wpAny_pyNext_enum_itemD (D := Draws.tuple (A := X.A.in1) (I.ok.hd hc) it a hea its.toArray) he ⟨hit, p⟩ hlt hne hef fun y h' tk hy ho hst hT hsz hk => ?_
    have ey : y = u := by
      have : some u = some y := by rw [← hu, ← hy]; simp
      cases this; rfl
    subst ey
    refine ⟨_, rfl, wpAny_letOwnedTupleGo_enum (s := { s with heap := h', toks := tk + 1 }) ho fun h'' he' sb => ?_⟩
    have hT2 : h''.get? s.heap.objs.size = some { cls := .type "tuple", data := .seq #[.int i tk, y] } := (sb.2 _ (Nat.ne_of_gt hel)).trans hT
    have new : ObjOk X.prog X.w (upd H s.heap.objs.size (.tup [.int (i : Nat), x])) h'' s.heap.objs.size (.tup [.int (i : Nat), x]) :=
      ⟨by show 2 ≤ sizeLine; decide, [.int i tk, y], .cons ⟨_, rfl⟩ (.cons ru .nil), ⟨_, hT2, rfl, _, rfl⟩⟩
    have I1 : Inv X pins σ (upd H s.heap.objs.size (.tup [.int (i : Nat), x])) { s with heap := h'', toks := tk + 1 } :=
      I.turnedNew (ch := [e, it]) (fun b ob hb q => (sb.2 b (fun z => hb (by simp [z]))).trans (hk b ob (fun z => hb (by simp [z])) (fun z => hb (by simp [z])) q)) hf (Nat.le_refl _) new
    refine ⟨.ref s.heap.objs.size, _, I1, rfl, ⟨_, x, rfl, I.hok.fresh (Nat.le_refl _), rfl, fun ys hy => by rw [I.tuple_inj hy hq]; exact hx⟩, ⟨⟨y, ?_⟩, hst.1.at fun o q => (sb.2 it (Ne.symm hne)).trans q, hne, ?_⟩, fun b hb => ?_⟩
    · have e1 : ((i + 1 : Nat) : Int) = (i : Int) + 1 := by omega
      rw [e1]; exact he'
    · simp only [List.size_toArray] at hlt
      omega
    · have hb' : b < s.heap.objs.size := by
        have e' : b = e ∨ b = it := by simpa using hb
        rcases e' with z | z
        · rw [z]; exact hel
        · rw [z]; exact hil
      rw [upd_ne (Nat.ne_of_lt hb')]
      exact (hf b hb).1
  done := by
    intro X hP hw hK hc i pins s σ H E I hf st hg
    subst hP hw hK
    obtain ⟨⟨old, he⟩, hit, hne, hle⟩ := st
    obtain ⟨xs, hq, hn, hx⟩ := hg
    obtain ⟨its, rv, p, hz⟩ := I.tuple hq
    obtain ⟨f0, f1, f2, f3, f4, f5⟩ := hf it (by simp)
    have hl := rv.length
    have ei : i = its.toArray.size := by simp; omega
    subst ei
    exact wpAny_pyNext_enum_endD (D := Draws.tuple (A := X.A.in1) (I.ok.hd hc) it a hea its.toArray) he ⟨hit, p⟩ fun h' eb => ⟨rfl, I.turned (t' := s.toks) (fun b o hb q => eb b o hb q) f0 f1 f3 f4 f5⟩
  self := fun A i s Q E st h => let ⟨⟨_, he⟩, _⟩ := st; wpAny_pyIter_enum he h
def iEnumT (K : PySem.W.Frag) (ta : TA) : TI := fun σ H R => ta σ H fun vs H1 => ∃ a xs, vs = [.ref a] ∧ SqT K H1 a xs ∧ R (IteT K a xs.length) H1
theorem pi_enumT {X : Cx} {e : Expr} {ta : TA} {p pos tpos : Pos} {elts : List Expr} {kk : Nat} (hg : Gl X "enumerate") (hm : X.mg "enumerate" = none) (ha : PA X [e] ta) (hs : starEach [e] X.env = [(false, eval e X.env)] := by rfl) :
    PI X (.Tuple elts kk tpos) (.Call (.Name "enumerate" p) [e] [] pos) (iEnumT X.K ta) := by
  refine ⟨fun pins s σ H R I h => ?_⟩
  refine Call_ (ld_blt I hg hm boot_enumerate (PyProof.Rows.callWith_type1 (thn (ha.run pos pins s σ H _ I h) fun us s1 ⟨vs, H1, I1, r1, q1⟩ => ?_) hs rfl))
  obtain ⟨a, xs, ex, hq, q⟩ := q1
  subst ex
  cases r1 with
  | cons r rr =>
    cases rr
    cases r
    obtain ⟨its, rv, p', hz⟩ := I1.tuple hq
    have la : a < s1.heap.objs.size := by obtain ⟨o, ho, _⟩ := id p'; exact Heap.lt_size ho
    refine call_enumerate_tuple (show s1.heap.IsTuple a its.toArray from p') fun h' he hit hsz hk => wpAny_pyIter_enum he ?_
    have I2 : Inv X pins σ H1 { s1 with heap := h' } := I1.kept (t' := s1.toks) hk
    refine ⟨s1.heap.objs.size + 1, [s1.heap.objs.size + 1, s1.heap.objs.size], _, _, H1, rfl, I2, turn_enumT a (s1.heap.objs.size + 1) s1.heap.objs.size xs.length (Nat.ne_of_lt la) (Nat.ne_of_gt (Nat.lt_succ_of_lt la)), ⟨⟨.none, he⟩, hit, Nat.succ_ne_self _, Nat.zero_le _⟩, fun b hb => ?_, q⟩
    have e' : b = s1.heap.objs.size + 1 ∨ b = s1.heap.objs.size := by simpa using hb
    have hle : s1.heap.objs.size ≤ b := by
      rcases e' with z | z
      · rw [z]; exact Nat.le_add_right _ _
      · rw [z]; exact Nat.le_refl _
    exact I1.fpOk hle (I1.hok.fresh hle)
end L2
namespace Cw
open PySem PySem.Spec PyProof.Rows L2
variable {α β γ δ ε ζ η S τ τ1 κ T : Type} {v : Vw} {ρ : Rho} {ρs : S → Rho} {μ : Md} {ea : α → D} {eb : β → D} {ec : γ → D} {ed : δ → D} {a b c : Expr} {ma : R α} {mb : R β} {mc : R γ} {p pos tpos : Pos} {G : Rt β} {C : Cs β} {rest : List Stmt}
/-! ### enumerate, zip -/
def enumL (xs : List α) : List (Int × α) := xs.zipIdx.map fun p => ((p.2 : Int), p.1)
theorem enumL_get {xs : List α} {i : Nat} {p : Int × α} (h : (enumL xs)[i]? = some p) : p.1 = i ∧ xs[i]? = some p.2 := by
  unfold enumL at h
  rw [List.getElem?_map, List.getElem?_zipIdx] at h
  cases e : xs[i]? with
  | none => rw [e] at h; cases h
  | some x =>
    rw [e] at h
    cases h
    exact ⟨by simp, rfl⟩
theorem pair_step {F H : Hp} {T : Addr} {x y : V} {d e : D} (sb : Same F H) (np : H T = none) (r1 : Rp F x d) (r2 : Rp F y e) : ∃ F', Step F H F' (upd H T (.tup [x, y])) ∧ Rp F' (.ref T) (.tuple [d, e]) := by
  have s : Step F H (upd F T (.tup [x, y])) (upd H T (.tup [x, y])) := .froz sb np
  exact ⟨_, s, .tup upd_same (by show 2 ≤ sizeLine; decide) (.cons (r1.mono s.fr) (.cons (r2.mono s.fr) .nil))⟩
theorem ite_ok {K : PySem.W.Frag} {G : Hp → Hp → Prop} {q : Addr} {us : List V} {xs : List α} (h : ∀ F H, Same F H → G F H → H q = some (.lst us) ∧ RpA F us (xs.map ea)) : ItOk G (Ite K q) (enumL xs) (eP eI ea) := fun i F H sb g => by
  obtain ⟨h1, r⟩ := h F H sb g
  have hl := r.length
  rw [List.length_map] at hl
  refine ⟨fun hi => ⟨us, .of h1, by simp [enumL] at hi; omega⟩, fun x hx => ?_⟩
  obtain ⟨i1, x1⟩ := enumL_get hx
  obtain ⟨u, e1, e2⟩ := r.get (i := i) (d := ea x.2) (by simp [x1])
  refine ⟨⟨us, u, .of h1, e1⟩, fun w H' ⟨T, y, ew, np, eH, hy⟩ => ?_⟩
  subst ew eH
  have : some y = some u := (hy us (.of h1)).symm.trans e1
  cases this
  obtain ⟨F', s, r⟩ := pair_step sb np (.int (i : Int)) e2
  exact ⟨F', s, by rw [show eP eI ea x = .tuple [.int (i : Int), ea x.2] from by rw [← i1]; rfl]; exact r⟩
theorem iteT_ok {K : PySem.W.Frag} {G : Hp → Hp → Prop} {q : Addr} {us : List V} {xs : List α} (h : ∀ F H, Same F H → G F H → H q = some (.tup us) ∧ RpA F us (xs.map ea)) : ItOk G (IteT K q us.length) (enumL xs) (eP eI ea) := fun i F H sb g => by
  obtain ⟨h1, r⟩ := h F H sb g
  have hl := r.length
  rw [List.length_map] at hl
  refine ⟨fun hi => ⟨us, .of h1, rfl, by simp [enumL] at hi; omega⟩, fun x hx => ?_⟩
  obtain ⟨i1, x1⟩ := enumL_get hx
  obtain ⟨u, e1, e2⟩ := r.get (i := i) (d := ea x.2) (by simp [x1])
  refine ⟨⟨us, u, .of h1, rfl, e1⟩, fun w H' ⟨T, y, ew, np, eH, hy⟩ => ?_⟩
  subst ew eH
  have : some y = some u := (hy us (.of h1)).symm.trans e1
  cases this
  obtain ⟨F', s, r⟩ := pair_step sb np (.int (i : Int)) e2
  exact ⟨F', s, by rw [show eP eI ea x = .tuple [.int (i : Int), ea x.2] from by rw [← i1]; rfl]; exact r⟩
theorem si_enumL {elts : List Expr} {kk : Nat} {m : R (List α)} (hm : v.mg "enumerate" = none) (h : Sx v .V ρ a (eL ea) m) (hg : v.sc.names.lookup ("enumerate" : Str) = some .globalImplicit := by rfl) (he : ∀ env, starEach [a] env = (false, eval a env) :: starEach [] env := by intro _; rfl) :
    Si v true ρ (.Tuple elts kk tpos) (.Call (.Name "enumerate" p) [a] [] pos) (eP eI ea) (m.bind fun xs => .ok (enumL xs)) := fun X hX => (pi_enum (hX.gl hg) (by rw [hX.hmg]; exact hm) (sa_cons h sa_nil he X hX) (by rw [he]; rfl)).weak fun σ H Q ⟨B, F, hE, hW⟩ => by
  refine ⟨B, F, hE, ?_⟩
  cases m with
  | ok xs =>
    intro us H1 F1 s1 r1
    cases r1 with
    | cons r t =>
      cases t
      cases r with
      | @lst q us ds e z r =>
        refine ⟨q, us, rfl, .of (s1.sub _ _ e), hW _ H1 F1 s1 (by have := r.length; simp [enumL] at *; omega) (ite_ok (us := us) fun F2 H2 sb g => ?_)⟩
        simp only [if_true] at g
        exact ⟨sb _ _ (g _ _ e), r.mono g⟩
  | exc x => exact hW
  | bad => exact hW
theorem si_enumT {elts : List Expr} {kk : Nat} {m : R (List α)} (hm : v.mg "enumerate" = none) (h : Sx v .V ρ a (eT ea) m) (hg : v.sc.names.lookup ("enumerate" : Str) = some .globalImplicit := by rfl) (he : ∀ env, starEach [a] env = (false, eval a env) :: starEach [] env := by intro _; rfl) :
    Si v true ρ (.Tuple elts kk tpos) (.Call (.Name "enumerate" p) [a] [] pos) (eP eI ea) (m.bind fun xs => .ok (enumL xs)) := fun X hX => (pi_enumT (hX.gl hg) (by rw [hX.hmg]; exact hm) (sa_cons h sa_nil he X hX) (by rw [he]; rfl)).weak fun σ H Q ⟨B, F, hE, hW⟩ => by
  refine ⟨B, F, hE, ?_⟩
  cases m with
  | ok xs =>
    intro us H1 F1 s1 r1
    cases r1 with
    | cons r t =>
      cases t
      cases r with
      | @tup q us ds e z r =>
        refine ⟨q, us, rfl, .of (s1.sub _ _ e), hW _ H1 F1 s1 (by have := r.length; simp [enumL] at *; omega) (iteT_ok (us := us) fun F2 H2 sb g => ?_)⟩
        simp only [if_true] at g
        exact ⟨sb _ _ (g _ _ e), r.mono g⟩
  | exc x => exact hW
  | bad => exact hW
theorem itz_ok {K : PySem.W.Frag} {G : Hp → Hp → Prop} {q q2 : Addr} {us us2 : List V} {xs : List α} {ys : List β} (h : ∀ F H, Same F H → G F H → (H q = some (.lst us) ∧ RpA F us (xs.map ea)) ∧ (H q2 = some (.lst us2) ∧ RpA F us2 (ys.map eb))) : ItOk G (Itz K q q2) (xs.zip ys) (eP ea eb) := fun i F H sb g => by
  obtain ⟨⟨h1, r⟩, h2, r2⟩ := h F H sb g
  have hl := r.length
  have hl2 := r2.length
  rw [List.length_map] at hl hl2
  refine ⟨fun hi => ⟨us, us2, .of h1, .of h2, by rw [List.length_zip] at hi; omega⟩, fun x hx => ?_⟩
  have hx' := List.getElem?_zip_eq_some.mp hx
  obtain ⟨u, e1, e2⟩ := r.get (i := i) (d := ea x.1) (by simp [hx'.1])
  obtain ⟨u2, f1, f2⟩ := r2.get (i := i) (d := eb x.2) (by simp [hx'.2])
  refine ⟨⟨us, us2, u, u2, .of h1, .of h2, e1, f1⟩, fun w H' ⟨T, y, y2, ew, np, eH, hy, hy2⟩ => ?_⟩
  subst ew eH
  have : some y = some u := (hy us (.of h1)).symm.trans e1
  cases this
  have : some y2 = some u2 := (hy2 us2 (.of h2)).symm.trans f1
  cases this
  exact pair_step sb np e2 f2
theorem itzT_ok {K : PySem.W.Frag} {G : Hp → Hp → Prop} {q q2 : Addr} {us us2 : List V} {xs : List α} {ys : List β} (h : ∀ F H, Same F H → G F H → (H q = some (.tup us) ∧ RpA F us (xs.map ea)) ∧ (H q2 = some (.tup us2) ∧ RpA F us2 (ys.map eb))) : ItOk G (RZ.ItzT K q q2) (xs.zip ys) (eP ea eb) := fun i F H sb g => by
  obtain ⟨⟨h1, r⟩, h2, r2⟩ := h F H sb g
  have hl := r.length
  have hl2 := r2.length
  rw [List.length_map] at hl hl2
  refine ⟨fun hi => ⟨us, us2, .of h1, .of h2, by rw [List.length_zip] at hi; omega⟩, fun x hx => ?_⟩
  have hx' := List.getElem?_zip_eq_some.mp hx
  obtain ⟨u, e1, e2⟩ := r.get (i := i) (d := ea x.1) (by simp [hx'.1])
  obtain ⟨u2, f1, f2⟩ := r2.get (i := i) (d := eb x.2) (by simp [hx'.2])
  refine ⟨⟨us, us2, u, u2, .of h1, .of h2, e1, f1⟩, fun w H' ⟨T, y, y2, ew, np, eH, hy, hy2⟩ => ?_⟩
  subst ew eH
  have : some y = some u := (hy us (.of h1)).symm.trans e1
  cases this
  have : some y2 = some u2 := (hy2 us2 (.of h2)).symm.trans f1
  cases this
  exact pair_step sb np e2 f2
theorem si_zipLL {elts : List Expr} {kk : Nat} {ma : R (List α)} {mb : R (List β)} (hm : v.mg "zip" = none) (h : Sx v .V ρ a (eL ea) ma) (h' : Sx v .V ρ b (eL eb) mb) (hg : v.sc.names.lookup ("zip" : Str) = some .globalImplicit := by rfl) (he : ∀ env, starEach [a, b] env = (false, eval a env) :: starEach [b] env := by intro _; rfl) (he2 : ∀ env, starEach [b] env = (false, eval b env) :: starEach [] env := by intro _; rfl) :
    Si v true ρ (.Tuple elts kk tpos) (.Call (.Name "zip" p) [a, b] [] pos) (eP ea eb) (ma.bind fun xs => mb.bind fun ys => .ok (xs.zip ys)) := fun X hX => (RZ.pi_zipA (hX.gl hg) (by rw [hX.hmg]; exact hm) (sa_cons h (sa_cons h' sa_nil he2) he X hX) (by rw [he]) (by rw [he2]; rfl)).weak fun σ H Q ⟨B, F, hE, hW⟩ => by
  refine ⟨B, F, hE, ?_⟩
  cases ma with
  | ok xs =>
    cases mb with
    | ok ys =>
      intro us H1 F1 s1 r1
      cases r1 with
      | cons r t =>
        cases t with
        | cons r' t =>
          cases t
          cases r with
          | @lst q us ds e z r =>
            cases r' with
            | @lst q' us' ds' e' z' r' =>
              refine ⟨q, q', us, us', rfl, .inl ⟨.of (s1.sub _ _ e), .of (s1.sub _ _ e'), hW _ H1 F1 s1 (by have := r.length; rw [List.length_zip]; simp at this; omega) (itz_ok (us := us) (us2 := us') fun F2 H2 sb g => ?_)⟩⟩
              simp only [if_true] at g
              exact ⟨⟨sb _ _ (g _ _ e), r.mono g⟩, sb _ _ (g _ _ e'), r'.mono g⟩
    | exc x => exact hW
    | bad => exact hW
  | exc x => exact hW
  | bad => exact hW
theorem si_zipTT {elts : List Expr} {kk : Nat} {ma : R (List α)} {mb : R (List β)} (hm : v.mg "zip" = none) (h : Sx v .V ρ a (eT ea) ma) (h' : Sx v .V ρ b (eT eb) mb) (hg : v.sc.names.lookup ("zip" : Str) = some .globalImplicit := by rfl) (he : ∀ env, starEach [a, b] env = (false, eval a env) :: starEach [b] env := by intro _; rfl) (he2 : ∀ env, starEach [b] env = (false, eval b env) :: starEach [] env := by intro _; rfl) :
    Si v true ρ (.Tuple elts kk tpos) (.Call (.Name "zip" p) [a, b] [] pos) (eP ea eb) (ma.bind fun xs => mb.bind fun ys => .ok (xs.zip ys)) := fun X hX => (RZ.pi_zipA (hX.gl hg) (by rw [hX.hmg]; exact hm) (sa_cons h (sa_cons h' sa_nil he2) he X hX) (by rw [he]) (by rw [he2]; rfl)).weak fun σ H Q ⟨B, F, hE, hW⟩ => by
  refine ⟨B, F, hE, ?_⟩
  cases ma with
  | ok xs =>
    cases mb with
    | ok ys =>
      intro us H1 F1 s1 r1
      cases r1 with
      | cons r t =>
        cases t with
        | cons r' t =>
          cases t
          cases r with
          | @tup q us ds e z r =>
            cases r' with
            | @tup q' us' ds' e' z' r' =>
              refine ⟨q, q', us, us', rfl, .inr ⟨.of (s1.sub _ _ e), .of (s1.sub _ _ e'), hW _ H1 F1 s1 (by have := r.length; rw [List.length_zip]; simp at this; omega) (itzT_ok (us := us) (us2 := us') fun F2 H2 sb g => ?_)⟩⟩
              simp only [if_true] at g
              exact ⟨⟨sb _ _ (g _ _ e), r.mono g⟩, sb _ _ (g _ _ e'), r'.mono g⟩
    | exc x => exact hW
    | bad => exact hW
  | exc x => exact hW
  | bad => exact hW
end Cw
namespace Cw
open PySem PySem.Spec PyProof.Rows L2
variable {α β γ δ ε ζ η S τ τ1 κ T : Type} {v : Vw} {ρ : Rho} {ρs : S → Rho} {μ : Md} {ea : α → D} {eb : β → D} {ec : γ → D} {ed : δ → D} {a b c : Expr} {ma : S → R (α × S)} {mb : S → R (β × S)} {p pos tpos : Pos} {G : Rt β} {C : Cs β} {rest : List Stmt}
/-! ### effects below a builtin; walked -/
theorem c_readN {f : α → R γ} {e : Expr} {m : S → R (α × S)} {r : List V → Hp → VK → Prop} {σ : L2.St} {F H : Hp} {B : Bs} {Q : VK} {s : S} (hx : ∀ a x, f a ≠ .exc x) (hE : EnvOk v.K B F H σ (ρs s)) (hW : WantE v B .N σ F ec ρs ((m s).bind fun t => (f t.1).bind fun c => .ok (c, t.2)) Q) :
    rdE v .V ρs ea m σ H fun x H1 => ∃ F x' a, [x] = [x'] ∧ Same F H1 ∧ Nw F H1 x' (ea a) ∧ ∃ c, f a = .ok c ∧ Po .N F H1 (ec c) Q := by
  refine ⟨B, F, s, hE, hW.bind fun t _ hW => ?_⟩
  intro u H1 F1 s1 hE1 r1
  replace hW := hW.mono s1
  cases hg : f t.1 with
  | ok c =>
    rw [hg] at hW
    refine ⟨F1, u, t.1, rfl, hE1.sub, .inl r1, c, hg, ?_⟩
    obtain ⟨ds, e, hW⟩ := hW
    exact ⟨ds, e, fun q xs H3 F3 s3 np nf e z r => hW q xs H3 F3 s3.fr (hE1.step s3) (hE1.fresh np).1 nf (hE1.fresh np).2 e z r⟩
  | exc x => exact absurd hg (hx _ x)
  | bad => rw [hg] at hW; exact hW.elim
theorem ee_b1 {x : Str} {id : String} {f : α → R γ} (c : Cl1 v (.builtin id) .V ea ec f) (hm : v.mg x = none) (hv : bootBuiltins x = some (.builtin id)) (ha : Ee v .V ρs a ea ma) (hg : v.sc.names.lookup x = some .globalImplicit := by rfl)
    (he : ∀ env, starEach [a] env = (false, eval a env) :: starEach [] env := by intro _; rfl) (hn : x ≠ "__name__" := by decide) (hdb : (x == ("__debug__" : Str)) = false := by decide) :
    Ee v .V ρs (.Call (.Name x p) [a] [] pos) ec fun s => (ma s).bind fun t => (f t.1).bind fun c => .ok (c, t.2) := fun X hX =>
  (pe_callB (c.run X hX) (hX.gl hg) (by rw [hX.hmg]; exact hm) hv (pa_cons (ha X hX) pa_nil (he _)) hn hdb (he _) (by rfl)).weak fun σ H Q ⟨B, F, s, hE, hW⟩ =>
    c_read (e := a) (r := fun _ _ _ => True) c.calm hE hW
theorem ee_b1N {x : Str} {id : String} {f : α → R γ} (c : Cl1 v (.builtin id) .N ea ec f) (hm : v.mg x = none) (hv : bootBuiltins x = some (.builtin id)) (ha : Ee v .V ρs a ea ma) (hg : v.sc.names.lookup x = some .globalImplicit := by rfl)
    (he : ∀ env, starEach [a] env = (false, eval a env) :: starEach [] env := by intro _; rfl) (hn : x ≠ "__name__" := by decide) (hdb : (x == ("__debug__" : Str)) = false := by decide) :
    Ee v .N ρs (.Call (.Name x p) [a] [] pos) ec fun s => (ma s).bind fun t => (f t.1).bind fun c => .ok (c, t.2) := fun X hX =>
  (pe_callB (c.run X hX) (hX.gl hg) (by rw [hX.hmg]; exact hm) hv (pa_cons (ha X hX) pa_nil (he _)) hn hdb (he _) (by rfl)).weak fun σ H Q ⟨B, F, s, hE, hW⟩ =>
    c_readN (e := a) (r := fun _ _ _ => True) c.calm hE hW
theorem ie_tup {tg : Expr} {m : S → R (List α × S)} (h : Ee v .V ρs a (eT ea) m) : Ie v ρs tg a ea m := fun X hX =>
  (pi_tup (h X hX)).weak fun σ H Q ⟨B, F, s, hE, hW⟩ => by
    refine ⟨B, F, s, hE, ?_⟩
    try dsimp only at hW ⊢
    generalize m s = ms at hW ⊢
    cases ms with
    | ok t =>
      intro u H1 F1 s1 hE1 r1
      cases r1 with
      | @tup q us ds e z r =>
        exact ⟨q, rfl, ⟨us, .of (hE1.sub _ _ e)⟩, hW _ H1 F1 s1 hE1 (by rw [r.length, List.length_map] at z; exact z) (itt_ok (us := us) fun F2 H2 sb g => ⟨sb _ _ (g _ _ e), r.mono g⟩)⟩
    | exc x => exact hW
    | bad => exact hW
theorem ie_list {tg : Expr} {m : S → R (List α × S)} (h : Ee v .V ρs a (eL ea) m) : Ie v ρs tg a ea m := fun X hX =>
  (pi_list (h X hX)).weak fun σ H Q ⟨B, F, s, hE, hW⟩ => by
    refine ⟨B, F, s, hE, ?_⟩
    try dsimp only at hW ⊢
    generalize m s = ms at hW ⊢
    cases ms with
    | ok t =>
      intro u H1 F1 s1 hE1 r1
      cases r1 with
      | @lst q us ds e z r =>
        exact ⟨q, rfl, ⟨us, .of (hE1.sub _ _ e)⟩, hW _ H1 F1 s1 hE1 (by rw [r.length, List.length_map] at z; exact z) (itl_ok (us := us) fun F2 H2 sb g => ⟨sb _ _ (g _ _ e), r.mono g⟩)⟩
    | exc x => exact hW
    | bad => exact hW
end Cw
namespace Cw
open PySem PySem.Spec PyProof.Rows L2
section
variable {α β : Type} {v : Vw} {ρ : Rho} {ea : α → D} {G : Rt β} {C : Cs β} {x : Str} {q1 q2 q3 q4 q5 pos : Pos} {xs : List α} {e : Expr} {m : R (α × α)} {k : List α → R β} {re : List D → Sl}
theorem Owns.set {i : Nat} {ds es : List D} (w : Owns ρ i ds re) : Owns (ρ.set i (some (re es))) i es re where
  at_ := List.getElem?_set_self (List.getElem?_eq_some_iff.mp w.at_).1
  is := w.is
/-- xs[i], xs[j] = (.., ..) -/
theorem s1_swap (i : Nat) {b1 b2 : Expr} {mi : R Int} {j2 : Int} {kk : Nat} (w : Owns ρ i (xs.map ea) re) (h : Sx v .V ρ e (eP ea ea) m) (h2 : Sx v .V ρ b1 eI mi) (h3 : ∀ ys : List α, Sx v .V (ρ.set i (some (re (ys.map ea)))) b2 eI (.ok j2))
    (hw : ∀ env, env.scope = v.sc → swappedStores [.Tuple [.Subscript (.Name x q1) b1 q2, .Subscript (.Name x q3) b2 q4] kk q5] e env = pure none)
    (hN : v.N[i]? = some x := by rfl) (hv : Vis v.sc x := by first | exact Or.inl rfl | exact Or.inr (Or.inl rfl) | exact Or.inr (Or.inr rfl))
    (hd : (x == ("__debug__" : Str)) = false := by decide) (hcd : (x == ("__classdict__" : Str)) = false := by decide)
    (ha1 : ∀ env u, assign (.Subscript (.Name x q1) b1 q2) env u = (do
      let o ← holding [u] (eval (.Name x q1) env)
      let j ← holding [u, o] (eval b1 env)
      standAt q2
      holding [u, o, j] (setItem o j u)
      release [u, o, j] []) := by intro _ _; rfl)
    (ha2 : ∀ env u, assign (.Subscript (.Name x q3) b2 q4) env u = (do
      let o ← holding [u] (eval (.Name x q3) env)
      let j ← holding [u, o] (eval b2 env)
      standAt q4
      holding [u, o, j] (setItem o j u)
      release [u, o, j] []) := by intro _ _; rfl)
    (hs : ∀ env, swapsWithSole [.Tuple [.Subscript (.Name x q1) b1 q2, .Subscript (.Name x q3) b2 q4] kk q5] e pos.line env = pure false := by intro _; rfl)
    (h1 : ∀ env, (assignEach [.Tuple [.Subscript (.Name x q1) b1 q2, .Subscript (.Name x q3) b2 q4] kk q5] env).map (·.2) = [assign (.Tuple [.Subscript (.Name x q1) b1 q2, .Subscript (.Name x q3) b2 q4] kk q5) env] := by intro _; rfl)
    (g1 : ∀ env, (assignEach [.Subscript (.Name x q1) b1 q2, .Subscript (.Name x q3) b2 q4] env).map (·.2) = assign (.Subscript (.Name x q1) b1 q2) env :: (assignEach [.Subscript (.Name x q3) b2 q4] env).map (·.2) := by intro _; rfl)
    (g2 : ∀ env, (assignEach [.Subscript (.Name x q3) b2 q4] env).map (·.2) = assign (.Subscript (.Name x q3) b2 q4) env :: (assignEach [] env).map (·.2) := by intro _; rfl)
    (g3 : ∀ env, (assignEach [.Subscript (.Name x q1) b1 q2, .Subscript (.Name x q3) b2 q4] env).length = 2 := by intro _; rfl) (g4 : ∀ env, (assignEach [.Subscript (.Name x q1) b1 q2, .Subscript (.Name x q3) b2 q4] env).findIdx? (·.1) = none := by intro _; rfl)
    (hr : Le ρ G.rx := by first | exact .nil | exact .k .nil | exact .refl _) :
    S1 v G (C.to (fun ys => ρ.set i (some (re (ys.map ea)))) k) ρ (.Assign [.Tuple [.Subscript (.Name x q1) b1 q2, .Subscript (.Name x q3) b2 q4] kk q5] e pos) ((m.bind fun t => mi.bind fun j => (setR xs j t.1).bind fun ys => setR ys j2 t.2).bind k) := fun X hX => by
  have p3 : PE X b2 (fun σ H Q => ∃ ys : List α, rd v .V (ρ.set i (some (re (ys.map ea)))) eI (.ok j2) σ H Q) := ⟨fun pins st σ H Q I ⟨ys, q⟩ => (h3 ys X hX).run pins st σ H Q I q⟩
  refine (ps_asg (h X hX) (pg_tup hX.calm (pgs_cons (pg_sub (hX.pv i hN hv hd hcd) (h2 X hX) set_list (ha1 _)) (pgs_cons (pg_sub (hX.pv i hN hv hd hcd) p3 set_list (ha2 _)) pgs_nil (g2 _)) (g1 _)) (g3 _) (g4 _)) (hs _) (hw _ hX.hsc) (h1 _)).weak fun D' σ H ⟨B, F, hE, hW, g⟩ => ?_
  rw [R.bind_assoc] at hW
  refine wantS hE hr hW fun t _ hW u H1 F1 s1 r1 => ?_
  cases r1 with
  | @tup T us ds eT_ z0 r0 =>
    cases r0 with
    | @cons ua _ _ _ ra r0 =>
      cases r0 with
      | @cons ub _ _ _ rb r0 =>
        cases r0
        have hE1 := hE.step s1
        refine ⟨T, [ua, ub], rfl, .of (hE1.sub _ _ eT_), rfl, ua, [ub], rfl, ?_⟩
        obtain ⟨q, us, e1, nf, hq, z, r, _⟩ := hE1.lst w
        rw [R.bind_assoc] at hW
        refine ⟨.ref q, e1, wantS hE1 hr (hW.mono s1.fr) fun j _ hW w2 H2 F2 s2 r2 => ?_⟩
        cases r2
        have hE2 := hE1.step s2
        obtain ⟨q', us', e1', nf', hq', z', r', go⟩ := hE2.lst w
        rw [e1] at e1'
        cases e1'
        have hlen := r'.length
        rw [List.length_map] at hlen
        cases hset : setR xs j t.1 with
        | ok ys =>
          unfold setR at hset
          split at hset
          · rename_i jj hj
            cases hset
            have hset : setR xs j t.1 = .ok (xs.set jj t.1) := by unfold setR; rw [hj]
            rw [hset, R.bind_ok] at hW
            refine ⟨q, us', j, jj, rfl, rfl, hq', by rw [hlen]; exact hj, ?_⟩
            have hE3 := go (us'.set jj ua) ((xs.set jj t.1).map ea) (by rw [List.length_set]; exact z') (by rw [List.map_set]; exact r'.set (ra.mono s2.fr) jj)
            refine ⟨ub, [], rfl, .ref q, e1, xs.set jj t.1, B, F2, hE3, ?_⟩
            intro w3 H4 F4 s4 r4
            cases r4
            have w' : Owns (ρ.set i (some (re ((xs.set jj t.1).map ea)))) i ((xs.set jj t.1).map ea) re := w.set
            obtain ⟨q5', us5, e5, nf5, hq5, z5, r5, go5⟩ := (hE3.step s4).lst w'
            rw [e1] at e5
            cases e5
            have hlen5 := r5.length
            rw [List.length_map] at hlen5
            unfold setR at hW
            split at hW
            · rename_i j5 hj5
              have hW : WantS v B G F1 (k ((xs.set jj t.1).set j5 t.2)) D' := hW
              refine ⟨q, us5, j2, j5, rfl, rfl, hq5, by rw [hlen5]; exact hj5, rfl, ?_⟩
              have hE6 := go5 (us5.set j5 ub) (((xs.set jj t.1).set j5 t.2).map ea) (by rw [List.length_set]; exact z5) (by rw [List.map_set]; exact r5.set ((rb.mono s2.fr).mono s4.fr) j5)
              rw [List.set_set] at hE6
              exact g.nx _ _ _ F4 (s1.fr.trans (s2.fr.trans s4.fr)) hE6 (hW.mono (s2.fr.trans s4.fr))
            · exact hW.elim
          · cases hset
        | exc y => unfold setR at hset; split at hset <;> cases hset
        | bad => rw [hset] at hW; exact hW.elim
end
end Cw
namespace Cw
open PySem PySem.Spec PyProof.Rows L2
section
variable {α β γ S T' α1 : Type} {v : Vw} {ρs : S → Rho} {eb : β → D} {n1 : α1 → D} {k : Nat} {x y : Str} {ps : List Str} {p q2 pos pos2 p2 : Pos} {e1 a : Expr} {ex : List Expr} {enc : α → List D} {es : T' → D} {re : D → Sl} {get : S → T'} {put : S → T' → S}
/-- f(state, ..), the parts behind it changing things, too -/
theorem ee_callE {f : α → T' → R (β × T')} {m : S → R (α × S)} (i : Nat) (h : Df v.pg k x ps (spI es enc eb f)) (hk : k ≤ v.k) (l : Lens ρs i re es get put) (ha : Ae v ρs ex enc m) (hN : v.N[i]? = some y := by rfl) (hv : Vis v.sc y := by first | exact Or.inl rfl | exact Or.inr (Or.inl rfl) | exact Or.inr (Or.inr rfl))
    (hd : (y == ("__debug__" : Str)) = false := by decide) (hcd : (y == ("__classdict__" : Str)) = false := by decide) (hg : v.sc.names.lookup x = some .globalImplicit := by rfl) (hdb : (x == ("__debug__" : Str)) = false := by decide)
    (he : ∀ env, starEach (.Name y q2 :: ex) env = (false, eval (.Name y q2) env) :: starEach ex env := by intro _; rfl) (hpl : ∀ env, (backTo pos (starEach ex env)).any (·.1) = false := by intro _; rfl) :
    Ee v .V ρs (.Call (.Name x p) (.Name y q2 :: ex) [] pos) eb fun s => (m s).bind fun a => (f a.1 (get a.2)).bind fun t => .ok (t.1, put a.2 t.2) := fun X hX => by
  obtain ⟨fa, fd, hf, hm, hkp, hb⟩ := h.ex
  refine (pe_callG (k := k) (sp := spI es enc eb f) (E := fun σ => WE v.W σ) (t := tCons (tVar i) (fun σ H Q => ∃ B F s, EnvOk v.K B F H σ (ρs s) ∧ WantAE v B σ F enc ρs (m s) Q)) (by rw [hX.hP, hX.hw, hX.hK, hX.hmg, hX.hb]; exact hf) (hX.room.mono hk) hX.gd (hX.gl hg) (by rw [hX.hmg]; exact hm) (by rw [hX.hK]; exact hkp) (by rw [hX.hK]; exact hb)
    (fun σ => passAt hX.tk σ) (pa_cons (hX.pv i hN hv hd hcd) (ha X hX) (he _)) hdb (he _) (hpl _)).weak fun σ H Q ⟨B, F, s, hE, hW⟩ => ?_
  obtain ⟨q, e1, nf, hq, hre⟩ := hE.thing l.rs (l.at_ s)
  refine ⟨.ref q, e1, B, F, s, hE, ?_⟩
  dsimp only at hW
  cases hm : m s with
  | ok t0 =>
    rw [hm] at hW
    intro us H1 F1 s1 hE1 r1
    obtain ⟨q', e1', nf1, hq1, hre1⟩ := hE1.thing l.rs (l.at_ t0.2)
    rw [e1] at e1'
    cases e1'
    refine ⟨t0.1, get t0.2, F1, q, us, rfl, hE1.sub, nf1, hq1, r1, ?_⟩
    rw [R.bind_ok] at hW
    cases hf2 : f t0.1 (get t0.2) with
    | ok t =>
      rw [hf2] at hW
      intro u H2 F2 t2 o2 r2
      refine hW u H2 F2 (s1.trans t2.fr) ?_ r2
      show EnvOk v.K B F2 H2 σ (ρs (put t0.2 t.2))
      rw [l.put_]
      exact hE1.post t2 (l.at_ t0.2) (l.rs.own _) e1 nf1 hq1.some (hre1 _) o2
    | exc x => rw [hf2] at hW; exact hW.elim
    | bad => rw [hf2] at hW; exact hW.elim
  | exc x => rw [hm] at hW; exact hW.elim
  | bad => rw [hm] at hW; exact hW.elim
theorem ee_c1E {f : α1 → S → R (β × S)} {m1 : S → R (α1 × S)} {es : S → D} (i : Nat) (h : Df v.pg k x ps (spI es (fun q : α1 × Unit => [n1 q.1]) eb fun q => f q.1)) (hk : k ≤ v.k) (l : Lens ρs i re es id fun _ t => t) (h1 : Ee v .V ρs e1 n1 m1)
    (hN : v.N[i]? = some y := by rfl) (hv : Vis v.sc y := by first | exact Or.inl rfl | exact Or.inr (Or.inl rfl) | exact Or.inr (Or.inr rfl))
    (hd : (y == ("__debug__" : Str)) = false := by decide) (hcd : (y == ("__classdict__" : Str)) = false := by decide) (hg : v.sc.names.lookup x = some .globalImplicit := by rfl) (hdb : (x == ("__debug__" : Str)) = false := by decide)
    (he : ∀ env, starEach [.Name y q2, e1] env = (false, eval (.Name y q2) env) :: starEach [e1] env := by intro _; rfl) (s1 : ∀ env, starEach [e1] env = (false, eval e1 env) :: starEach [] env := by intro _; rfl)
    (hpl : ∀ env, (backTo pos (starEach [e1] env)).any (·.1) = false := by intro _; rfl) :
    Ee v .V ρs (.Call (.Name x p) [.Name y q2, e1] [] pos) eb fun s => (m1 s).bind fun t => f t.1 t.2 :=
  (ee_callE i h hk l (ae_cons h1 ae_nil s1) hN hv hd hcd hg hdb he hpl).cast fun s => by
    cases m1 s with
    | ok a => exact bind_eta (f a.1 a.2)
    | _ => rfl
/-- tuple(range(..)), changing things -/
theorem ee_trg1 {m : S → R (Int × S)} (hm : v.mg "tuple" = none) (hm2 : v.mg "range" = none) (h : Ee v .V ρs a eI m) (hg : v.sc.names.lookup ("tuple" : Str) = some .globalImplicit := by rfl) (hg2 : v.sc.names.lookup ("range" : Str) = some .globalImplicit := by rfl)
    (he : ∀ env, starEach [a] env = (false, eval a env) :: starEach [] env := by intro _; rfl) (he2 : ∀ env, starEach [.Call (.Name "range" p2) [a] [] pos2] env = (false, eval (.Call (.Name "range" p2) [a] [] pos2) env) :: starEach [] env := by intro _; rfl) :
    Ee v .V ρs (.Call (.Name "tuple" p) [.Call (.Name "range" p2) [a] [] pos2] [] pos) (eT eI) fun s => (m s).bind fun t => (rng1 t.1).bind fun xs => .ok (xs, t.2) := fun X hX =>
  (pe_tupRg hX.calm (hX.gl hg) (by rw [hX.hmg]; exact hm) (prg_1 (hX.gl hg2) (by rw [hX.hmg]; exact hm2) (h X hX) (he _)) (he2 _)).weak fun σ H Q ⟨B, F, s, hE, hW⟩ => by
    refine ⟨B, F, s, hE, hW.bind fun n _ hW u H1 F1 s1 hE1 r1 => ?_⟩
    cases r1
    cases e : rng1 n.1 with
    | ok xs =>
      rw [e] at hW
      obtain ⟨rfl, k⟩ := rng1_ok e
      refine ⟨n.1, rfl, (rgOk_of k).1, fun t nt => ?_⟩
      have key : ∀ o, Step F1 H1 (upd F1 t o) (upd H1 t o) := fun o => .froz hE1.sub nt
      exact hW _ _ (upd F1 t _) (s1.trans (key _).fr) (hE1.step (key _)) (.tup upd_same (rgOk_of k).2 (rg_rp _ _))
    | exc x => exact absurd e (rng1_calm n.1 x)
    | bad => rw [e] at hW; exact hW.elim
end
end Cw
namespace Cw
open PySem PySem.Spec PyProof.Rows L2
section
variable {α β γ ε : Type} {v : Vw} {ρ : Rho} {μ : Md} {ea : α → D} {eb : β → D} {ec : γ → D} {enc : ε → D} {a b : Expr} {x : α} {mb : R β} {pos : Pos}
/-! ### where the first part is there already (no rfl between a value and a range) -/
theorem sx_opP {op : Operator} {g : α → β → R γ} (o : Op2 v (binaryOp op) μ ea eb ec g) (ha : Sx v .P ρ a ea (.ok x)) (hb : Sx v .P ρ b eb mb) : Sx v μ ρ (.BinOp a op b pos) ec (mb.bind fun y => g x y) := sx_op o ha hb
theorem sx_cmpP {op : CmpOp} {g : α → β → R γ} (o : Op2 v (compareOp op) μ ea eb ec g) (ha : Sx v .P ρ a ea (.ok x)) (hb : Sx v .P ρ b eb mb) (hm : behindInMarks op b = false := by rfl) :
    Sx v μ ρ (.Compare a [op] [b] pos) ec (mb.bind fun y => g x y) := sx_cmp o ha hb hm
theorem tt_cmpP {op : CmpOp} {g : α → β → R Bool} (o : Op2 v (compareOp op) .V ea eb eB g) (ha : Sx v .P ρ a ea (.ok x)) (hb : Sx v .P ρ b eb mb) (hm : behindInMarks op b = false := by rfl) :
    Tt v ρ (.Compare a [op] [b] pos) (mb.bind fun y => g x y) := tt_cmp o ha hb hm
variable {δ1 δ2 δ3 : Type} {f1 : δ1 → D} {f2 : δ2 → D} {f3 : δ3 → D} {e1 e2 e3 : Expr} {m1 : R δ1} {m2 : R δ2} {m3 : R δ3}
theorem sx_lst3 (f : δ1 → δ2 → δ3 → ε) (hf : ∀ a b c, enc (f a b c) = .list [f1 a, f2 b, f3 c]) (h1 : Sx v .V ρ e1 f1 m1) (h2 : Sx v .V ρ e2 f2 m2) (h3 : Sx v .V ρ e3 f3 m3)
    (hs1 : ∀ env, starEach [e1, e2, e3] env = (false, eval e1 env) :: starEach [e2, e3] env := by intro _; rfl) (hs2 : ∀ env, starEach [e2, e3] env = (false, eval e2 env) :: starEach [e3] env := by intro _; rfl)
    (hs3 : ∀ env, starEach [e3] env = (false, eval e3 env) :: starEach [] env := by intro _; rfl) :
    Sx v .N ρ (.List [e1, e2, e3] pos) enc (m1.bind fun a => m2.bind fun b => m3.bind fun c => .ok (f a b c)) :=
  (sx_lstS 3 (by decide) (fun ds q => by cases m1 <;> cases m2 <;> cases m3 <;> cases q; rfl) (sa_cons h1 (sa_cons h2 (sa_cons h3 sa_nil hs3) hs2) hs1)).cv (by cases m1 <;> cases m2 <;> cases m3 <;> simp [Cv, hf])
end
end Cw
namespace Cw
open PySem PySem.Spec PyProof.Rows L2
variable {α β γ δ ε ζ η S τ τ1 κ T : Type} {v : Vw} {ρ : Rho} {ρs : S → Rho} {μ : Md} {ea : α → D} {eb : β → D} {ec : γ → D} {ed : δ → D} {a b c : Expr} {ma : R α} {mb : R β} {p p2 p3 pos tpos : Pos} {G : Rt β} {C : Cs β} {rest : List Stmt}
/-! ### len(set(..)) of a list of rows -/
def memL [DecidableEq α] (x : α) (xs : List α) : Bool := decide (x ∈ xs)
theorem memL_iff [DecidableEq α] {x : α} {xs : List α} : memL x xs = true ↔ x ∈ xs := by simp [memL]
def ddG [DecidableEq α] : List α → List α
  | [] => []
  | x :: xs => if x ∈ xs then ddG xs else x :: ddG xs
theorem ddG_mem [DecidableEq α] : ∀ {xs : List α} {y : α}, y ∈ ddG xs ↔ y ∈ xs
  | [], y => by simp [ddG]
  | x :: xs, y => by
    unfold ddG
    split
    · rename_i h
      rw [ddG_mem, List.mem_cons]
      exact ⟨.inr, fun q => q.elim (fun e => e ▸ h) id⟩
    · rw [List.mem_cons, List.mem_cons, ddG_mem]
theorem ddG_nd [DecidableEq α] : ∀ {xs : List α}, (ddG xs).Nodup
  | [] => by simp [ddG]
  | x :: xs => by
    unfold ddG
    split
    · exact ddG_nd
    · rename_i h
      exact List.nodup_cons.mpr ⟨fun q => h (ddG_mem.mp q), ddG_nd⟩
theorem ddG_le [DecidableEq α] : ∀ (xs : List α), (ddG xs).length ≤ xs.length
  | [] => by simp [ddG]
  | x :: xs => by
    unfold ddG
    have := ddG_le xs
    split <;> simp only [List.length_cons] <;> omega
theorem ddG_eq [DecidableEq α] : ∀ {xs : List α}, (ddG xs).length = xs.length ↔ xs.Nodup
  | [] => by simp [ddG]
  | x :: xs => by
    unfold ddG
    rw [List.nodup_cons]
    split
    · rename_i h
      have := ddG_le xs
      constructor
      · intro e; simp only [List.length_cons] at e; omega
      · intro e; exact absurd h e.1
    · rename_i h
      rw [List.length_cons, List.length_cons]
      constructor
      · intro e; exact ⟨h, ddG_eq.mp (by omega)⟩
      · intro e; rw [ddG_eq.mpr e.2]
def lenSetT (xs : List (List Int)) : R Int := if xs.length < 64 then .ok ((ddG xs).length : Int) else .bad
theorem lenSetT_calm (ns : List (List Int)) (x : Ex) : lenSetT ns ≠ .exc x := by
  unfold lenSetT
  split <;> simp
def tLenST (K : PySem.W.Frag) (ta : TE) : TE := fun σ H Q => ta σ H fun x H1 => ∃ (l : Addr) (ks : List (Addr × List Int)), x = V.ref l ∧ SqL K H1 l (ks.map fun p => V.ref p.1) ∧ (∀ p ∈ ks, SqT K H1 p.1 (p.2.map V.int)) ∧ ks.length < 64 ∧ Q (.int (ddG (ks.map (·.2))).length) H1
theorem pe_lenST {X : Cx} {ta : TE} {p1 p2 p3 p4 : Pos} (hc : X.calm = true) (hu : X.A.units + 65 < cLine) (g1 : Gl X "len") (m1 : X.mg "len" = none) (g2 : Gl X "set") (m2 : X.mg "set" = none) (ha : PE X a ta) (na : starEach [a] X.env = (false, eval a X.env) :: starEach [] X.env) :
    PE X (.Call (.Name "len" p1) [.Call (.Name "set" p2) [a] [] p3] [] p4) (tLenST X.K ta) := ⟨fun pins st σ H Q I h => by
  refine Call_ (ld_blt I g1 m1 boot_len (PyProof.Rows.callWith_builtin1 (PyProof.Rows.args_cons (Call_ (ld_blt I g2 m2 boot_set (PyProof.Rows.callWith_type1 (PyProof.Rows.args_cons (thn (ha.run pins st σ H _ I h) fun u t ⟨x, H1, J, r, q⟩ => PyProof.Rows.args_nil ?_) na) na rfl))) rfl) rfl rfl))
  obtain ⟨ad, ks, rfl, hq, hk, hf, q⟩ := q
  cases r
  obtain ⟨its, rv, pl, _⟩ := J.list hq
  refine call_set_tups (P := X.prog) (w := X.w) ks (J.ok.hd hc) pl.isList (by simpa using refs_of_vals rv) (fun p hp => J.isT (hk p hp)) hf (by omega) fun h' tk L es ep tb R g k => PyProof.Rows.args_nil ?_
  obtain ⟨o, ho, hx, hd⟩ := R.ob
  have hs := SetTR.size (s := { t with heap := h' }) R
  have hft := SetTR.fits (s := { t with heap := h' }) R
  have e : L.length = (ddG (ks.map (·.2))).length := by
    have : (L.map (·.2)).Perm (ddG (ks.map (·.2))) := (List.perm_ext_iff_of_nodup R.nd ddG_nd).mpr fun x => by
      rw [ddG_mem]
      constructor
      · intro hx
        obtain ⟨p, hp, rfl⟩ := List.mem_map.mp hx
        exact List.mem_map.mpr ⟨p, List.mem_of_mem_take (g.sub p hp), rfl⟩
      · intro hx
        obtain ⟨p, hp, rfl⟩ := List.mem_map.mp hx
        exact g.all p (by rw [List.take_length]; exact hp)
    rw [← this.length_eq, List.length_map]
  have few := R.few
  exact call_len_set (s := { t with heap := h', toks := tk }) ho hx hd hft (by omega) ⟨.int (ddG (ks.map (·.2))).length, H1, (J.kept k).tok _, ⟨_, by rw [← e, ← hs]⟩, q⟩⟩
theorem rows_ks {F : Hp} : ∀ {us : List V} {xs : List (List Int)}, RpA F us (xs.map (eT eI)) → ∃ ks : List (Addr × List Int), us = ks.map (fun p => V.ref p.1) ∧ ks.map (·.2) = xs ∧ ∀ p ∈ ks, F p.1 = some (.tup (p.2.map V.int))
  | us, [], h => by cases h; exact ⟨[], rfl, rfl, fun _ h => (nomatch h)⟩
  | us, x :: xs, h => by
    cases h with
    | cons r t =>
      obtain ⟨ks, e1, e2, e3⟩ := rows_ks t
      cases r with
      | @tup q vs ds e z r =>
        refine ⟨(q, x) :: ks, by rw [e1]; rfl, by rw [← e2]; rfl, fun p hp => ?_⟩
        rcases List.mem_cons.mp hp with rfl | hp
        · rw [e, RpA.ints r]
        · exact e3 p hp
theorem sx_lenSetTs {m : R (List (List Int))} (hm : v.mg "len" = none) (hm2 : v.mg "set" = none) (ha : Sx v .P ρ a (eL (eT eI)) m) (hg : v.sc.names.lookup ("len" : Str) = some .globalImplicit := by rfl) (hg2 : v.sc.names.lookup ("set" : Str) = some .globalImplicit := by rfl)
    (na : ∀ env, starEach [a] env = (false, eval a env) :: starEach [] env := by intro _; rfl) : Sx v .V ρ (.Call (.Name "len" p) [.Call (.Name "set" p2) [a] [] p3] [] pos) eI (m.bind fun ns => lenSetT ns) := fun X hX =>
  (pe_lenST hX.calm (hasU hX) (hX.gl hg) (by rw [hX.hmg]; exact hm) (hX.gl hg2) (by rw [hX.hmg]; exact hm2) (ha X hX) (na _)).weak fun σ H Q ⟨B, F, hE, hW⟩ => ⟨B, F, hE, hW.bind fun ns _ hW => fun u H1 F1 s n => by
    obtain ⟨q, xs, rfl, h1, r, _⟩ := nwLst s.sub n
    obtain ⟨c, e, w⟩ := want_no (lenSetT_calm ns) hW
    unfold lenSetT at e
    split at e
    · rename_i hl
      cases e
      obtain ⟨ks, e1, e2, e3⟩ := rows_ks r
      have lk : ks.length = ns.length := by rw [← e2, List.length_map]
      exact ⟨q, ks, rfl, .of (by rw [← e1]; exact h1), fun p hp => .of (s.sub _ _ (e3 p hp)), by omega, by rw [e2]; exact w _ H1 F1 s (.int _)⟩
    · cases e⟩
/-! ### a row, so often -/
def repR (xs : List α) (k : Int) : R (List α) := if xs.length ≠ 0 ∧ 2 ≤ k ∧ k ≤ 1000 ∧ xs.length ≤ 1000 then .ok (List.replicate k.toNat xs).flatten else .bad
theorem RpA.reps {F : Hp} {us : List V} {ds : List D} (r : RpA F us ds) : ∀ n : Nat, RpA F (List.replicate n us).flatten (List.replicate n ds).flatten
  | 0 => .nil
  | n + 1 => by
    rw [List.replicate_succ, List.replicate_succ, List.flatten_cons, List.flatten_cons]
    exact r.append (RpA.reps r n)
theorem map_reps (f : α → β) (xs : List α) : ∀ n : Nat, ((List.replicate n xs).flatten).map f = (List.replicate n (xs.map f)).flatten
  | 0 => rfl
  | n + 1 => by rw [List.replicate_succ, List.replicate_succ, List.flatten_cons, List.flatten_cons, List.map_append, map_reps f xs n]
theorem o_repT {e : α → D} : Op2 v (binaryOp .Mult) .V (eT e) eI (eT e) repR where
  calm := fun xs k x => by unfold repR; split <;> simp
  run := fun X hX => op_repT.weak fun x y H Q ⟨F, xs, k, s, n1, n2, c, g, q⟩ => by
    obtain ⟨p, us, rfl, h1, h2, r, z⟩ := nwTup s n1
    rw [nwInt n2]
    unfold repR at g
    split at g
    · rename_i h
      cases g
      have hl := r.length
      rw [List.length_map] at hl
      refine ⟨p, k, us, rfl, rfl, .of h1, fun e => by rw [e] at hl; exact h.1 hl.symm, h.2.1, h.2.2.1, by omega, fun t np => ?_⟩
      have st : Step F H (upd F t (.tup (List.replicate k.toNat us).flatten)) (upd H t (.tup (List.replicate k.toNat us).flatten)) := .froz s np
      refine q (.ref t) _ _ st (.tup upd_same ?_ ?_)
      · rw [List.length_flatten, List.map_replicate, List.sum_replicate_nat]
        have h3 : k.toNat ≤ 1000 := by omega
        have h4 : us.length ≤ 1000 := by omega
        have := Nat.mul_le_mul h3 h4
        rw [sizeLine_eq]; omega
      · rw [map_reps]
        exact (r.reps _).mono st.fr
    · cases g
/-- a list, so often (a negative number is nothing) -/
def repL (xs : List α) (k : Int) : R (List α) := if -(2 ^ 63) ≤ k ∧ k < 2 ^ 63 ∧ xs.length * k.toNat ≤ 16777216 then .ok (List.replicate k.toNat xs).flatten else .bad
theorem o_repL {e : α → D} : Op2 v (binaryOp .Mult) .N (eL e) eI (eL e) repL where
  calm := fun xs k x => by unfold repL; split <;> simp
  run := fun X hX => op_rep.weak fun x y H Q ⟨F, xs, k, s, n1, n2, c, g, q⟩ => by
    obtain ⟨p, us, rfl, h1, r, z⟩ := nwLst s n1
    rw [nwInt n2]
    unfold repL at g
    split at g
    · rename_i h
      cases g
      have hl := r.length
      rw [List.length_map] at hl
      obtain ⟨ds, e2, q⟩ := q
      cases e2
      have hz : us.length * k.toNat ≤ sizeLine := by rw [sizeLine_eq, hl]; exact h.2.2
      refine ⟨p, k, us, rfl, rfl, h1, h.1, h.2.1, hz, fun t np => q t _ _ F (.laid s np) np (s.free np) upd_same ?_ ?_⟩
      · rw [List.length_flatten, List.map_replicate, List.sum_replicate_nat, Nat.mul_comm]
        exact hz
      · rw [map_reps]
        exact r.reps _
    · cases g
end Cw
namespace Cw
open PySem PySem.Spec PyProof.Rows L2
section
variable {v : Vw} {ρ : Rho} {a b c : Expr} {p pos : Pos}
/-! ### range downwards -/
@[irreducible] def rng3 (a b c : Int) : R (List Int) := if c = -1 ∧ (small a && (small b && decide (a - b ≤ 16777216))) = true then .ok ((List.range (a - b).toNat).map fun (k : Nat) => a + (k : Int) * (-1)) else .bad
theorem rng3_calm (a b c : Int) (x : Ex) : rng3 a b c ≠ .exc x := by
  unfold rng3
  split <;> simp
theorem itc_ok {G : Hp → Hp → Prop} (lo c : Int) (n : Nat) : ItOk G (Itc lo c n) ((List.range n).map fun (i : Nat) => lo + (i : Int) * c) eI := fun i F H sb g => by
  refine ⟨fun hi => by show n ≤ i; simpa using hi, fun x hx => ?_⟩
  have hi : i < n := by
    have := (List.getElem?_eq_some_iff.mp hx).1
    simpa using this
  refine ⟨hi, fun u H' ⟨eH, y⟩ => ?_⟩
  subst eH
  rw [y]
  have : x = lo + (i : Int) * c := by
    rw [List.getElem?_map, List.getElem?_range hi] at hx
    cases hx; rfl
  rw [this]
  exact ⟨F, .refl sb, .int _⟩
theorem si_rng3 {tg : Expr} {m n k : R Int} (hm : v.mg "range" = none) (h : Sx v .V ρ a eI m) (h' : Sx v .V ρ b eI n) (h'' : Sx v .V ρ c eI k) (hg : v.sc.names.lookup ("range" : Str) = some .globalImplicit := by rfl) (he : ∀ env, starEach [a, b, c] env = (false, eval a env) :: starEach [b, c] env := by intro _; rfl) (he2 : ∀ env, starEach [b, c] env = (false, eval b env) :: starEach [c] env := by intro _; rfl) (he3 : ∀ env, starEach [c] env = (false, eval c env) :: starEach [] env := by intro _; rfl) :
    Si v true ρ tg (.Call (.Name "range" p) [a, b, c] [] pos) eI (m.bind fun i => n.bind fun j => k.bind fun l => rng3 i j l) := fun X hX => (pi_range3 (hX.gl hg) (by rw [hX.hmg]; exact hm) (sa_cons h (sa_cons h' (sa_cons h'' sa_nil he3) he2) he X hX) (by rw [he]) (by rw [he2, he3]; rfl)).weak fun σ H Q ⟨B, F, hE, hW⟩ => by
  refine ⟨B, F, hE, ?_⟩
  cases m with
  | ok i =>
    cases n with
    | ok j =>
      cases k with
      | ok l =>
        replace hW : WantI v true σ F H eI (rng3 i j l) Q := hW
        intro us H1 F1 s1 r1
        cases r1 with
        | cons r t =>
          cases t with
          | cons r' t =>
            cases t with
            | cons r'' t =>
              cases t
              cases r
              cases r'
              cases r''
              unfold rng3 at hW
              split at hW
              · rename_i hs
                obtain ⟨rfl, hs⟩ := hs
                simp only [small, Bool.and_eq_true, decide_eq_true_eq] at hs
                refine ⟨i, j, -1, (i - j).toNat, rfl, RgC.neg hs.1.1 hs.1.2 hs.2.1.1 hs.2.1.2, hW _ H1 F1 s1 (by rw [List.length_map, List.length_range, sizeLine_eq]; omega) (itc_ok i (-1) (i - j).toNat)⟩
              · exact hW.elim
      | exc x => exact hW
      | bad => exact hW
    | exc x => exact hW
    | bad => exact hW
  | exc x => exact hW
  | bad => exact hW
theorem si_rng3P {tg : Expr} {i j l : Int} (hm : v.mg "range" = none) (h : Sx v .V ρ a eI (.ok i)) (h' : Sx v .V ρ b eI (.ok j)) (h'' : Sx v .V ρ c eI (.ok l)) (hg : v.sc.names.lookup ("range" : Str) = some .globalImplicit := by rfl) (he : ∀ env, starEach [a, b, c] env = (false, eval a env) :: starEach [b, c] env := by intro _; rfl) (he2 : ∀ env, starEach [b, c] env = (false, eval b env) :: starEach [c] env := by intro _; rfl) (he3 : ∀ env, starEach [c] env = (false, eval c env) :: starEach [] env := by intro _; rfl) :
    Si v true ρ tg (.Call (.Name "range" p) [a, b, c] [] pos) eI (rng3 i j l) := si_rng3 hm h h' h'' hg he he2 he3
end
end Cw
namespace L2
open PySem PySem.Spec PyProof.Rows
/-! ### sum, max, min of a tuple of ints -/
section
variable {prog : Program} {w : World} {A : Around} {E : Value → Shared → Prop} {s : Shared} {l : Addr} {xs : Array (Int × Tok)}
theorem iter_intTup {Q : Value → Shared → Prop} (hl : s.heap.IsTuple l (intItems xs))
    (h : ∀ s₂ : Shared, s₂ = { s with heap := s.heap.push { cls := .type "tuple_iterator", data := .fields #[.ref l, .int 0 0] } } →
      (s₂.heap.IsTupleIter s.heap.objs.size l 0 ∧ s₂.heap.IsTuple l (intItems xs)) → (∀ b ∈ [s.heap.objs.size, l], b < s₂.heap.objs.size) → l ≠ s.heap.objs.size → Q (.ref s.heap.objs.size) s₂) :
    wpAny (model prog w) A (pyIter (.ref l)) Q E s := by
  have hlt : l < s.heap.objs.size := by obtain ⟨_, e, _⟩ := id hl; exact Heap.lt_size e
  refine wpAny_pyIter_tuple hl (h _ rfl ⟨⟨_, Heap.get?_push_size _ rfl, rfl, rfl⟩, hl.push _⟩ (fun b hb => ?_) (Nat.ne_of_lt hlt))
  show b < (s.heap.push _).objs.size
  rw [Heap.size_push]
  rcases List.mem_cons.mp hb with rfl | hb
  · exact Nat.lt_succ_self _
  · rcases List.mem_cons.mp hb with rfl | hb
    · exact Nat.lt_succ_of_lt hlt
    · cases hb
theorem old_keptT {h' : Heap} (hk : ∀ b o, b ∉ [s.heap.objs.size] → (s.heap.push { cls := .type "tuple_iterator", data := .fields #[.ref l, .int 0 0] }).get? b = some o → h'.get? b = some o) :
    ∀ b o, s.heap.get? b = some o → h'.get? b = some o := fun b o e => by
  refine hk b o (fun hm => ?_) (Heap.get?_push_of_some _ e)
  rcases List.mem_cons.mp hm with e1 | hm
  · exact absurd (e1 ▸ Heap.lt_size e) (Nat.lt_irrefl _)
  · cases hm
theorem max_intTup {Q : Value → Shared → Prop} (hh : A.handled = none) (hl : s.heap.IsTuple l (intItems xs)) (hne : 0 < xs.size)
    (h : ∀ v h' tk, (intItems xs)[argBest (fun i j => decide (numAt xs i > numAt xs j)) (xs.size - 1)]? = some v → (∀ b o, s.heap.get? b = some o → h'.get? b = some o) → Q v { s with heap := h', toks := tk }) :
    wpAny (model prog w) A (call (.builtin "max") [.ref l]) Q E s := by
  refine call_max_walk (iter_intTup hl fun s₂ e st hfp hlI => ?_)
  subst e
  refine ⟨_, _, _, _, _, _, _, rfl, Walks.tuple (A := A.in1) hh _ l hlI (intItems xs), st, hfp, by simpa [intItems] using hne, CmpOf.ints_gt (numAt xs) (fun _ _ => intItems_at), fun v h' tk hP hk => ?_⟩
  exact h v h' tk (by simpa [intItems] using hP) (old_keptT hk)
theorem min_intTup {Q : Value → Shared → Prop} (hh : A.handled = none) (hl : s.heap.IsTuple l (intItems xs)) (hne : 0 < xs.size)
    (h : ∀ v h' tk, (intItems xs)[argBest (fun i j => decide (numAt xs i < numAt xs j)) (xs.size - 1)]? = some v → (∀ b o, s.heap.get? b = some o → h'.get? b = some o) → Q v { s with heap := h', toks := tk }) :
    wpAny (model prog w) A (call (.builtin "min") [.ref l]) Q E s := by
  refine call_min_walk (iter_intTup hl fun s₂ e st hfp hlI => ?_)
  subst e
  refine ⟨_, _, _, _, _, _, _, rfl, Walks.tuple (A := A.in1) hh _ l hlI (intItems xs), st, hfp, by simpa [intItems] using hne, CmpOf.ints_lt (numAt xs) (fun _ _ => intItems_at), fun v h' tk hP hk => ?_⟩
  exact h v h' tk (by simpa [intItems] using hP) (old_keptT hk)
theorem sum_intTupG {Q : Value → Shared → Prop} (hh : A.handled = none) (hl : s.heap.IsTuple l (intItems xs))
    (h : ∀ h' tk t', (∀ b o, s.heap.get? b = some o → h'.get? b = some o) → Q (.int (preSum (numAt xs) xs.size) t') { s with heap := h', toks := tk }) :
    wpAny (model prog w) A (call (.builtin "sum") [.ref l]) Q E s := by
  refine call_sum_walkG (iter_intTup hl fun s₂ e st hfp hlI => ?_)
  subst e
  refine ⟨_, _, _, _, _, _, numAt xs, rfl, Walks.tuple (A := A.in1) hh _ l hlI (intItems xs), st, hfp, (fun _ _ => intItems_at), fun h' tk t' hk => ?_⟩
  have := h h' tk t' (old_keptT hk)
  simpa [intItems] using this
end
section
variable {prog : Program} {w : World} {A : Around} {E : Value → Shared → Prop} {s : Shared} {l : Addr} {its : List Value} {ns : List Int} {Q : Value → Shared → Prop}
theorem sum_rawT (hh : A.handled = none) (hl : s.heap.IsTuple l its.toArray) (hi : IntsAre its ns)
    (h : ∀ h' tk t', (∀ b o, s.heap.get? b = some o → h'.get? b = some o) → Q (.int ns.sum t') { s with heap := h', toks := tk }) : wpAny (model prog w) A (call (.builtin "sum") [.ref l]) Q E s := by
  obtain ⟨xs, e⟩ := hi.allInts.items
  have hn : numsOf (intItems xs).toList = ns := by rw [← e]; exact hi.numsOf
  rw [nums_intItems] at hn
  rw [e] at hl
  refine sum_intTupG hh hl fun h' tk t' hk => ?_
  have := h h' tk t' hk
  rw [preSum_eq, List.take_of_length_le (by simp), hn]; exact this
theorem max_rawT (hh : A.handled = none) (hl : s.heap.IsTuple l its.toArray) (hi : IntsAre its ns) (hne : 0 < ns.length)
    (h : ∀ h' tk M t', (∀ b o, s.heap.get? b = some o → h'.get? b = some o) → M ∈ ns → (∀ a, a ∈ ns → a ≤ M) → Q (.int M t') { s with heap := h', toks := tk }) : wpAny (model prog w) A (call (.builtin "max") [.ref l]) Q E s := by
  obtain ⟨xs, e⟩ := hi.allInts.items
  have hn : numsOf (intItems xs).toList = ns := by rw [← e]; exact hi.numsOf
  rw [nums_intItems] at hn
  subst hn
  rw [e] at hl
  have hsz : 0 < xs.size := by simpa using hne
  refine max_intTup hh hl hsz fun v h' tk hv hk => ?_
  obtain ⟨t, rfl⟩ := intItems_at hv
  obtain ⟨h1, h2⟩ := argBest_gt (numAt xs) (xs.size - 1)
  refine h h' tk _ t hk ?_ fun a ha => ?_
  · rw [numAt_eq]; exact PySem.getD_mem (by rw [List.length_map, Array.length_toList]; omega)
  · obtain ⟨j, hj, rfl⟩ := mem_getD ha
    rw [List.length_map, Array.length_toList] at hj
    rw [← numAt_eq]; exact h2 j (by omega)
theorem min_rawT (hh : A.handled = none) (hl : s.heap.IsTuple l its.toArray) (hi : IntsAre its ns) (hne : 0 < ns.length)
    (h : ∀ h' tk M t', (∀ b o, s.heap.get? b = some o → h'.get? b = some o) → M ∈ ns → (∀ a, a ∈ ns → M ≤ a) → Q (.int M t') { s with heap := h', toks := tk }) : wpAny (model prog w) A (call (.builtin "min") [.ref l]) Q E s := by
  obtain ⟨xs, e⟩ := hi.allInts.items
  have hn : numsOf (intItems xs).toList = ns := by rw [← e]; exact hi.numsOf
  rw [nums_intItems] at hn
  subst hn
  rw [e] at hl
  have hsz : 0 < xs.size := by simpa using hne
  refine min_intTup hh hl hsz fun v h' tk hv hk => ?_
  obtain ⟨t, rfl⟩ := intItems_at hv
  obtain ⟨h1, h2⟩ := argBest_lt (numAt xs) (xs.size - 1)
  refine h h' tk _ t hk ?_ fun a ha => ?_
  · rw [numAt_eq]; exact PySem.getD_mem (by rw [List.length_map, Array.length_toList]; omega)
  · obtain ⟨j, hj, rfl⟩ := mem_getD ha
    rw [List.length_map, Array.length_toList] at hj
    rw [← numAt_eq]; exact h2 j (by omega)
end
section
variable {X : Cx}
theorem cr_sumT (hc : X.calm = true) : CallR X (.builtin "sum") fun vs H Q => ∃ (a : Addr) (ns : List Int), vs = [V.ref a] ∧ SqT X.K H a (ns.map V.int) ∧ Q (.int ns.sum) H := by
  intro pins s σ H vs us Q I r h
  obtain ⟨a, ns, rfl, hs, q⟩ := h
  obtain ⟨its, rv, hl, _⟩ := I.tuple hs
  rw [Vals.ref1 r]
  exact sum_rawT (I.ok.hd hc) hl rv.ints fun h' tk t' hk => ⟨.int _, H, I.kept hk, ⟨_, rfl⟩, q⟩
theorem cr_maxT (hc : X.calm = true) : CallR X (.builtin "max") fun vs H Q => ∃ (a : Addr) (ns : List Int), vs = [V.ref a] ∧ SqT X.K H a (ns.map V.int) ∧ 0 < ns.length ∧ ∀ m, m ∈ ns → (∀ y, y ∈ ns → y ≤ m) → Q (.int m) H := by
  intro pins s σ H vs us Q I r h
  obtain ⟨a, ns, rfl, hs, hne, q⟩ := h
  obtain ⟨its, rv, hl, _⟩ := I.tuple hs
  rw [Vals.ref1 r]
  exact max_rawT (I.ok.hd hc) hl rv.ints hne fun h' tk m t' hk h1 h2 => ⟨.int _, H, I.kept hk, ⟨_, rfl⟩, q m h1 h2⟩
theorem cr_minT (hc : X.calm = true) : CallR X (.builtin "min") fun vs H Q => ∃ (a : Addr) (ns : List Int), vs = [V.ref a] ∧ SqT X.K H a (ns.map V.int) ∧ 0 < ns.length ∧ ∀ m, m ∈ ns → (∀ y, y ∈ ns → m ≤ y) → Q (.int m) H := by
  intro pins s σ H vs us Q I r h
  obtain ⟨a, ns, rfl, hs, hne, q⟩ := h
  obtain ⟨its, rv, hl, _⟩ := I.tuple hs
  rw [Vals.ref1 r]
  exact min_rawT (I.ok.hd hc) hl rv.ints hne fun h' tk m t' hk h1 h2 => ⟨.int _, H, I.kept hk, ⟨_, rfl⟩, q m h1 h2⟩
end
end L2
namespace Cw
open PySem PySem.Spec PyProof.Rows L2
variable {v : Vw}
theorem c_sumT : Cl1 v (.builtin "sum") .V (eT eI) eI fun ns => .ok ns.sum where
  calm := fun _ _ => nofun
  run := fun X hX => (cr_sumT hX.calm).weak fun xs H Q ⟨F, x, ns, e, s, n, c, g, q⟩ => by
    cases g
    subst e
    obtain ⟨p, xs, rfl, h, _, r, z⟩ := nwTup s n
    obtain rfl := r.ints
    exact ⟨p, ns, rfl, .of h, q _ H F (.refl s) (.int _)⟩
theorem c_maxT : Cl1 v (.builtin "max") .V (eT eI) eI maxR where
  calm := fun a _ => by cases a <;> nofun
  run := fun X hX => (cr_maxT hX.calm).weak fun xs H Q ⟨F, x, ns, e, s, n, c, g, q⟩ => by
    cases ns with
    | nil => cases g
    | cons m ns =>
      cases g
      subst e
      obtain ⟨p, xs, rfl, h, _, r, z⟩ := nwTup s n
      obtain rfl := r.ints
      refine ⟨p, m :: ns, rfl, .of h, by simp, fun k h1 h2 => ?_⟩
      obtain ⟨z1, z2, z3⟩ := foldl_max ns m
      have : k = ns.foldl max m := by
        have a1 : k ≤ ns.foldl max m := by
          rcases List.mem_cons.mp h1 with rfl | h1
          · exact z2
          · exact z3 k h1
        have a2 : ns.foldl max m ≤ k := by
          rcases z1 with z1 | z1
          · rw [z1]; exact h2 m List.mem_cons_self
          · exact h2 _ (List.mem_cons_of_mem _ z1)
        omega
      rw [this]
      exact q _ H F (.refl s) (.int _)
theorem c_minT : Cl1 v (.builtin "min") .V (eT eI) eI minR where
  calm := fun a _ => by cases a <;> nofun
  run := fun X hX => (cr_minT hX.calm).weak fun xs H Q ⟨F, x, ns, e, s, n, c, g, q⟩ => by
    cases ns with
    | nil => cases g
    | cons m ns =>
      cases g
      subst e
      obtain ⟨p, xs, rfl, h, _, r, z⟩ := nwTup s n
      obtain rfl := r.ints
      refine ⟨p, m :: ns, rfl, .of h, by simp, fun k h1 h2 => ?_⟩
      obtain ⟨z1, z2, z3⟩ := foldl_min ns m
      have : k = ns.foldl min m := by
        have a1 : ns.foldl min m ≤ k := by
          rcases List.mem_cons.mp h1 with rfl | h1
          · exact z2
          · exact z3 k h1
        have a2 : k ≤ ns.foldl min m := by
          rcases z1 with z1 | z1
          · rw [z1]; exact h2 m List.mem_cons_self
          · exact h2 _ (List.mem_cons_of_mem _ z1)
        omega
      rw [this]
      exact q _ H F (.refl s) (.int _)
end Cw
namespace Cw
end Cw
set_option maxHeartbeats 4000000
namespace Cw
open PySem PySem.Spec PyProof.Rows L2
def topS (i : Nat) : Stmt := PySem.Challenge.pw_cardwhole_k68_parts_of_heaps.main.body.getD i (.Pass ⟨0, 0, 0, 0⟩)

theorem sc_is_told : FnScope ["told", "word", "count"] ["told", "word", "count"] (defScope (topS 5)) := ⟨rfl, rfl, rfl, by decide +kernel, rfl, by decide +kernel, by decide +kernel⟩
theorem df_is_told_v {G : Pg} (B : Bi G) (Er : RaOk G) (Et : ErrOk G) (d : Def G "is_told" (topS 5) ["told", "word", "count"])   : Df G 1 "is_told" ["told", "word", "count"] (spP G.cls (fun q : D × Str × Int × Unit => [eD q.1, eS q.2.1, eI q.2.2.1]) eB fun q => ((fun (told_1 : D) (word_2 : Str) (count_3 : Int) => ((if (!(isA .tuple (told_1))) then R.ok true else ((lenD (told_1)).bind fun (y_4 : Int) => R.ok (!decide (y_4 = (count_3))))).bind fun t => if t then R.ok (false) else (((idxD (told_1) (0 : Int)).bind fun (y_5 : D) => R.ok (isA .str y_5)).bind fun c => if c then ((idxD (told_1) (0 : Int)).bind fun (y_6 : D) => (eqR y_6 (eS (word_2)))) else R.ok false))) q.1 q.2.1 q.2.2.1)) :=
  df_p (none) nofun d sc_is_told (fun _ => rfl) <| fun a W => by
    obtain ⟨told_1, word_2, count_3, _u⟩ := a
    exact Ss.rho (ρ' := [(some (.sh (eD (told_1)))), (some (.sh (eS (word_2)))), (some (.sh (eI (count_3))))]) (m := ((if (!(isA .tuple (told_1))) then R.ok true else ((lenD (told_1)).bind fun (y_4 : Int) => R.ok (!decide (y_4 = (count_3))))).bind fun t => if t then R.ok (false) else (((idxD (told_1) (0 : Int)).bind fun (y_5 : D) => R.ok (isA .str y_5)).bind fun c => if c then ((idxD (told_1) (0 : Int)).bind fun (y_6 : D) => (eqR y_6 (eS (word_2)))) else R.ok false))) (ss_ifX (Tt.cast (tt_w (tw_or (tt_not (tt_of (sx_isi .tuple rfl B.isinstance B.tuple (by decide +kernel) (sx_VP (sx_var (enc := eD) 0 (a := told_1)))))) (tw_or1 (tt_cmp (o_ne eqq_int) (sx_VP (sx_lenD B.len (sx_VP (sx_var (enc := eD) 0 (a := told_1))))) (sx_VP (sx_var (enc := eI) 2 (a := count_3))))))) rfl) (ss_dead (s1_ret0 (Sx.cast sx_bl rfl))) (ss_dead (s1_ret0 (Sx.cast (sx_and (sx_isi .str rfl B.isinstance B.str (by decide +kernel) (sx_VP (sx_ix x_ixD (sx_VP (sx_var (enc := eD) 0 (a := told_1))) (sx_VP sx_int)))) (sx_one (sx_cmp o_eqD (sx_VP (sx_ix x_ixD (sx_VP (sx_var (enc := eD) 0 (a := told_1))) (sx_VP sx_int))) (sx_VP (sx_upD (sx_var (enc := eS) 1 (a := word_2))))))) rfl)))) rfl
theorem df_is_told {G : Pg} (B : Bi G) (Er : RaOk G) (Et : ErrOk G) (d : Def G "is_told" (topS 5) ["told", "word", "count"])  : Df G 1 "is_told" ["told", "word", "count"] (spP G.cls (fun q : D × Str × Int × Unit => [eD q.1, eS q.2.1, eI q.2.2.1]) eB fun q => (M_is_told q.1 q.2.1 q.2.2.1)) :=
  df_is_told_v B Er Et d 
def M_parts_of_step (rec : Int → Int → R (List (List Int))) (number_1 : Int) (most_2 : Int) : R (List (List Int)) :=
  (if (decide ((number_1) = (0 : Int))) then R.ok ([([] : List Int)]) else ((rng3 (min (number_1) (most_2)) (0 : Int) (-(1 : Int))).bind fun (y_5 : (List Int)) => (lc2R (lc2I (fun (part_3 : Int) => R.ok true) (fun (part_3 : Int) => (rec ((number_1) - (part_3)) (part_3))) (fun (part_3 : Int) (row_4 : (List Int)) => R.ok true) (fun (part_3 : Int) (row_4 : (List Int)) => (catR ([(part_3)]) (row_4)))) y_5)))
def M_parts_of : Nat → Int → Int → R (List (List Int))
  | 0 => fun _ _ => .bad
  | n + 1 => M_parts_of_step (M_parts_of n)
theorem sc_parts_of : FnScope ["number", "most", "part", "row"] ["number", "most"] (defScope (topS 8)) := ⟨rfl, rfl, rfl, by decide +kernel, rfl, by decide +kernel, by decide +kernel⟩
theorem df_parts_of_step {G : Pg} (B : Bi G) (Er : RaOk G) (Et : ErrOk G) (d : Def G "parts_of" (topS 8) ["number", "most"])   {rec : Int → Int → R (List (List Int))} {k : Nat} (hk : 0 ≤ k) (h_rec : Df G k "parts_of" ["number", "most"] (spP G.cls (fun q : Int × Int × Unit => [eI q.1, eI q.2.1]) (eL (eT eI)) fun q => (rec q.1 q.2.1))) : Df G (k + 1) "parts_of" ["number", "most"] (spP G.cls (fun q : Int × Int × Unit => [eI q.1, eI q.2.1]) (eL (eT eI)) fun q => ((fun (number_1 : Int) (most_2 : Int) => (if (decide ((number_1) = (0 : Int))) then R.ok ([([] : List Int)]) else ((rng3 (min (number_1) (most_2)) (0 : Int) (-(1 : Int))).bind fun (y_5 : (List Int)) => (lc2R (lc2I (fun (part_3 : Int) => R.ok true) (fun (part_3 : Int) => (rec ((number_1) - (part_3)) (part_3))) (fun (part_3 : Int) (row_4 : (List Int)) => R.ok true) (fun (part_3 : Int) (row_4 : (List Int)) => (catR ([(part_3)]) (row_4)))) y_5)))) q.1 q.2.1)) :=
  df_p (none) nofun d sc_parts_of (fun _ => rfl) <| fun a W => by
    obtain ⟨number_1, most_2, _u⟩ := a
    exact Ss.rho (ρ' := [(some (.sh (eI (number_1)))), (some (.sh (eI (most_2)))), none, none]) (m := (if (decide ((number_1) = (0 : Int))) then R.ok ([([] : List Int)]) else ((rng3 (min (number_1) (most_2)) (0 : Int) (-(1 : Int))).bind fun (y_5 : (List Int)) => (lc2R (lc2I (fun (part_3 : Int) => R.ok true) (fun (part_3 : Int) => (rec ((number_1) - (part_3)) (part_3))) (fun (part_3 : Int) (row_4 : (List Int)) => R.ok true) (fun (part_3 : Int) (row_4 : (List Int)) => (catR ([(part_3)]) (row_4)))) y_5)))) (ss_ifX (Tt.cast (tt_cmp (o_eq eqq_int) (sx_VP (sx_var (enc := eI) 0 (a := number_1))) (sx_VP sx_int)) rfl) (ss_dead (s1_ret0 (Sx.cast (sx_NV (sx_lst1 (enc := (eL (eT eI))) (fun a => [a]) (fun _ => rfl) (sx_tup0 (e := eI))) (fun _ => ⟨_, rfl⟩)) rfl))) (ss_dead (s1_ret0 (Sx.cast (sx_NV (sx_lc2G (own := [("part", 2), ("row", 3)]) (c := (fun (part_3 : Int) => R.ok true)) (mi1 := (fun (part_3 : Int) => (rec ((number_1) - (part_3)) (part_3)))) (d := (fun (part_3 : Int) (row_4 : (List Int)) => R.ok true)) (f := (fun (part_3 : Int) (row_4 : (List Int)) => (catR ([(part_3)]) (row_4)))) (by decide) (by decide) (si_st (si_rng3P B.range (Sx.cast (sx_b2 c_min2 B.min (by decide +kernel) (sx_VP (sx_var (enc := eI) 0 (a := number_1))) (sx_VP (sx_var (enc := eI) 1 (a := most_2)))) rfl) sx_int (Sx.cast (sx_neg sx_int) rfl))) (by kernel_rfl) (gt_name (ea := eI) 2) (fun part_3 => by exact tts_nil) (fun part_3 => by exact (Si.cast (si_listV (sx_c2 (f := rec) h_rec (Nat.le_refl _) (sx_op o_sub (sx_VP (sx_var (enc := eI) 0 (a := number_1))) (sx_VP (sx_var (enc := eI) 2 (a := part_3)))) (sx_var (enc := eI) 2 (a := part_3)))) rfl)) (gt_name (ea := (eT eI)) 3) (fun part_3 row_4 => by exact tts_nil) (fun part_3 row_4 => by exact (Sx.cast (sx_op o_catT (sx_VP (sx_tup1 (enc := (eT eI)) (fun a => [a]) (fun _ => rfl) (sx_var (enc := eI) 2 (a := part_3)))) (sx_VP (sx_var (enc := (eT eI)) 3 (a := row_4)))) rfl))) (fun _ => ⟨_, rfl⟩)) rfl)))) rfl
theorem df_parts_of {G : Pg} (B : Bi G) (Er : RaOk G) (Et : ErrOk G) (d : Def G "parts_of" (topS 8) ["number", "most"])  : ∀ n : Nat, Df G (0 + n) "parts_of" ["number", "most"] (spP G.cls (fun q : Int × Int × Unit => [eI q.1, eI q.2.1]) (eL (eT eI)) fun q => (M_parts_of n q.1 q.2.1))
  | 0 => df_noP d
  | n + 1 => df_parts_of_step B Er Et d  (Nat.le_add_right _ _) (df_parts_of B Er Et d  n)
def M_turned (row_1 : (List Int)) : R (List Int) :=
  ((((if (!(row_1).isEmpty) then (idx (row_1) (0 : Int)) else (R.ok (0 : Int))).bind fun (y_2 : Int) => (rng1 y_2)).bind fun (y_5 : (List Int)) => R.ok (List.map (fun (at_3 : Int) => ((List.map (fun (part_4 : Int) => (1 : Int)) (List.filter (fun (part_4 : Int) => (decide ((at_3) < (part_4)))) (row_1))).length : Int)) y_5)).bind fun (y_6 : (List Int)) => R.ok (y_6))
theorem sc_turned : FnScope ["row", "at", "part"] ["row"] (defScope (topS 9)) := ⟨rfl, rfl, rfl, by decide +kernel, rfl, by decide +kernel, by decide +kernel⟩
theorem df_turned_v {G : Pg} (B : Bi G) (Er : RaOk G) (Et : ErrOk G) (d : Def G "turned" (topS 9) ["row"])   : Df G 1 "turned" ["row"] (spP G.cls (fun q : (List Int) × Unit => [(eT eI) q.1]) (eT eI) fun q => ((fun (row_1 : (List Int)) => ((((if (!(row_1).isEmpty) then (idx (row_1) (0 : Int)) else (R.ok (0 : Int))).bind fun (y_2 : Int) => (rng1 y_2)).bind fun (y_5 : (List Int)) => R.ok (List.map (fun (at_3 : Int) => ((List.map (fun (part_4 : Int) => (1 : Int)) (List.filter (fun (part_4 : Int) => (decide ((at_3) < (part_4)))) (row_1))).length : Int)) y_5)).bind fun (y_6 : (List Int)) => R.ok (y_6))) q.1)) :=
  df_p (none) nofun d sc_turned (fun _ => rfl) <| fun a W => by
    obtain ⟨row_1, _u⟩ := a
    exact Ss.rho (ρ' := [(some (.sh ((eT eI) (row_1)))), none, none]) (m := ((((if (!(row_1).isEmpty) then (idx (row_1) (0 : Int)) else (R.ok (0 : Int))).bind fun (y_2 : Int) => (rng1 y_2)).bind fun (y_5 : (List Int)) => R.ok (List.map (fun (at_3 : Int) => ((List.map (fun (part_4 : Int) => (1 : Int)) (List.filter (fun (part_4 : Int) => (decide ((at_3) < (part_4)))) (row_1))).length : Int)) y_5)).bind fun (y_6 : (List Int)) => R.ok (y_6))) (ss_dead (s1_ret0 (Sx.cast (sx_t1 c_tupL B.tuple (by decide +kernel) (sx_NP (sx_lc1P (own := [("at", 1)]) (si_st (si_rng1 B.range (sx_if (tt_truT (sx_VP (sx_var (enc := (eT eI)) 0 (a := row_1)))) (sx_ix x_ixT (sx_VP (sx_var (enc := (eT eI)) 0 (a := row_1))) (sx_VP sx_int)) sx_int))) (by kernel_rfl) (gt_name (ea := eI) 1) (fun at_3 => (Sx.cast (sx_lenL B.len (sx_NP (sx_lc2P (own := [("part", 2)]) (si_st (si_tup (sx_VP (sx_var (enc := (eT eI)) 0 (a := row_1))))) (by kernel_rfl) (gt_name (ea := eI) 2) (fun part_4 => Tt.cast (tt_cmp o_gt (sx_VP (sx_var (enc := eI) 2 (a := part_4))) (sx_VP (sx_var (enc := eI) 1 (a := at_3)))) rfl) (fun part_4 => sx_int)) (fun _ => ⟨_, rfl⟩))) rfl))) (fun _ => ⟨_, rfl⟩))) rfl))) rfl
theorem df_turned {G : Pg} (B : Bi G) (Er : RaOk G) (Et : ErrOk G) (d : Def G "turned" (topS 9) ["row"])  : Df G 1 "turned" ["row"] (spP G.cls (fun q : (List Int) × Unit => [(eT eI) q.1]) (eT eI) fun q => (M_turned q.1)) :=
  df_turned_v B Er Et d 
def M_heap_parts (number_1 : Int) (most_2 : Int) : R (Str × (List (List Int)) × (List (List Int))) :=
  (if ((decide ((number_1) < (0 : Int))) || (decide ((most_2) < (1 : Int)))) then R.exc .unfit else (if (decide ((14 : Int) < (number_1))) then R.exc .wide else ((M_parts_of 20 (number_1) (most_2)).bind fun (rows_3 : (List (List Int))) => (((R.mapM (fun (row_4 : (List Int)) => (M_turned (row_4))) (rows_3)).bind fun (y_5 : (List (List Int))) => R.ok (y_5)).bind fun (y_6 : (List (List Int))) => R.ok (("parts" : Str), (rows_3), y_6)))))
theorem sc_heap_parts : FnScope ["number", "most", "rows", "row"] ["number", "most"] (defScope (topS 7)) := ⟨rfl, rfl, rfl, by decide +kernel, rfl, by decide +kernel, by decide +kernel⟩
theorem df_heap_parts_v {G : Pg} (B : Bi G) (Er : RaOk G) (Et : ErrOk G) (d : Def G "heap_parts" (topS 7) ["number", "most"]) {M_parts_of : Nat → Int → Int → R (List (List Int))} {M_turned : (List Int) → R (List Int)} (h__parts_of : Df G 20 "parts_of" ["number", "most"] (spP G.cls (fun q : Int × Int × Unit => [eI q.1, eI q.2.1]) (eL (eT eI)) fun q => (M_parts_of 20 q.1 q.2.1))) (h__turned : Df G 1 "turned" ["row"] (spP G.cls (fun q : (List Int) × Unit => [(eT eI) q.1]) (eT eI) fun q => (M_turned q.1))) : Df G 21 "heap_parts" ["number", "most"] (spP G.cls (fun q : Int × Int × Unit => [eI q.1, eI q.2.1]) (eP3 eS (eT (eT eI)) (eT (eT eI))) fun q => ((fun (number_1 : Int) (most_2 : Int) => (if ((decide ((number_1) < (0 : Int))) || (decide ((most_2) < (1 : Int)))) then R.exc .unfit else (if (decide ((14 : Int) < (number_1))) then R.exc .wide else ((M_parts_of 20 (number_1) (most_2)).bind fun (rows_3 : (List (List Int))) => (((R.mapM (fun (row_4 : (List Int)) => (M_turned (row_4))) (rows_3)).bind fun (y_5 : (List (List Int))) => R.ok (y_5)).bind fun (y_6 : (List (List Int))) => R.ok (("parts" : Str), (rows_3), y_6)))))) q.1 q.2.1)) :=
  df_p (none) nofun d sc_heap_parts (fun _ => rfl) <| fun a W => by
    obtain ⟨number_1, most_2, _u⟩ := a
    exact Ss.rho (ρ' := [(some (.sh (eI (number_1)))), (some (.sh (eI (most_2)))), none, none]) (m := (if ((decide ((number_1) < (0 : Int))) || (decide ((most_2) < (1 : Int)))) then R.exc .unfit else (if (decide ((14 : Int) < (number_1))) then R.exc .wide else ((M_parts_of 20 (number_1) (most_2)).bind fun (rows_3 : (List (List Int))) => (((R.mapM (fun (row_4 : (List Int)) => (M_turned (row_4))) (rows_3)).bind fun (y_5 : (List (List Int))) => R.ok (y_5)).bind fun (y_6 : (List (List Int))) => R.ok (("parts" : Str), (rows_3), y_6)))))) (ss_ifX (Tt.cast (tt_w (tw_orP (Tt.cast (tt_cmp o_lt (sx_VP (sx_var (enc := eI) 0 (a := number_1))) (sx_VP sx_int)) rfl) (tw_or1 (Tt.cast (tt_cmp o_lt (sx_VP (sx_var (enc := eI) 1 (a := most_2))) (sx_VP sx_int)) rfl)))) rfl) (ss_dead (s1_raise_unfit Er)) (ss_ifX (Tt.cast (tt_cmp o_gt (sx_VP (sx_var (enc := eI) 0 (a := number_1))) (sx_VP sx_int)) rfl) (ss_dead (s1_raise_wide Er)) (ss_consL (N' := (fun (rows_3 : (List (List Int))) => ([(some (.sh (eI (number_1)))), (some (.sh (eI (most_2)))), (some (.sh ((eL (eT eI)) (rows_3)))), none] : Rho))) (s1_set 2 (Sx.cast (sx_c2 (f := M_parts_of 20) h__parts_of (show 20 ≤ 20 by decide) (sx_var (enc := eI) 0 (a := number_1)) (sx_var (enc := eI) 1 (a := most_2))) rfl)) (fun rows_3 => (ss_dead (s1_ret0 (Sx.cast (sx_tup3 (enc := (eP3 eS (eT (eT eI)) (eT (eT eI)))) (fun a b c => (a, b, c)) (fun _ _ _ => rfl) sx_str (sx_t1 c_tupL B.tuple (by decide +kernel) (sx_VP (sx_var (enc := (eL (eT eI))) 2 (a := rows_3)))) (sx_t1 c_tupL B.tuple (by decide +kernel) (sx_NP (sx_lc1 (own := [("row", 3)]) (si_listP (sx_VP (sx_var (enc := (eL (eT eI))) 2 (a := rows_3)))) (by kernel_rfl) (gt_name (ea := (eT eI)) 3) (fun row_4 => (sx_c1 (f := M_turned) h__turned (show 1 ≤ 20 by decide) (sx_var (enc := (eT eI)) 3 (a := row_4))))) (fun _ => ⟨_, rfl⟩)))) rfl)))) (fun _ => rfl)))) rfl
theorem df_heap_parts {G : Pg} (B : Bi G) (Er : RaOk G) (Et : ErrOk G) (d : Def G "heap_parts" (topS 7) ["number", "most"]) (h__parts_of : Df G 20 "parts_of" ["number", "most"] (spP G.cls (fun q : Int × Int × Unit => [eI q.1, eI q.2.1]) (eL (eT eI)) fun q => (M_parts_of 20 q.1 q.2.1))) (h__turned : Df G 1 "turned" ["row"] (spP G.cls (fun q : (List Int) × Unit => [(eT eI) q.1]) (eT eI) fun q => (M_turned q.1))) : Df G 21 "heap_parts" ["number", "most"] (spP G.cls (fun q : Int × Int × Unit => [eI q.1, eI q.2.1]) (eP3 eS (eT (eT eI)) (eT (eT eI))) fun q => (M_heap_parts q.1 q.2.1)) :=
  df_heap_parts_v B Er Et d h__parts_of h__turned
def M_judge_heap_parts (number_1 : Int) (most_2 : Int) (told_3 : D) : R Bool :=
  ((M_heap_parts (number_1) (most_2)).bind fun (due_4 : (Str × (List (List Int)) × (List (List Int)))) => ((M_is_told (told_3) ("parts" : Str) (3 : Int)).bind fun c => if c then (((idxD (told_3) (1 : Int)).bind fun (y_5 : D) => R.ok (isA .tuple y_5)).bind fun c => if c then ((reprD (told_3)).bind fun (y_6 : Str) => (reprD ((eP3 eS (eT (eT eI)) (eT (eT eI))) (due_4))).bind fun (y_7 : Str) => R.ok (decide (y_6 = y_7))) else R.ok false) else R.ok false))
theorem sc_judge_heap_parts : FnScope ["number", "most", "told", "due"] ["number", "most", "told"] (defScope (topS 10)) := ⟨rfl, rfl, rfl, by decide +kernel, rfl, by decide +kernel, by decide +kernel⟩
theorem df_judge_heap_parts_v {G : Pg} (B : Bi G) (Er : RaOk G) (Et : ErrOk G) (d : Def G "judge_heap_parts" (topS 10) ["number", "most", "told"]) {M_is_told : D → Str → Int → R Bool} {M_heap_parts : Int → Int → R (Str × (List (List Int)) × (List (List Int)))} (h__is_told : Df G 1 "is_told" ["told", "word", "count"] (spP G.cls (fun q : D × Str × Int × Unit => [eD q.1, eS q.2.1, eI q.2.2.1]) eB fun q => (M_is_told q.1 q.2.1 q.2.2.1))) (h__heap_parts : Df G 21 "heap_parts" ["number", "most"] (spP G.cls (fun q : Int × Int × Unit => [eI q.1, eI q.2.1]) (eP3 eS (eT (eT eI)) (eT (eT eI))) fun q => (M_heap_parts q.1 q.2.1))) : Df G 22 "judge_heap_parts" ["number", "most", "told"] (spP G.cls (fun q : Int × Int × D × Unit => [eI q.1, eI q.2.1, eD q.2.2.1]) eB fun q => ((fun (number_1 : Int) (most_2 : Int) (told_3 : D) => ((M_heap_parts (number_1) (most_2)).bind fun (due_4 : (Str × (List (List Int)) × (List (List Int)))) => ((M_is_told (told_3) ("parts" : Str) (3 : Int)).bind fun c => if c then (((idxD (told_3) (1 : Int)).bind fun (y_5 : D) => R.ok (isA .tuple y_5)).bind fun c => if c then ((reprD (told_3)).bind fun (y_6 : Str) => (reprD ((eP3 eS (eT (eT eI)) (eT (eT eI))) (due_4))).bind fun (y_7 : Str) => R.ok (decide (y_6 = y_7))) else R.ok false) else R.ok false))) q.1 q.2.1 q.2.2.1)) :=
  df_p (none) nofun d sc_judge_heap_parts (fun _ => rfl) <| fun a W => by
    obtain ⟨number_1, most_2, told_3, _u⟩ := a
    exact Ss.rho (ρ' := [(some (.sh (eI (number_1)))), (some (.sh (eI (most_2)))), (some (.sh (eD (told_3)))), none]) (m := ((M_heap_parts (number_1) (most_2)).bind fun (due_4 : (Str × (List (List Int)) × (List (List Int)))) => ((M_is_told (told_3) ("parts" : Str) (3 : Int)).bind fun c => if c then (((idxD (told_3) (1 : Int)).bind fun (y_5 : D) => R.ok (isA .tuple y_5)).bind fun c => if c then ((reprD (told_3)).bind fun (y_6 : Str) => (reprD ((eP3 eS (eT (eT eI)) (eT (eT eI))) (due_4))).bind fun (y_7 : Str) => R.ok (decide (y_6 = y_7))) else R.ok false) else R.ok false))) (ss_consL (N' := (fun (due_4 : (Str × (List (List Int)) × (List (List Int)))) => ([(some (.sh (eI (number_1)))), (some (.sh (eI (most_2)))), (some (.sh (eD (told_3)))), (some (.sh ((eP3 eS (eT (eT eI)) (eT (eT eI))) (due_4))))] : Rho))) (s1_set 3 (Sx.cast (sx_c2 (f := M_heap_parts) h__heap_parts (show 21 ≤ 21 by decide) (sx_var (enc := eI) 0 (a := number_1)) (sx_var (enc := eI) 1 (a := most_2))) rfl)) (fun due_4 => (ss_dead (s1_ret0 (Sx.cast (sx_and (sx_c3 (f := M_is_told) h__is_told (show 1 ≤ 21 by decide) (sx_var (enc := eD) 2 (a := told_3)) sx_str sx_int) (sx_and (sx_isi .tuple rfl B.isinstance B.tuple (by decide +kernel) (sx_VP (sx_ix x_ixD (sx_VP (sx_var (enc := eD) 2 (a := told_3))) (sx_VP sx_int)))) (sx_one (sx_cmp o_eqS (sx_VP (sx_b1 c_reprD B.repr (by decide +kernel) (sx_VP (sx_var (enc := eD) 2 (a := told_3))))) (sx_VP (sx_b1 c_reprD B.repr (by decide +kernel) (sx_VP (sx_upD (sx_var (enc := (eP3 eS (eT (eT eI)) (eT (eT eI)))) 3 (a := due_4)))))))))) rfl)))) (fun _ => rfl)) rfl
theorem df_judge_heap_parts {G : Pg} (B : Bi G) (Er : RaOk G) (Et : ErrOk G) (d : Def G "judge_heap_parts" (topS 10) ["number", "most", "told"]) (h__is_told : Df G 1 "is_told" ["told", "word", "count"] (spP G.cls (fun q : D × Str × Int × Unit => [eD q.1, eS q.2.1, eI q.2.2.1]) eB fun q => (M_is_told q.1 q.2.1 q.2.2.1))) (h__heap_parts : Df G 21 "heap_parts" ["number", "most"] (spP G.cls (fun q : Int × Int × Unit => [eI q.1, eI q.2.1]) (eP3 eS (eT (eT eI)) (eT (eT eI))) fun q => (M_heap_parts q.1 q.2.1))) : Df G 22 "judge_heap_parts" ["number", "most", "told"] (spP G.cls (fun q : Int × Int × D × Unit => [eI q.1, eI q.2.1, eD q.2.2.1]) eB fun q => (M_judge_heap_parts q.1 q.2.1 q.2.2.1)) :=
  df_judge_heap_parts_v B Er Et d h__is_told h__heap_parts
theorem sc_law_next : FnScope ["state", "limit", "cell", "value"] ["state", "limit"] (defScope (topS 12)) := ⟨rfl, rfl, rfl, by decide +kernel, rfl, by decide +kernel, by decide +kernel⟩
theorem df_law_next_v {G : Pg} (B : Bi G) (Er : RaOk G) (Et : ErrOk G) (d : Def G "_law_next" (topS 12) ["state", "limit"])   : Df G 1 "_law_next" ["state", "limit"] (spI eSt (fun q : Int × Unit => ([eI q.1] : List D)) eI fun q => ((fun (limit_1 : Int) (s_2 : Sta) => ((if ((decide (((s_2).2.2.1) = (0 : Int))) && (decide (((s_2).2.1) < (((s_2).1).length : Int)))) then ((idx ((s_2).1) ((s_2).2.1)).bind fun (cell_3 : Int) => ((R.ok (s_2.1, (s_2.2.1 + (1 : Int)), s_2.2.2.1, s_2.2.2.2)).bind fun (s_4 : Sta) => ((((powR (10 : Int) (18 : Int)).bind fun (y_5 : Int) => R.ok (decide (y_5 ≤ (cell_3)))).bind fun t => if t then ((R.ok (s_4.1, s_4.2.1, (cell_3), s_4.2.2.2)).bind fun (s_6 : Sta) => R.ok s_6) else ((R.ok (s_4.1, s_4.2.1, s_4.2.2.1, ((((((s_4).2.2.2) * 48271) + ((cell_3) % 2147483647)) + (7 : Int)) % 2147483647))).bind fun (s_7 : Sta) => R.ok s_7)).bind fun (t_8 : Sta) => R.ok t_8))) else R.ok s_2).bind fun (t_9 : Sta) => (if (decide ((0 : Int) < ((t_9).2.2.1))) then ((modR ((t_9).2.2.1) (limit_1)).bind fun (value_10 : Int) => (((divR ((t_9).2.2.1) (limit_1)).bind fun (y_12 : Int) => R.ok (t_9.1, t_9.2.1, y_12, t_9.2.2.2)).bind fun (s_11 : Sta) => R.ok (value_10, s_11))) else ((R.ok (t_9.1, t_9.2.1, t_9.2.2.1, (((((t_9).2.2.2) * 69621) + (12345 : Int)) % 2147483647))).bind fun (s_13 : Sta) => ((modR (((s_13).2.2.2) / 7) (limit_1)).bind fun a => R.ok (a, s_13)))))) q.1)) :=
  df_i d sc_law_next (fun _ => rfl) <| fun a s_2 q W => by
    obtain ⟨limit_1, _u⟩ := a
    exact Ss.rho (ρ' := [(some (.io q (eSt (s_2)))), (some (.sh (eI (limit_1)))), none, none]) (m := ((if ((decide (((s_2).2.2.1) = (0 : Int))) && (decide (((s_2).2.1) < (((s_2).1).length : Int)))) then ((idx ((s_2).1) ((s_2).2.1)).bind fun (cell_3 : Int) => ((R.ok (s_2.1, (s_2.2.1 + (1 : Int)), s_2.2.2.1, s_2.2.2.2)).bind fun (s_4 : Sta) => ((((powR (10 : Int) (18 : Int)).bind fun (y_5 : Int) => R.ok (decide (y_5 ≤ (cell_3)))).bind fun t => if t then ((R.ok (s_4.1, s_4.2.1, (cell_3), s_4.2.2.2)).bind fun (s_6 : Sta) => R.ok s_6) else ((R.ok (s_4.1, s_4.2.1, s_4.2.2.1, ((((((s_4).2.2.2) * 48271) + ((cell_3) % 2147483647)) + (7 : Int)) % 2147483647))).bind fun (s_7 : Sta) => R.ok s_7)).bind fun (t_8 : Sta) => R.ok t_8))) else R.ok s_2).bind fun (t_9 : Sta) => (if (decide ((0 : Int) < ((t_9).2.2.1))) then ((modR ((t_9).2.2.1) (limit_1)).bind fun (value_10 : Int) => (((divR ((t_9).2.2.1) (limit_1)).bind fun (y_12 : Int) => R.ok (t_9.1, t_9.2.1, y_12, t_9.2.2.2)).bind fun (s_11 : Sta) => R.ok (value_10, s_11))) else ((R.ok (t_9.1, t_9.2.1, t_9.2.2.1, (((((t_9).2.2.2) * 69621) + (12345 : Int)) % 2147483647))).bind fun (s_13 : Sta) => ((modR (((s_13).2.2.2) / 7) (limit_1)).bind fun a => R.ok (a, s_13)))))) (ss_consL (N' := (fun (t_9 : Sta) => ([(some (.io q (eSt (t_9)))), (some (.sh (eI (limit_1)))), none, none] : Rho))) (s1_ifJ (N := (fun (t : Sta) => ([(some (.io q (eSt (t)))), (some (.sh (eI (limit_1)))), none, none] : Rho))) (Tt.cast (tt_w (tw_andP (Tt.cast (tt_cmp (o_eq eqq_int) (sx_VP (sx_at (ea := eSt) (ec := eI) (fun t => t.2.2.1) (fun _ => ⟨_, .inr rfl, rfl⟩) (sx_io (enc := eSt) 0 (a := s_2)))) (sx_VP sx_int)) rfl) (tw_and1 (Tt.cast (tt_cmp o_lt (sx_VP (sx_at (ea := eSt) (ec := eI) (fun t => t.2.1) (fun _ => ⟨_, .inr rfl, rfl⟩) (sx_io (enc := eSt) 0 (a := s_2)))) (sx_VP (sx_lenL B.len (sx_VP (sx_at (ea := eSt) (ec := (eL eI)) (fun t => t.1) (fun _ => ⟨_, .inr rfl, rfl⟩) (sx_io (enc := eSt) 0 (a := s_2))))))) rfl)))) rfl) (sj_consL (N' := (fun (cell_3 : Int) => ([(some (.io q (eSt (s_2)))), (some (.sh (eI (limit_1)))), (some (.sh (eI (cell_3)))), none] : Rho))) (fun _ => (s1_set 2 (Sx.cast (sx_ix x_ixL (sx_VP (sx_at (ea := eSt) (ec := (eL eI)) (fun t => t.1) (fun _ => ⟨_, .inr rfl, rfl⟩) (sx_io (enc := eSt) 0 (a := s_2)))) (sx_VP (sx_at (ea := eSt) (ec := eI) (fun t => t.2.1) (fun _ => ⟨_, .inr rfl, rfl⟩) (sx_io (enc := eSt) 0 (a := s_2))))) rfl))) (fun cell_3 => (sj_consL (N' := (fun (s_4 : Sta) => ([(some (.io q (eSt (s_4)))), (some (.sh (eI (limit_1)))), (some (.sh (eI (cell_3)))), none] : Rho))) (fun _ => (s1_augAt (f := fun i j => i + j) (x0 := s_2.2.1) (re := fun ds => .io q (.list ds)) (ds := [.list (s_2.1.map .int), .int s_2.2.1, .int s_2.2.2.1, .int s_2.2.2.2]) (N := (fun (t : Sta) => ([(some (.io q (eSt (t)))), (some (.sh (eI (limit_1)))), (some (.sh (eI (cell_3)))), none] : Rho))) 0 1 ⟨rfl, .inr ⟨q, rfl⟩⟩ rfl rfl (fun a => (s_2.1, a, s_2.2.2.1, s_2.2.2.2)) (fun _ => ip_add) (fun _ => rfl) sx_int)) (fun s_4 => (sj_consL (N' := (fun (t_8 : Sta) => ([(some (.io q (eSt (t_8)))), (some (.sh (eI (limit_1)))), (some (.sh (eI (cell_3)))), none] : Rho))) (fun _ => (s1_ifJ (N := (fun (t : Sta) => ([(some (.io q (eSt (t)))), (some (.sh (eI (limit_1)))), (some (.sh (eI (cell_3)))), none] : Rho))) (Tt.cast (tt_cmpP o_ge (sx_VP (sx_var (enc := eI) 2 (a := cell_3))) (sx_VP (sx_op o_pow (sx_VP sx_int) (sx_VP sx_int)))) rfl) (sj_consL (N' := (fun (s_6 : Sta) => ([(some (.io q (eSt (s_6)))), (some (.sh (eI (limit_1)))), (some (.sh (eI (cell_3)))), none] : Rho))) (fun _ => (s1_setAt (re := fun ds => .io q (.list ds)) (ds := [.list (s_4.1.map .int), .int s_4.2.1, .int s_4.2.2.1, .int s_4.2.2.2]) (N := (fun (t : Sta) => ([(some (.io q (eSt (t)))), (some (.sh (eI (limit_1)))), (some (.sh (eI (cell_3)))), none] : Rho))) 0 2 ⟨rfl, .inr ⟨q, rfl⟩⟩ rfl (fun a => (s_4.1, s_4.2.1, a, s_4.2.2.2)) (fun _ => rfl) (sx_var (enc := eI) 2 (a := cell_3)))) (fun s_6 => (sj_nil (N := (fun (t : Sta) => ([(some (.io q (eSt (t)))), (some (.sh (eI (limit_1)))), (some (.sh (eI (cell_3)))), none] : Rho))) s_6 (.k (.k (.k (.d .nil)))))) (fun _ => rfl)) (sj_consL (N' := (fun (s_7 : Sta) => ([(some (.io q (eSt (s_7)))), (some (.sh (eI (limit_1)))), (some (.sh (eI (cell_3)))), none] : Rho))) (fun _ => (s1_setAt (re := fun ds => .io q (.list ds)) (ds := [.list (s_4.1.map .int), .int s_4.2.1, .int s_4.2.2.1, .int s_4.2.2.2]) (N := (fun (t : Sta) => ([(some (.io q (eSt (t)))), (some (.sh (eI (limit_1)))), (some (.sh (eI (cell_3)))), none] : Rho))) 0 3 ⟨rfl, .inr ⟨q, rfl⟩⟩ rfl (fun a => (s_4.1, s_4.2.1, s_4.2.2.1, a)) (fun _ => rfl) (sx_modC (sx_VP (sx_t1 c_int B.int (by decide +kernel) (sx_VP (sx_op o_add (sx_VP (sx_op o_add (sx_VP (sx_mulC (sx_VP (sx_at (ea := eSt) (ec := eI) (fun t => t.2.2.2) (fun _ => ⟨_, .inr rfl, rfl⟩) (sx_io (enc := eSt) 0 (a := s_4)))))) (sx_VP (sx_modC (sx_VP (sx_t1 c_int B.int (by decide +kernel) (sx_VP (sx_var (enc := eI) 2 (a := cell_3))))))))) (sx_VP sx_int)))))))) (fun s_7 => (sj_nil (N := (fun (t : Sta) => ([(some (.io q (eSt (t)))), (some (.sh (eI (limit_1)))), (some (.sh (eI (cell_3)))), none] : Rho))) s_7 (.k (.k (.k (.d .nil)))))) (fun _ => rfl)))) (fun t_8 => (sj_nil (N := (fun (t : Sta) => ([(some (.io q (eSt (t)))), (some (.sh (eI (limit_1)))), none, none] : Rho))) t_8 (.k (.k (.d (.d .nil)))))) (fun _ => rfl))) (fun _ => rfl))) (fun _ => rfl)) (sj_nil (N := (fun (t : Sta) => ([(some (.io q (eSt (t)))), (some (.sh (eI (limit_1)))), none, none] : Rho))) s_2 (.k (.k (.d (.d .nil)))))) (fun t_9 => (ss_ifX (Tt.cast (tt_cmp o_gt (sx_VP (sx_at (ea := eSt) (ec := eI) (fun t => t.2.2.1) (fun _ => ⟨_, .inr rfl, rfl⟩) (sx_io (enc := eSt) 0 (a := t_9)))) (sx_VP sx_int)) rfl) (ss_consL (N' := (fun (value_10 : Int) => ([(some (.io q (eSt (t_9)))), (some (.sh (eI (limit_1)))), none, (some (.sh (eI (value_10))))] : Rho))) (s1_set 3 (Sx.cast (sx_op o_mod (sx_VP (sx_t1 c_int B.int (by decide +kernel) (sx_VP (sx_at (ea := eSt) (ec := eI) (fun t => t.2.2.1) (fun _ => ⟨_, .inr rfl, rfl⟩) (sx_io (enc := eSt) 0 (a := t_9)))))) (sx_VP (sx_var (enc := eI) 1 (a := limit_1)))) rfl)) (fun value_10 => (ss_consL (N' := (fun (s_11 : Sta) => ([(some (.io q (eSt (s_11)))), (some (.sh (eI (limit_1)))), none, (some (.sh (eI (value_10))))] : Rho))) (s1_setAt (re := fun ds => .io q (.list ds)) (ds := [.list (t_9.1.map .int), .int t_9.2.1, .int t_9.2.2.1, .int t_9.2.2.2]) (N := (fun (t : Sta) => ([(some (.io q (eSt (t)))), (some (.sh (eI (limit_1)))), none, (some (.sh (eI (value_10))))] : Rho))) 0 2 ⟨rfl, .inr ⟨q, rfl⟩⟩ rfl (fun a => (t_9.1, t_9.2.1, a, t_9.2.2.2)) (fun _ => rfl) (sx_op o_div (sx_VP (sx_at (ea := eSt) (ec := eI) (fun t => t.2.2.1) (fun _ => ⟨_, .inr rfl, rfl⟩) (sx_io (enc := eSt) 0 (a := t_9)))) (sx_VP (sx_var (enc := eI) 1 (a := limit_1))))) (fun s_11 => (ss_dead (s1_ret (f := fun a => (a, s_11)) (sx_var (enc := eI) 3 (a := value_10)) (fun _ => rfl) (fun _ => .k .nil)))) (fun _ => rfl))) (fun _ => rfl)) (ss_consL (N' := (fun (s_13 : Sta) => ([(some (.io q (eSt (s_13)))), (some (.sh (eI (limit_1)))), none, none] : Rho))) (s1_setAt (re := fun ds => .io q (.list ds)) (ds := [.list (t_9.1.map .int), .int t_9.2.1, .int t_9.2.2.1, .int t_9.2.2.2]) (N := (fun (t : Sta) => ([(some (.io q (eSt (t)))), (some (.sh (eI (limit_1)))), none, none] : Rho))) 0 3 ⟨rfl, .inr ⟨q, rfl⟩⟩ rfl (fun a => (t_9.1, t_9.2.1, t_9.2.2.1, a)) (fun _ => rfl) (sx_modC (sx_VP (sx_t1 c_int B.int (by decide +kernel) (sx_VP (sx_op o_add (sx_VP (sx_mulC (sx_VP (sx_at (ea := eSt) (ec := eI) (fun t => t.2.2.2) (fun _ => ⟨_, .inr rfl, rfl⟩) (sx_io (enc := eSt) 0 (a := t_9)))))) (sx_VP sx_int))))))) (fun s_13 => (ss_dead (s1_ret (f := fun a => (a, s_13)) (sx_op o_mod (sx_VP (sx_t1 c_int B.int (by decide +kernel) (sx_VP (sx_divC (sx_VP (sx_at (ea := eSt) (ec := eI) (fun t => t.2.2.2) (fun _ => ⟨_, .inr rfl, rfl⟩) (sx_io (enc := eSt) 0 (a := s_13)))))))) (sx_VP (sx_var (enc := eI) 1 (a := limit_1)))) (fun _ => rfl) (fun _ => .k .nil)))) (fun _ => rfl)))) (fun _ => rfl)) rfl
theorem df_law_next {G : Pg} (B : Bi G) (Er : RaOk G) (Et : ErrOk G) (d : Def G "_law_next" (topS 12) ["state", "limit"])  : Df G 1 "_law_next" ["state", "limit"] (spI eSt (fun q : Int × Unit => ([eI q.1] : List D)) eI fun q => (M_law_next q.1)) :=
  df_law_next_v B Er Et d 
theorem sc_law_same : FnScope ["actual", "expected", "k"] ["actual", "expected"] (defScope (topS 13)) := ⟨rfl, rfl, rfl, by decide +kernel, rfl, by decide +kernel, by decide +kernel⟩
theorem df_law_same_step {G : Pg} (B : Bi G) (Er : RaOk G) (Et : ErrOk G) (d : Def G "_law_same" (topS 13) ["actual", "expected"])   {rec : D → D → R Bool} {k : Nat} (hk : 0 ≤ k) (h_rec : Df G k "_law_same" ["actual", "expected"] (spP G.cls (fun q : D × D × Unit => [eD q.1, eD q.2.1]) eB fun q => (rec q.1 q.2.1))) : Df G (k + 1) "_law_same" ["actual", "expected"] (spP G.cls (fun q : D × D × Unit => [eD q.1, eD q.2.1]) eB fun q => ((fun (actual_1 : D) (expected_2 : D) => (if (isNon (expected_2)) then R.ok (isNon (actual_1)) else (if (isA .bool (expected_2)) then (if (isA .bool (actual_1)) then (eqR (actual_1) (expected_2)) else R.ok false) else (if (isA .int (expected_2)) then (if (isA .int (actual_1)) then (if (!(isA .bool (actual_1))) then (eqR (actual_1) (expected_2)) else R.ok false) else R.ok false) else (if (isA .str (expected_2)) then (if (isA .str (actual_1)) then (eqR (actual_1) (expected_2)) else R.ok false) else (if ((isA .tuple (expected_2)) && (!(isA .tuple (actual_1)))) then R.ok (false) else (if ((isA .list (expected_2)) && (!(isA .list (actual_1)))) then R.ok (false) else (((lenD (actual_1)).bind fun (y_3 : Int) => (lenD (expected_2)).bind fun (y_4 : Int) => R.ok (!decide (y_3 = y_4))).bind fun t => if t then R.ok (false) else (((lenD (expected_2)).bind fun (y_5 : Int) => (rng1 y_5)).bind fun (y_13 : (List Int)) => (forK (fun (k_7 : Int) (t_6 : Unit) (nx_9 : Unit → R Bool) => ((((idxD (actual_1) (k_7)).bind fun (y_11 : D) => (idxD (expected_2) (k_7)).bind fun (y_12 : D) => (rec y_11 y_12)).bind fun c => R.ok (!c)).bind fun t => if t then R.ok (false) else nx_9 ())) (fun (t_8 : Unit) => R.ok (true)) y_13 ())))))))))) q.1 q.2.1)) :=
  df_p (none) nofun d sc_law_same (fun _ => rfl) <| fun a W => by
    obtain ⟨actual_1, expected_2, _u⟩ := a
    exact Ss.rho (ρ' := [(some (.sh (eD (actual_1)))), (some (.sh (eD (expected_2)))), none]) (m := (if (isNon (expected_2)) then R.ok (isNon (actual_1)) else (if (isA .bool (expected_2)) then (if (isA .bool (actual_1)) then (eqR (actual_1) (expected_2)) else R.ok false) else (if (isA .int (expected_2)) then (if (isA .int (actual_1)) then (if (!(isA .bool (actual_1))) then (eqR (actual_1) (expected_2)) else R.ok false) else R.ok false) else (if (isA .str (expected_2)) then (if (isA .str (actual_1)) then (eqR (actual_1) (expected_2)) else R.ok false) else (if ((isA .tuple (expected_2)) && (!(isA .tuple (actual_1)))) then R.ok (false) else (if ((isA .list (expected_2)) && (!(isA .list (actual_1)))) then R.ok (false) else (((lenD (actual_1)).bind fun (y_3 : Int) => (lenD (expected_2)).bind fun (y_4 : Int) => R.ok (!decide (y_3 = y_4))).bind fun t => if t then R.ok (false) else (((lenD (expected_2)).bind fun (y_5 : Int) => (rng1 y_5)).bind fun (y_13 : (List Int)) => (forK (fun (k_7 : Int) (t_6 : Unit) (nx_9 : Unit → R Bool) => ((((idxD (actual_1) (k_7)).bind fun (y_11 : D) => (idxD (expected_2) (k_7)).bind fun (y_12 : D) => (rec y_11 y_12)).bind fun c => R.ok (!c)).bind fun t => if t then R.ok (false) else nx_9 ())) (fun (t_8 : Unit) => R.ok (true)) y_13 ())))))))))) (ss_ifX (Tt.cast (tt_cmp o_isN (sx_VP (sx_var (enc := eD) 1 (a := expected_2))) (sx_VP sx_non)) rfl) (ss_dead (s1_ret0 (Sx.cast (sx_cmp o_isN (sx_VP (sx_var (enc := eD) 0 (a := actual_1))) (sx_VP sx_non)) rfl))) (ss_ifX (Tt.cast (tt_of (sx_isi .bool rfl B.isinstance B.bool (by decide +kernel) (sx_VP (sx_var (enc := eD) 1 (a := expected_2))))) rfl) (ss_dead (s1_ret0 (Sx.cast (sx_and (sx_isi .bool rfl B.isinstance B.bool (by decide +kernel) (sx_VP (sx_var (enc := eD) 0 (a := actual_1)))) (sx_one (sx_cmp o_eqD (sx_VP (sx_var (enc := eD) 0 (a := actual_1))) (sx_VP (sx_var (enc := eD) 1 (a := expected_2)))))) rfl))) (ss_ifX (Tt.cast (tt_of (sx_isi .int rfl B.isinstance B.int (by decide +kernel) (sx_VP (sx_var (enc := eD) 1 (a := expected_2))))) rfl) (ss_dead (s1_ret0 (Sx.cast (sx_and (sx_isi .int rfl B.isinstance B.int (by decide +kernel) (sx_VP (sx_var (enc := eD) 0 (a := actual_1)))) (sx_and (sx_not (sx_isi .bool rfl B.isinstance B.bool (by decide +kernel) (sx_VP (sx_var (enc := eD) 0 (a := actual_1))))) (sx_one (sx_cmp o_eqD (sx_VP (sx_var (enc := eD) 0 (a := actual_1))) (sx_VP (sx_var (enc := eD) 1 (a := expected_2))))))) rfl))) (ss_ifX (Tt.cast (tt_of (sx_isi .str rfl B.isinstance B.str (by decide +kernel) (sx_VP (sx_var (enc := eD) 1 (a := expected_2))))) rfl) (ss_dead (s1_ret0 (Sx.cast (sx_and (sx_isi .str rfl B.isinstance B.str (by decide +kernel) (sx_VP (sx_var (enc := eD) 0 (a := actual_1)))) (sx_one (sx_cmp o_eqD (sx_VP (sx_var (enc := eD) 0 (a := actual_1))) (sx_VP (sx_var (enc := eD) 1 (a := expected_2)))))) rfl))) (ss_ifX (Tt.cast (tt_w (tw_andP (Tt.cast (tt_of (sx_isi .tuple rfl B.isinstance B.tuple (by decide +kernel) (sx_VP (sx_var (enc := eD) 1 (a := expected_2))))) rfl) (tw_and1 (Tt.cast (tt_not (tt_of (sx_isi .tuple rfl B.isinstance B.tuple (by decide +kernel) (sx_VP (sx_var (enc := eD) 0 (a := actual_1)))))) rfl)))) rfl) (ss_dead (s1_ret0 (Sx.cast sx_bl rfl))) (ss_ifX (Tt.cast (tt_w (tw_andP (Tt.cast (tt_of (sx_isi .list rfl B.isinstance B.list (by decide +kernel) (sx_VP (sx_var (enc := eD) 1 (a := expected_2))))) rfl) (tw_and1 (Tt.cast (tt_not (tt_of (sx_isi .list rfl B.isinstance B.list (by decide +kernel) (sx_VP (sx_var (enc := eD) 0 (a := actual_1)))))) rfl)))) rfl) (ss_dead (s1_ret0 (Sx.cast sx_bl rfl))) (ss_ifX (Tt.cast (tt_cmp (o_ne eqq_int) (sx_VP (sx_lenD B.len (sx_VP (sx_var (enc := eD) 0 (a := actual_1))))) (sx_VP (sx_lenD B.len (sx_VP (sx_var (enc := eD) 1 (a := expected_2)))))) rfl) (ss_dead (s1_ret0 (Sx.cast sx_bl rfl))) (ss_cons (N := (fun (t : Unit) => ([(some (.sh (eD (actual_1)))), (some (.sh (eD (expected_2)))), none] : Rho))) (K := (fun (t_8 : Unit) => R.ok (true))) (s1_forK' (L := (fun (t : Unit) => ([(some (.sh (eD (actual_1)))), (some (.sh (eD (expected_2)))), none] : Rho))) (K := (fun (t_8 : Unit) => R.ok (true))) (t0 := ()) (f := (fun (k_7 : Int) (t_6 : Unit) (nx_9 : Unit → R Bool) => ((((idxD (actual_1) (k_7)).bind fun (y_11 : D) => (idxD (expected_2) (k_7)).bind fun (y_12 : D) => (rec y_11 y_12)).bind fun c => R.ok (!c)).bind fun t => if t then R.ok (false) else nx_9 ()))) (Si.cast (si_rng1 B.range (sx_lenD B.len (sx_VP (sx_var (enc := eD) 1 (a := expected_2))))) rfl) (gt_name (ea := eI) 2) (.k (.k (.d .nil))) (fun k_7 t_6 nx_9 => Ss.rho (ρ' := [(some (.sh (eD (actual_1)))), (some (.sh (eD (expected_2)))), (some (.sh (eI (k_7))))]) (ss_ifX (Tt.cast (tt_not (tt_of (sx_c2 (f := rec) h_rec (Nat.le_refl _) (sx_ix x_ixD (sx_VP (sx_var (enc := eD) 0 (a := actual_1))) (sx_VP (sx_var (enc := eI) 2 (a := k_7)))) (sx_ix x_ixD (sx_VP (sx_var (enc := eD) 1 (a := expected_2))) (sx_VP (sx_var (enc := eI) 2 (a := k_7))))))) rfl) (ss_dead (s1_ret0 (Sx.cast sx_bl rfl))) (ss_fin (()) (.k (.k (.d .nil))) rfl)) rfl)) (fun t_8 => (ss_dead (s1_ret0 (Sx.cast sx_bl rfl)))))))))))) rfl
theorem df_law_same {G : Pg} (B : Bi G) (Er : RaOk G) (Et : ErrOk G) (d : Def G "_law_same" (topS 13) ["actual", "expected"])  : ∀ n : Nat, Df G (0 + n) "_law_same" ["actual", "expected"] (spP G.cls (fun q : D × D × Unit => [eD q.1, eD q.2.1]) eB fun q => (M_law_same n q.1 q.2.1))
  | 0 => df_noP d
  | n + 1 => df_law_same_step B Er Et d  (Nat.le_add_right _ _) (df_law_same B Er Et d  n)
theorem sc_law_changed : FnScope ["state", "value", "others", "k", "j", "more", "turn"] ["state", "value"] (defScope (topS 14)) := ⟨rfl, rfl, rfl, by decide +kernel, rfl, by decide +kernel, by decide +kernel⟩
theorem df_law_changed_step {G : Pg} (B : Bi G) (Er : RaOk G) (Et : ErrOk G) (d : Def G "_law_changed" (topS 14) ["state", "value"]) {M_law_next : Int → Sta → R (Int × Sta)} (h__law_next : Df G 1 "_law_next" ["state", "limit"] (spI eSt (fun q : Int × Unit => ([eI q.1] : List D)) eI fun q => (M_law_next q.1))) {rec : D → Sta → R (D × Sta)} {k : Nat} (hk : 1 ≤ k) (h_rec : Df G k "_law_changed" ["state", "value"] (spI eSt (fun q : D × Unit => ([eD q.1] : List D)) eD fun q => (rec q.1))) : Df G (k + 1) "_law_changed" ["state", "value"] (spI eSt (fun q : D × Unit => ([eD q.1] : List D)) eD fun q => ((fun (value_1 : D) (s_2 : Sta) => (if (isA .bool (value_1)) then (((((((R.ofOpt (dB.dec (value_1))).bind fun (y_3 : Bool) => R.ok (!y_3)).bind fun a => R.ok (eB a)).bind fun (y_4 : D) => ((intD (value_1)).bind fun a => R.ok (eI a)).bind fun (y_5 : D) => R.ok ([y_4, y_5])).bind fun a => R.ok (a, (s_2))).bind fun (t_8 : (List D) × Sta) => (M_law_next (2 : Int) t_8.2).bind fun (t_9 : Int × Sta) => (idx t_8.1 t_9.1).bind fun c => R.ok (c, t_9.2)).cb fun t => R.ok t) else (if ((isNon (value_1)) || (isA .int (value_1))) then ((((R.seq [(((((truD (value_1)).bind fun t => if t then R.ok (value_1) else (R.ok (eI (0 : Int)))).bind fun a => R.ofOpt (dI.dec a)).bind fun (y_10 : Int) => R.ok (y_10 + (1 : Int))).bind fun a => R.ok (eI a)), (((((truD (value_1)).bind fun t => if t then R.ok (value_1) else (R.ok (eI (0 : Int)))).bind fun a => R.ofOpt (dI.dec a)).bind fun (y_11 : Int) => R.ok (y_11 - (1 : Int))).bind fun a => R.ok (eI a)), (R.ok (eI (0 : Int))), (R.ok (eN ())), ((eqR (value_1) (eI (1 : Int))).bind fun a => R.ok (eB a)), (strD (value_1)), (((((truD (value_1)).bind fun t => if t then R.ok (value_1) else (R.ok (eI (1 : Int)))).bind fun a => R.ofOpt (dI.dec a)).bind fun (y_12 : Int) => R.ok (2 * y_12)).bind fun a => R.ok (eI a))]).bind fun a => R.ok (a, (s_2))).bind fun (t_15 : (List D) × Sta) => (M_law_next (7 : Int) t_15.2).bind fun (t_16 : Int × Sta) => (idx t_15.1 t_16.1).bind fun c => R.ok (c, t_16.2)).cb fun t => R.ok t) else (if (isA .str (value_1)) then ((R.seq [(cutD (value_1) (some (1 : Int)) none), (addD (value_1) (eS ("a" : Str))), (revD (value_1)), (addD (eS ("b" : Str)) (value_1)), (R.ok (eS ("" : Str))), (cutD (value_1) none (some (-(1 : Int)))), (R.ok (eS ("left" : Str))), (R.ok (eI (3 : Int))), (R.ok (eS ("in" : Str)))]).bind fun (others_17 : (List D)) => (((M_law_next ((others_17).length : Int) (s_2)).bind fun (t_19 : Int × Sta) => (idx (others_17) t_19.1).bind fun c => R.ok (c, t_19.2)).cb fun t => R.ok t)) else (R.cbIf (if (isA .tuple (value_1)) then (((neR (value_1) ((eT eD) ([] : List D))).bind fun c => R.ok (c, (s_2))).bind fun t => if t.1 then ((M_law_next (4 : Int) t.2).bind fun (t_70 : Int × Sta) => R.ok ((decide ((0 : Int) < t_70.1)), t_70.2)) else R.ok (false, t.2)) else R.ok (false, (s_2))) (fun (s_21 : Sta) => (((lenD (value_1)).bind fun (y_24 : Int) => (M_law_next y_24 (s_21))).cb fun (t_22 : (Int × Sta)) => (((((cutD (value_1) none (some (t_22.1))).bind fun a => R.ok (a, (t_22.2))).bind fun (t_34 : D × Sta) => (((((idxD (value_1) (t_22.1)).bind fun (y_38 : D) => (rec y_38 t_34.2)).bind fun t_36 => (R.ok ((), t_36.2)).bind fun u_37 => R.ok ((t_36.1, u_37.1), u_37.2)).bind fun t => R.ok ((fun (q : D × Unit) => [q.1]) t.1, t.2)).bind fun t => R.ok ((eT eD) t.1, t.2)).bind fun (t_35 : D × Sta) => (addD t_34.1 t_35.1).bind fun c => R.ok (c, t_35.2)).bind fun (t_33 : D × Sta) => ((cutD (value_1) (some ((t_22.1) + (1 : Int))) none).bind fun a => R.ok (a, t_33.2)).bind fun (t_39 : D × Sta) => (addD t_33.1 t_39.1).bind fun c => R.ok (c, t_39.2)).cb fun t => R.ok t))) (fun (s_21 : Sta) => (if (!(isA .tuple (value_1))) then R.ok (((eT eD) ([] : List D)), s_21) else ((((lenD (value_1)).bind fun (y_40 : Int) => R.ok (y_40 + (1 : Int))).bind fun (y_43 : Int) => (M_law_next y_43 (s_21))).cb fun (t_41 : (Int × Sta)) => ((((lenD (value_1)).bind fun (y_44 : Int) => R.ok (y_44 + (1 : Int))).bind fun (y_47 : Int) => (M_law_next y_47 (t_41.2))).cb fun (t_45 : (Int × Sta)) => ((R.seq [((cutD (value_1) none (some (t_41.1))).bind fun (y_48 : D) => (cutD (value_1) (some ((t_41.1) + (1 : Int))) none).bind fun (y_49 : D) => (addD y_48 y_49)), ((cutD (value_1) none (some (1 : Int))).bind fun (y_50 : D) => (addD (value_1) y_50)), (revD (value_1)), ((cutD (value_1) (some (t_41.1)) none).bind fun (y_51 : D) => (cutD (value_1) none (some (t_41.1))).bind fun (y_52 : D) => (addD y_51 y_52)), (((R.ofOpt ((dT dD).dec (value_1))).bind fun (y_53 : (List D)) => R.ok (y_53)).bind fun a => R.ok ((eL eD) a)), (cutD (value_1) none (some (t_41.1))), (R.ok ((eT eD) ([] : List D))), (addD (value_1) ((eT eI) ([(0 : Int)])))]).bind fun (more_54 : (List D)) => (((if (decide ((t_41.1) < (t_45.1))) then (lenD (value_1)).bind fun y_55 => R.ok (decide ((t_45.1) < y_55)) else R.ok false).bind fun t => if t then (((R.mapM (fun (turn_56 : Int) => (((((cutD (value_1) none (some (t_41.1))).bind fun (y_57 : D) => (cutD (value_1) (some (t_45.1)) (some ((t_45.1) + (1 : Int)))).bind fun (y_58 : D) => (addD y_57 y_58)).bind fun (y_59 : D) => (cutD (value_1) (some ((t_41.1) + (1 : Int))) (some (t_45.1))).bind fun (y_60 : D) => (addD y_59 y_60)).bind fun (y_61 : D) => (cutD (value_1) (some (t_41.1)) (some ((t_41.1) + (1 : Int)))).bind fun (y_62 : D) => (addD y_61 y_62)).bind fun (y_63 : D) => (cutD (value_1) (some ((t_45.1) + (1 : Int))) none).bind fun (y_64 : D) => (addD y_63 y_64))) (rng 0 3)).bind fun (y_65 : (List D)) => (catR (more_54) y_65)).bind fun (more_66 : (List D)) => R.ok more_66) else R.ok more_54).bind fun (t_67 : (List D)) => (((M_law_next ((t_67).length : Int) (t_45.2)).bind fun (t_69 : Int × Sta) => (idx (t_67) t_69.1).bind fun c => R.ok (c, t_69.2)).cb fun t => R.ok t)))))))))))) q.1)) :=
  df_i d sc_law_changed (fun _ => rfl) <| fun a s_2 q W => by
    obtain ⟨value_1, _u⟩ := a
    exact Ss.rho (ρ' := [(some (.io q (eSt (s_2)))), (some (.sh (eD (value_1)))), none, none, none, none, none]) (m := (if (isA .bool (value_1)) then (((((((R.ofOpt (dB.dec (value_1))).bind fun (y_3 : Bool) => R.ok (!y_3)).bind fun a => R.ok (eB a)).bind fun (y_4 : D) => ((intD (value_1)).bind fun a => R.ok (eI a)).bind fun (y_5 : D) => R.ok ([y_4, y_5])).bind fun a => R.ok (a, (s_2))).bind fun (t_8 : (List D) × Sta) => (M_law_next (2 : Int) t_8.2).bind fun (t_9 : Int × Sta) => (idx t_8.1 t_9.1).bind fun c => R.ok (c, t_9.2)).cb fun t => R.ok t) else (if ((isNon (value_1)) || (isA .int (value_1))) then ((((R.seq [(((((truD (value_1)).bind fun t => if t then R.ok (value_1) else (R.ok (eI (0 : Int)))).bind fun a => R.ofOpt (dI.dec a)).bind fun (y_10 : Int) => R.ok (y_10 + (1 : Int))).bind fun a => R.ok (eI a)), (((((truD (value_1)).bind fun t => if t then R.ok (value_1) else (R.ok (eI (0 : Int)))).bind fun a => R.ofOpt (dI.dec a)).bind fun (y_11 : Int) => R.ok (y_11 - (1 : Int))).bind fun a => R.ok (eI a)), (R.ok (eI (0 : Int))), (R.ok (eN ())), ((eqR (value_1) (eI (1 : Int))).bind fun a => R.ok (eB a)), (strD (value_1)), (((((truD (value_1)).bind fun t => if t then R.ok (value_1) else (R.ok (eI (1 : Int)))).bind fun a => R.ofOpt (dI.dec a)).bind fun (y_12 : Int) => R.ok (2 * y_12)).bind fun a => R.ok (eI a))]).bind fun a => R.ok (a, (s_2))).bind fun (t_15 : (List D) × Sta) => (M_law_next (7 : Int) t_15.2).bind fun (t_16 : Int × Sta) => (idx t_15.1 t_16.1).bind fun c => R.ok (c, t_16.2)).cb fun t => R.ok t) else (if (isA .str (value_1)) then ((R.seq [(cutD (value_1) (some (1 : Int)) none), (addD (value_1) (eS ("a" : Str))), (revD (value_1)), (addD (eS ("b" : Str)) (value_1)), (R.ok (eS ("" : Str))), (cutD (value_1) none (some (-(1 : Int)))), (R.ok (eS ("left" : Str))), (R.ok (eI (3 : Int))), (R.ok (eS ("in" : Str)))]).bind fun (others_17 : (List D)) => (((M_law_next ((others_17).length : Int) (s_2)).bind fun (t_19 : Int × Sta) => (idx (others_17) t_19.1).bind fun c => R.ok (c, t_19.2)).cb fun t => R.ok t)) else (R.cbIf (if (isA .tuple (value_1)) then (((neR (value_1) ((eT eD) ([] : List D))).bind fun c => R.ok (c, (s_2))).bind fun t => if t.1 then ((M_law_next (4 : Int) t.2).bind fun (t_70 : Int × Sta) => R.ok ((decide ((0 : Int) < t_70.1)), t_70.2)) else R.ok (false, t.2)) else R.ok (false, (s_2))) (fun (s_21 : Sta) => (((lenD (value_1)).bind fun (y_24 : Int) => (M_law_next y_24 (s_21))).cb fun (t_22 : (Int × Sta)) => (((((cutD (value_1) none (some (t_22.1))).bind fun a => R.ok (a, (t_22.2))).bind fun (t_34 : D × Sta) => (((((idxD (value_1) (t_22.1)).bind fun (y_38 : D) => (rec y_38 t_34.2)).bind fun t_36 => (R.ok ((), t_36.2)).bind fun u_37 => R.ok ((t_36.1, u_37.1), u_37.2)).bind fun t => R.ok ((fun (q : D × Unit) => [q.1]) t.1, t.2)).bind fun t => R.ok ((eT eD) t.1, t.2)).bind fun (t_35 : D × Sta) => (addD t_34.1 t_35.1).bind fun c => R.ok (c, t_35.2)).bind fun (t_33 : D × Sta) => ((cutD (value_1) (some ((t_22.1) + (1 : Int))) none).bind fun a => R.ok (a, t_33.2)).bind fun (t_39 : D × Sta) => (addD t_33.1 t_39.1).bind fun c => R.ok (c, t_39.2)).cb fun t => R.ok t))) (fun (s_21 : Sta) => (if (!(isA .tuple (value_1))) then R.ok (((eT eD) ([] : List D)), s_21) else ((((lenD (value_1)).bind fun (y_40 : Int) => R.ok (y_40 + (1 : Int))).bind fun (y_43 : Int) => (M_law_next y_43 (s_21))).cb fun (t_41 : (Int × Sta)) => ((((lenD (value_1)).bind fun (y_44 : Int) => R.ok (y_44 + (1 : Int))).bind fun (y_47 : Int) => (M_law_next y_47 (t_41.2))).cb fun (t_45 : (Int × Sta)) => ((R.seq [((cutD (value_1) none (some (t_41.1))).bind fun (y_48 : D) => (cutD (value_1) (some ((t_41.1) + (1 : Int))) none).bind fun (y_49 : D) => (addD y_48 y_49)), ((cutD (value_1) none (some (1 : Int))).bind fun (y_50 : D) => (addD (value_1) y_50)), (revD (value_1)), ((cutD (value_1) (some (t_41.1)) none).bind fun (y_51 : D) => (cutD (value_1) none (some (t_41.1))).bind fun (y_52 : D) => (addD y_51 y_52)), (((R.ofOpt ((dT dD).dec (value_1))).bind fun (y_53 : (List D)) => R.ok (y_53)).bind fun a => R.ok ((eL eD) a)), (cutD (value_1) none (some (t_41.1))), (R.ok ((eT eD) ([] : List D))), (addD (value_1) ((eT eI) ([(0 : Int)])))]).bind fun (more_54 : (List D)) => (((if (decide ((t_41.1) < (t_45.1))) then (lenD (value_1)).bind fun y_55 => R.ok (decide ((t_45.1) < y_55)) else R.ok false).bind fun t => if t then (((R.mapM (fun (turn_56 : Int) => (((((cutD (value_1) none (some (t_41.1))).bind fun (y_57 : D) => (cutD (value_1) (some (t_45.1)) (some ((t_45.1) + (1 : Int)))).bind fun (y_58 : D) => (addD y_57 y_58)).bind fun (y_59 : D) => (cutD (value_1) (some ((t_41.1) + (1 : Int))) (some (t_45.1))).bind fun (y_60 : D) => (addD y_59 y_60)).bind fun (y_61 : D) => (cutD (value_1) (some (t_41.1)) (some ((t_41.1) + (1 : Int)))).bind fun (y_62 : D) => (addD y_61 y_62)).bind fun (y_63 : D) => (cutD (value_1) (some ((t_45.1) + (1 : Int))) none).bind fun (y_64 : D) => (addD y_63 y_64))) (rng 0 3)).bind fun (y_65 : (List D)) => (catR (more_54) y_65)).bind fun (more_66 : (List D)) => R.ok more_66) else R.ok more_54).bind fun (t_67 : (List D)) => (((M_law_next ((t_67).length : Int) (t_45.2)).bind fun (t_69 : Int × Sta) => (idx (t_67) t_69.1).bind fun c => R.ok (c, t_69.2)).cb fun t => R.ok t)))))))))))) (ss_ifX (Tt.cast (tt_of (sx_isi .bool rfl B.isinstance B.bool (by decide +kernel) (sx_VP (sx_var (enc := eD) 1 (a := value_1))))) rfl) (ss_dead (s1_retE (ρs := (fun (s : Sta) => ([(some (.io q (eSt (s)))), (some (.sh (eD (value_1)))), none, none, none, none, none] : Rho))) (f := fun t => t) (s_2) (Ee.cast (m' := fun s => ((((((R.ofOpt (dB.dec (value_1))).bind fun (y_3 : Bool) => R.ok (!y_3)).bind fun a => R.ok (eB a)).bind fun (y_4 : D) => ((intD (value_1)).bind fun a => R.ok (eI a)).bind fun (y_5 : D) => R.ok ([y_4, y_5])).bind fun a => R.ok (a, s)).bind fun (t_6 : (List D) × Sta) => (M_law_next (2 : Int) t_6.2).bind fun (t_7 : Int × Sta) => (idx t_6.1 t_7.1).bind fun c => R.ok (c, t_7.2))) (ee_ix x_ixL (ee_V (fun s => (sx_NV (sx_lst2 (enc := (eL eD)) (fun a b => [a, b]) (fun _ _ => rfl) (sx_upD (sx_not (sx_dn dB (sx_var (enc := eD) 1 (a := value_1))))) (sx_upD (sx_t1 c_intD B.int (by decide +kernel) (sx_VP (sx_var (enc := eD) 1 (a := value_1)))))) (fun _ => ⟨_, rfl⟩)))) (ee_c1 (f := M_law_next) 0 h__law_next (Nat.le_trans (show 1 ≤ 1 by decide) hk) (Lens.mk rs_io (fun _ => rfl) (fun _ _ => rfl)) (fun s => sx_int))) (fun s => rfl)) (fun _ => rfl) (fun _ => .k .nil))) (ss_ifX (Tt.cast (tt_w (tw_orP (Tt.cast (tt_cmp o_isN (sx_VP (sx_var (enc := eD) 1 (a := value_1))) (sx_VP sx_non)) rfl) (tw_or1 (Tt.cast (tt_of (sx_isi .int rfl B.isinstance B.int (by decide +kernel) (sx_VP (sx_var (enc := eD) 1 (a := value_1))))) rfl)))) rfl) (ss_dead (s1_retE (ρs := (fun (s : Sta) => ([(some (.io q (eSt (s)))), (some (.sh (eD (value_1)))), none, none, none, none, none] : Rho))) (f := fun t => t) (s_2) (Ee.cast (m' := fun s => (((R.seq [(((((truD (value_1)).bind fun t => if t then R.ok (value_1) else (R.ok (eI (0 : Int)))).bind fun a => R.ofOpt (dI.dec a)).bind fun (y_10 : Int) => R.ok (y_10 + (1 : Int))).bind fun a => R.ok (eI a)), (((((truD (value_1)).bind fun t => if t then R.ok (value_1) else (R.ok (eI (0 : Int)))).bind fun a => R.ofOpt (dI.dec a)).bind fun (y_11 : Int) => R.ok (y_11 - (1 : Int))).bind fun a => R.ok (eI a)), (R.ok (eI (0 : Int))), (R.ok (eN ())), ((eqR (value_1) (eI (1 : Int))).bind fun a => R.ok (eB a)), (strD (value_1)), (((((truD (value_1)).bind fun t => if t then R.ok (value_1) else (R.ok (eI (1 : Int)))).bind fun a => R.ofOpt (dI.dec a)).bind fun (y_12 : Int) => R.ok (2 * y_12)).bind fun a => R.ok (eI a))]).bind fun a => R.ok (a, s)).bind fun (t_13 : (List D) × Sta) => (M_law_next (7 : Int) t_13.2).bind fun (t_14 : Int × Sta) => (idx t_13.1 t_14.1).bind fun c => R.ok (c, t_14.2))) (ee_ix x_ixL (ee_V (fun s => (sx_NV (sx_lstM (hn := Nat.le_of_ble_eq_true rfl) (h := (sa_seq (sx_upD (sx_op o_add (sx_VP (sx_dn dI (sx_orT (sx_var (enc := eD) 1 (a := value_1)) (sx_oneV (sx_upD sx_int))))) (sx_VP sx_int))) (sa_seq (sx_upD (sx_op o_sub (sx_VP (sx_dn dI (sx_orT (sx_var (enc := eD) 1 (a := value_1)) (sx_oneV (sx_upD sx_int))))) (sx_VP sx_int))) (sa_seq (sx_upD sx_int) (sa_seq (sx_upD sx_non) (sa_seq (sx_upD (sx_cmp o_eqD (sx_VP (sx_var (enc := eD) 1 (a := value_1))) (sx_VP (sx_upD sx_int)))) (sa_seq (sx_t1 c_strD B.str (by decide +kernel) (sx_VP (sx_var (enc := eD) 1 (a := value_1)))) (sa_seq (sx_upD (sx_mulD (sx_VP (sx_dn dI (sx_orT (sx_var (enc := eD) 1 (a := value_1)) (sx_oneV (sx_upD sx_int))))))) sa_nil))))))))) (fun _ => ⟨_, rfl⟩)))) (ee_c1 (f := M_law_next) 0 h__law_next (Nat.le_trans (show 1 ≤ 1 by decide) hk) (Lens.mk rs_io (fun _ => rfl) (fun _ _ => rfl)) (fun s => sx_int))) (fun s => rfl)) (fun _ => rfl) (fun _ => .k .nil))) (ss_ifX (Tt.cast (tt_of (sx_isi .str rfl B.isinstance B.str (by decide +kernel) (sx_VP (sx_var (enc := eD) 1 (a := value_1))))) rfl) (ss_consL (N' := (fun (others_17 : (List D)) => ([(some (.io q (eSt (s_2)))), (some (.sh (eD (value_1)))), (some (.sh ((eL eD) (others_17)))), none, none, none, none] : Rho))) (s1_set 2 (Sx.cast (sx_NV (sx_lstM (hn := Nat.le_of_ble_eq_true rfl) (h := (sa_seq (sx_sl s_cutD (sx_VP (sx_var (enc := eD) 1 (a := value_1))) (so_some sx_int) so_none) (sa_seq (sx_op o_addD (sx_VP (sx_var (enc := eD) 1 (a := value_1))) (sx_VP (sx_upD sx_str))) (sa_seq (sx_back bk_D (sx_VP (sx_var (enc := eD) 1 (a := value_1)))) (sa_seq (sx_op o_addD (sx_VP (sx_upD sx_str)) (sx_VP (sx_var (enc := eD) 1 (a := value_1)))) (sa_seq (sx_upD sx_str) (sa_seq (sx_sl s_cutD (sx_VP (sx_var (enc := eD) 1 (a := value_1))) so_none (so_some (sx_neg sx_int))) (sa_seq (sx_upD sx_str) (sa_seq (sx_upD sx_int) (sa_seq (sx_upD sx_str) sa_nil))))))))))) (fun _ => ⟨_, rfl⟩)) rfl)) (fun others_17 => (ss_dead (s1_retE (ρs := (fun (s : Sta) => ([(some (.io q (eSt (s)))), (some (.sh (eD (value_1)))), (some (.sh ((eL eD) (others_17)))), none, none, none, none] : Rho))) (f := fun t => t) (s_2) (Ee.cast (m' := fun s => ((M_law_next ((others_17).length : Int) s).bind fun (t_18 : Int × Sta) => (idx (others_17) t_18.1).bind fun c => R.ok (c, t_18.2))) (ee_ix x_ixL (ee_V (fun s => (sx_var (enc := (eL eD)) 2 (a := others_17)))) (ee_c1 (f := M_law_next) 0 h__law_next (Nat.le_trans (show 1 ≤ 1 by decide) hk) (Lens.mk rs_io (fun _ => rfl) (fun _ _ => rfl)) (fun s => (sx_lenL B.len (sx_VP (sx_var (enc := (eL eD)) 2 (a := others_17))))))) (fun s => rfl)) (fun _ => rfl) (fun _ => .k .nil)))) (fun _ => rfl)) (ss_ifXE (ρs := (fun (s : Sta) => ([(some (.io q (eSt (s)))), (some (.sh (eD (value_1)))), none, none, none, none, none] : Rho))) (s_2) (Te.cast (m' := fun s => (if (isA .tuple (value_1)) then (((neR (value_1) ((eT eD) ([] : List D))).bind fun c => R.ok (c, s)).bind fun t => if t.1 then ((M_law_next (4 : Int) t.2).bind fun (t_71 : Int × Sta) => R.ok ((decide ((0 : Int) < t_71.1)), t_71.2)) else R.ok (false, t.2)) else R.ok (false, s))) (te_w (twe_and (te_t (fun s => (tt_of (sx_isi .tuple rfl B.isinstance B.tuple (by decide +kernel) (sx_VP (sx_var (enc := eD) 1 (a := value_1))))))) (twe_and (te_t (fun s => (tt_cmp o_neD (sx_VP (sx_var (enc := eD) 1 (a := value_1))) (sx_VP (sx_upD (sx_tup0 (e := eD))))))) (twe_and1 (te_cmp o_gt (ee_c1 (f := M_law_next) 0 h__law_next (Nat.le_trans (show 1 ≤ 1 by decide) hk) (Lens.mk rs_io (fun _ => rfl) (fun _ _ => rfl)) (fun s => sx_int)) (ee_V (fun s => sx_int))))))) (fun s => rfl)) (fun s_21 => (ss_consL (N' := (fun (t_22 : (Int × Sta)) => ([(some (.io q (eSt (t_22.2)))), (some (.sh (eD (value_1)))), none, (some (.sh (eI (t_22.1)))), none, none, none] : Rho))) (s1_setE (ρs := (fun (s : Sta) => ([(some (.io q (eSt (s)))), (some (.sh (eD (value_1)))), none, none, none, none, none] : Rho))) 3 (s_21) (Ee.cast (m' := fun s => ((lenD (value_1)).bind fun (y_23 : Int) => (M_law_next y_23 s))) (ee_c1 (f := M_law_next) 0 h__law_next (Nat.le_trans (show 1 ≤ 1 by decide) hk) (Lens.mk rs_io (fun _ => rfl) (fun _ _ => rfl)) (fun s => (sx_lenD B.len (sx_VP (sx_var (enc := eD) 1 (a := value_1)))))) (fun s => rfl))) (fun t_22 => (ss_dead (s1_retE (ρs := (fun (s : Sta) => ([(some (.io q (eSt (s)))), (some (.sh (eD (value_1)))), none, (some (.sh (eI (t_22.1)))), none, none, none] : Rho))) (f := fun t => t) (t_22.2) (Ee.cast (m' := fun s => ((((cutD (value_1) none (some (t_22.1))).bind fun a => R.ok (a, s)).bind fun (t_27 : D × Sta) => (((((idxD (value_1) (t_22.1)).bind fun (y_31 : D) => (rec y_31 t_27.2)).bind fun t_29 => (R.ok ((), t_29.2)).bind fun u_30 => R.ok ((t_29.1, u_30.1), u_30.2)).bind fun t => R.ok ((fun (q : D × Unit) => [q.1]) t.1, t.2)).bind fun t => R.ok ((eT eD) t.1, t.2)).bind fun (t_28 : D × Sta) => (addD t_27.1 t_28.1).bind fun c => R.ok (c, t_28.2)).bind fun (t_26 : D × Sta) => ((cutD (value_1) (some ((t_22.1) + (1 : Int))) none).bind fun a => R.ok (a, t_26.2)).bind fun (t_32 : D × Sta) => (addD t_26.1 t_32.1).bind fun c => R.ok (c, t_32.2))) (ee_op o_addD (ee_op o_addD (ee_V (fun s => (sx_sl s_cutD (sx_VP (sx_var (enc := eD) 1 (a := value_1))) so_none (so_some (sx_var (enc := eI) 3 (a := t_22.1)))))) (ee_upD (ee_tup (ed := (eT eD)) (fun (q : D × Unit) => [q.1]) 1 (by decide) (fun _ => rfl) (fun _ => rfl) (ae_cons (ee_c1 (f := rec) 0 h_rec (Nat.le_refl _) (Lens.mk rs_io (fun _ => rfl) (fun _ _ => rfl)) (fun s => (sx_ix x_ixD (sx_VP (sx_var (enc := eD) 1 (a := value_1))) (sx_VP (sx_var (enc := eI) 3 (a := t_22.1)))))) ae_nil)))) (ee_V (fun s => (sx_sl s_cutD (sx_VP (sx_var (enc := eD) 1 (a := value_1))) (so_some (sx_op o_add (sx_VP (sx_var (enc := eI) 3 (a := t_22.1))) (sx_VP sx_int))) so_none)))) (fun s => rfl)) (fun _ => rfl) (fun _ => .k .nil)))) (fun _ => rfl))) (fun s_21 => (ss_ifX (Tt.cast (tt_not (tt_of (sx_isi .tuple rfl B.isinstance B.tuple (by decide +kernel) (sx_VP (sx_var (enc := eD) 1 (a := value_1)))))) rfl) (ss_dead (s1_ret (f := fun a => (a, s_21)) (sx_upD (sx_tup0 (e := eD))) (fun _ => rfl) (fun _ => .k .nil))) (ss_consL (N' := (fun (t_41 : (Int × Sta)) => ([(some (.io q (eSt (t_41.2)))), (some (.sh (eD (value_1)))), none, (some (.sh (eI (t_41.1)))), none, none, none] : Rho))) (s1_setE (ρs := (fun (s : Sta) => ([(some (.io q (eSt (s)))), (some (.sh (eD (value_1)))), none, none, none, none, none] : Rho))) 3 (s_21) (Ee.cast (m' := fun s => (((lenD (value_1)).bind fun (y_40 : Int) => R.ok (y_40 + (1 : Int))).bind fun (y_42 : Int) => (M_law_next y_42 s))) (ee_c1 (f := M_law_next) 0 h__law_next (Nat.le_trans (show 1 ≤ 1 by decide) hk) (Lens.mk rs_io (fun _ => rfl) (fun _ _ => rfl)) (fun s => (sx_op o_add (sx_VP (sx_lenD B.len (sx_VP (sx_var (enc := eD) 1 (a := value_1))))) (sx_VP sx_int)))) (fun s => rfl))) (fun t_41 => (ss_consL (N' := (fun (t_45 : (Int × Sta)) => ([(some (.io q (eSt (t_45.2)))), (some (.sh (eD (value_1)))), none, (some (.sh (eI (t_41.1)))), (some (.sh (eI (t_45.1)))), none, none] : Rho))) (s1_setE (ρs := (fun (s : Sta) => ([(some (.io q (eSt (s)))), (some (.sh (eD (value_1)))), none, (some (.sh (eI (t_41.1)))), none, none, none] : Rho))) 4 (t_41.2) (Ee.cast (m' := fun s => (((lenD (value_1)).bind fun (y_44 : Int) => R.ok (y_44 + (1 : Int))).bind fun (y_46 : Int) => (M_law_next y_46 s))) (ee_c1 (f := M_law_next) 0 h__law_next (Nat.le_trans (show 1 ≤ 1 by decide) hk) (Lens.mk rs_io (fun _ => rfl) (fun _ _ => rfl)) (fun s => (sx_op o_add (sx_VP (sx_lenD B.len (sx_VP (sx_var (enc := eD) 1 (a := value_1))))) (sx_VP sx_int)))) (fun s => rfl))) (fun t_45 => (ss_consL (N' := (fun (more_54 : (List D)) => ([(some (.io q (eSt (t_45.2)))), (some (.sh (eD (value_1)))), none, (some (.sh (eI (t_41.1)))), (some (.sh (eI (t_45.1)))), (some (.sh ((eL eD) (more_54)))), none] : Rho))) (s1_set 5 (Sx.cast (sx_NV (sx_lstM (hn := Nat.le_of_ble_eq_true rfl) (h := (sa_seq (sx_op o_addD (sx_VP (sx_sl s_cutD (sx_VP (sx_var (enc := eD) 1 (a := value_1))) so_none (so_some (sx_var (enc := eI) 3 (a := t_41.1))))) (sx_VP (sx_sl s_cutD (sx_VP (sx_var (enc := eD) 1 (a := value_1))) (so_some (sx_op o_add (sx_VP (sx_var (enc := eI) 3 (a := t_41.1))) (sx_VP sx_int))) so_none))) (sa_seq (sx_opP o_addD (sx_VP (sx_var (enc := eD) 1 (a := value_1))) (sx_VP (sx_sl s_cutD (sx_VP (sx_var (enc := eD) 1 (a := value_1))) so_none (so_some sx_int)))) (sa_seq (sx_back bk_D (sx_VP (sx_var (enc := eD) 1 (a := value_1)))) (sa_seq (sx_op o_addD (sx_VP (sx_sl s_cutD (sx_VP (sx_var (enc := eD) 1 (a := value_1))) (so_some (sx_var (enc := eI) 3 (a := t_41.1))) so_none)) (sx_VP (sx_sl s_cutD (sx_VP (sx_var (enc := eD) 1 (a := value_1))) so_none (so_some (sx_var (enc := eI) 3 (a := t_41.1)))))) (sa_seq (sx_upD (sx_NV (sx_t1 c_listT B.list (by decide +kernel) (sx_VP (sx_dn (dT dD) (sx_var (enc := eD) 1 (a := value_1))))) (fun _ => ⟨_, rfl⟩))) (sa_seq (sx_sl s_cutD (sx_VP (sx_var (enc := eD) 1 (a := value_1))) so_none (so_some (sx_var (enc := eI) 3 (a := t_41.1)))) (sa_seq (sx_upD (sx_tup0 (e := eD))) (sa_seq (sx_op o_addD (sx_VP (sx_var (enc := eD) 1 (a := value_1))) (sx_VP (sx_upD (sx_tup1 (enc := (eT eI)) (fun a => [a]) (fun _ => rfl) sx_int)))) sa_nil)))))))))) (fun _ => ⟨_, rfl⟩)) rfl)) (fun more_54 => (ss_consL (N' := (fun (t_67 : (List D)) => ([(some (.io q (eSt (t_45.2)))), (some (.sh (eD (value_1)))), none, (some (.sh (eI (t_41.1)))), (some (.sh (eI (t_45.1)))), (some (.sh ((eL eD) (t_67)))), none] : Rho))) (s1_ifJ (N := (fun (t : (List D)) => ([(some (.io q (eSt (t_45.2)))), (some (.sh (eD (value_1)))), none, (some (.sh (eI (t_41.1)))), (some (.sh (eI (t_45.1)))), (some (.sh ((eL eD) (t)))), none] : Rho))) (Tt.cast (tt_chain o_lt o_lt (sx_VP (sx_var (enc := eI) 3 (a := t_41.1))) (sx_VP (sx_var (enc := eI) 4 (a := t_45.1))) (sx_VP (sx_lenD B.len (sx_VP (sx_var (enc := eD) 1 (a := value_1)))))) rfl) (sj_consL (N' := (fun (more_66 : (List D)) => ([(some (.io q (eSt (t_45.2)))), (some (.sh (eD (value_1)))), none, (some (.sh (eI (t_41.1)))), (some (.sh (eI (t_45.1)))), (some (.sh ((eL eD) (more_66)))), none] : Rho))) (fun _ => (s1_set 5 (Sx.cast (sx_NV (sx_opP o_catL (sx_VP (sx_var (enc := (eL eD)) 5 (a := more_54))) (sx_NP (sx_lc1 (own := [("turn", 6)]) (si_st (si_rng1L B.range sx_int)) (by kernel_rfl) (gt_name (ea := eI) 6) (fun turn_56 => (sx_op o_addD (sx_VP (sx_op o_addD (sx_VP (sx_op o_addD (sx_VP (sx_op o_addD (sx_VP (sx_sl s_cutD (sx_VP (sx_var (enc := eD) 1 (a := value_1))) so_none (so_some (sx_var (enc := eI) 3 (a := t_41.1))))) (sx_VP (sx_sl s_cutD (sx_VP (sx_var (enc := eD) 1 (a := value_1))) (so_some (sx_var (enc := eI) 4 (a := t_45.1))) (so_some (sx_op o_add (sx_VP (sx_var (enc := eI) 4 (a := t_45.1))) (sx_VP sx_int))))))) (sx_VP (sx_sl s_cutD (sx_VP (sx_var (enc := eD) 1 (a := value_1))) (so_some (sx_op o_add (sx_VP (sx_var (enc := eI) 3 (a := t_41.1))) (sx_VP sx_int))) (so_some (sx_var (enc := eI) 4 (a := t_45.1))))))) (sx_VP (sx_sl s_cutD (sx_VP (sx_var (enc := eD) 1 (a := value_1))) (so_some (sx_var (enc := eI) 3 (a := t_41.1))) (so_some (sx_op o_add (sx_VP (sx_var (enc := eI) 3 (a := t_41.1))) (sx_VP sx_int))))))) (sx_VP (sx_sl s_cutD (sx_VP (sx_var (enc := eD) 1 (a := value_1))) (so_some (sx_op o_add (sx_VP (sx_var (enc := eI) 4 (a := t_45.1))) (sx_VP sx_int))) so_none))))) (fun _ => ⟨_, rfl⟩))) (fun _ => ⟨_, rfl⟩)) rfl))) (fun more_66 => (sj_nil (N := (fun (t : (List D)) => ([(some (.io q (eSt (t_45.2)))), (some (.sh (eD (value_1)))), none, (some (.sh (eI (t_41.1)))), (some (.sh (eI (t_45.1)))), (some (.sh ((eL eD) (t)))), none] : Rho))) more_66 (.k (.k (.d (.k (.k (.k (.d .nil))))))))) (fun _ => rfl)) (sj_nil (N := (fun (t : (List D)) => ([(some (.io q (eSt (t_45.2)))), (some (.sh (eD (value_1)))), none, (some (.sh (eI (t_41.1)))), (some (.sh (eI (t_45.1)))), (some (.sh ((eL eD) (t)))), none] : Rho))) more_54 (.k (.k (.d (.k (.k (.k (.d .nil))))))))) (fun t_67 => (ss_dead (s1_retE (ρs := (fun (s : Sta) => ([(some (.io q (eSt (s)))), (some (.sh (eD (value_1)))), none, (some (.sh (eI (t_41.1)))), (some (.sh (eI (t_45.1)))), (some (.sh ((eL eD) (t_67)))), none] : Rho))) (f := fun t => t) (t_45.2) (Ee.cast (m' := fun s => ((M_law_next ((t_67).length : Int) s).bind fun (t_68 : Int × Sta) => (idx (t_67) t_68.1).bind fun c => R.ok (c, t_68.2))) (ee_ix x_ixL (ee_V (fun s => (sx_var (enc := (eL eD)) 5 (a := t_67)))) (ee_c1 (f := M_law_next) 0 h__law_next (Nat.le_trans (show 1 ≤ 1 by decide) hk) (Lens.mk rs_io (fun _ => rfl) (fun _ _ => rfl)) (fun s => (sx_lenL B.len (sx_VP (sx_var (enc := (eL eD)) 5 (a := t_67))))))) (fun s => rfl)) (fun _ => rfl) (fun _ => .k .nil)))) (fun _ => rfl))) (fun _ => rfl))) (fun _ => rfl))) (fun _ => rfl)))))))) rfl
theorem df_law_changed {G : Pg} (B : Bi G) (Er : RaOk G) (Et : ErrOk G) (d : Def G "_law_changed" (topS 14) ["state", "value"]) (h__law_next : Df G 1 "_law_next" ["state", "limit"] (spI eSt (fun q : Int × Unit => ([eI q.1] : List D)) eI fun q => (M_law_next q.1))) : ∀ n : Nat, Df G (1 + n) "_law_changed" ["state", "value"] (spI eSt (fun q : D × Unit => ([eD q.1] : List D)) eD fun q => (M_law_changed n q.1))
  | 0 => df_noI d
  | n + 1 => df_law_changed_step B Er Et d h__law_next (Nat.le_add_right _ _) (df_law_changed B Er Et d h__law_next n)
theorem sc_law_ints : FnScope ["value", "found", "part", "number"] ["value"] (defScope (topS 15)) := ⟨rfl, rfl, rfl, by decide +kernel, rfl, by decide +kernel, by decide +kernel⟩
theorem df_law_ints_step {G : Pg} (B : Bi G) (Er : RaOk G) (Et : ErrOk G) (d : Def G "_law_ints" (topS 15) ["value"])   {rec : D → R (List Int)} {k : Nat} (hk : 0 ≤ k) (h_rec : Df G k "_law_ints" ["value"] (spP G.cls (fun q : D × Unit => [eD q.1]) (eL eI) fun q => (rec q.1))) : Df G (k + 1) "_law_ints" ["value"] (spP G.cls (fun q : D × Unit => [eD q.1]) (eL eI) fun q => ((fun (value_1 : D) => (if ((isA .bool (value_1)) || (!(isA .int (value_1) || isA .tuple (value_1)))) then R.ok ([] : List Int) else (if (isA .int (value_1)) then ((R.ofOpt (dI.dec (value_1))).bind fun (y_2 : Int) => R.ok ([y_2])) else ((R.ok ([] : List Int)).bind fun (found_3 : (List Int)) => (((R.ofOpt ((dT dD).dec (value_1))).bind fun (y_11 : (List D)) => (forR (fun (part_5 : D) (t_4 : (List Int)) => ((((rec (part_5)).bind fun (y_7 : (List Int)) => R.ok (List.map (fun (number_6 : Int) => number_6) (List.filter (fun (number_6 : Int) => (!decide ((number_6) ∈ (t_4)))) y_7))).bind fun (y_8 : (List Int)) => (catR (t_4) y_8)).bind fun (found_9 : (List Int)) => R.ok found_9)) y_11 found_3)).bind fun (t_10 : (List Int)) => R.ok (t_10)))))) q.1)) :=
  df_p (none) nofun d sc_law_ints (fun _ => rfl) <| fun a W => by
    obtain ⟨value_1, _u⟩ := a
    exact Ss.rho (ρ' := [(some (.sh (eD (value_1)))), none, none, none]) (m := (if ((isA .bool (value_1)) || (!(isA .int (value_1) || isA .tuple (value_1)))) then R.ok ([] : List Int) else (if (isA .int (value_1)) then ((R.ofOpt (dI.dec (value_1))).bind fun (y_2 : Int) => R.ok ([y_2])) else ((R.ok ([] : List Int)).bind fun (found_3 : (List Int)) => (((R.ofOpt ((dT dD).dec (value_1))).bind fun (y_11 : (List D)) => (forR (fun (part_5 : D) (t_4 : (List Int)) => ((((rec (part_5)).bind fun (y_7 : (List Int)) => R.ok (List.map (fun (number_6 : Int) => number_6) (List.filter (fun (number_6 : Int) => (!decide ((number_6) ∈ (t_4)))) y_7))).bind fun (y_8 : (List Int)) => (catR (t_4) y_8)).bind fun (found_9 : (List Int)) => R.ok found_9)) y_11 found_3)).bind fun (t_10 : (List Int)) => R.ok (t_10)))))) (ss_ifX (Tt.cast (tt_w (tw_orP (Tt.cast (tt_of (sx_isi .bool rfl B.isinstance B.bool (by decide +kernel) (sx_VP (sx_var (enc := eD) 0 (a := value_1))))) rfl) (tw_or1 (Tt.cast (tt_not (tt_of (sx_isi2 .int .tuple B.isinstance B.int (by decide +kernel) B.tuple (by decide +kernel) (sx_VP (sx_var (enc := eD) 0 (a := value_1)))))) rfl)))) rfl) (ss_dead (s1_ret0 (Sx.cast (sx_NV (sx_lst0 (e := eI)) (fun _ => ⟨_, rfl⟩)) rfl))) (ss_ifX (Tt.cast (tt_of (sx_isi .int rfl B.isinstance B.int (by decide +kernel) (sx_VP (sx_var (enc := eD) 0 (a := value_1))))) rfl) (ss_dead (s1_ret0 (Sx.cast (sx_NV (sx_lst1 (enc := (eL eI)) (fun a => [a]) (fun _ => rfl) (sx_dn dI (sx_var (enc := eD) 0 (a := value_1)))) (fun _ => ⟨_, rfl⟩)) rfl))) (ss_consL (N' := (fun (found_3 : (List Int)) => ([(some (.sh (eD (value_1)))), (some (.sh ((eL eI) (found_3)))), none, none] : Rho))) (s1_set 1 (Sx.cast (sx_NV (sx_lst0 (e := eI)) (fun _ => ⟨_, rfl⟩)) rfl)) (fun found_3 => (ss_consL (N' := (fun (t_10 : (List Int)) => ([(some (.sh (eD (value_1)))), (some (.sh ((eL eI) (t_10)))), none, none] : Rho))) (s1_forR' (L := (fun (t : (List Int)) => ([(some (.sh (eD (value_1)))), (some (.sh ((eL eI) (t)))), none, none] : Rho))) (t0 := found_3) (g := (fun (part_5 : D) (t_4 : (List Int)) => ((((rec (part_5)).bind fun (y_7 : (List Int)) => R.ok (List.map (fun (number_6 : Int) => number_6) (List.filter (fun (number_6 : Int) => (!decide ((number_6) ∈ (t_4)))) y_7))).bind fun (y_8 : (List Int)) => (catR (t_4) y_8)).bind fun (found_9 : (List Int)) => R.ok found_9))) (Si.cast (si_tup (sx_VP (sx_dn (dT dD) (sx_var (enc := eD) 0 (a := value_1))))) rfl) (gt_name (ea := eD) 2) (.k (.k (.d (.d .nil)))) (fun part_5 t_4 nx => Ss.rho (ρ' := [(some (.sh (eD (value_1)))), (some (.sh ((eL eI) (t_4)))), (some (.sh (eD (part_5)))), none]) (sj_consL (N' := (fun (found_9 : (List Int)) => ([(some (.sh (eD (value_1)))), (some (.sh ((eL eI) (found_9)))), (some (.sh (eD (part_5)))), none] : Rho))) (fun _ => (s1_set 1 (Sx.cast (sx_NV (sx_opP o_catL (sx_VP (sx_var (enc := (eL eI)) 1 (a := t_4))) (sx_NP (sx_lc2P (own := [("number", 3)]) (si_listP (sx_VP (sx_c1 (f := rec) h_rec (Nat.le_refl _) (sx_var (enc := eD) 2 (a := part_5))))) (by kernel_rfl) (gt_name (ea := eI) 3) (fun number_6 => Tt.cast (tt_cmp (o_notInL eqq_int) (sx_VP (sx_var (enc := eI) 3 (a := number_6))) (sx_VP (sx_var (enc := (eL eI)) 1 (a := t_4)))) rfl) (fun number_6 => (sx_var (enc := eI) 3 (a := number_6)))) (fun _ => ⟨_, rfl⟩))) (fun _ => ⟨_, rfl⟩)) rfl))) (fun found_9 => (sj_nil (N := (fun (t : (List Int)) => ([(some (.sh (eD (value_1)))), (some (.sh ((eL eI) (t)))), none, none] : Rho))) found_9 (.k (.k (.d (.d .nil)))))) (fun _ => rfl)) rfl)) (fun t_10 => (ss_dead (s1_ret0 (Sx.cast (sx_var (enc := (eL eI)) 1 (a := t_10)) rfl)))) (fun _ => rfl))) (fun _ => rfl)))) rfl
theorem df_law_ints {G : Pg} (B : Bi G) (Er : RaOk G) (Et : ErrOk G) (d : Def G "_law_ints" (topS 15) ["value"])  : ∀ n : Nat, Df G (0 + n) "_law_ints" ["value"] (spP G.cls (fun q : D × Unit => [eD q.1]) (eL eI) fun q => (M_law_ints n q.1))
  | 0 => df_noP d
  | n + 1 => df_law_ints_step B Er Et d  (Nat.le_add_right _ _) (df_law_ints B Er Et d  n)
theorem sc_law_exchanged : FnScope ["value", "one", "other", "part"] ["value", "one", "other"] (defScope (topS 16)) := ⟨rfl, rfl, rfl, by decide +kernel, rfl, by decide +kernel, by decide +kernel⟩
theorem df_law_exchanged_step {G : Pg} (B : Bi G) (Er : RaOk G) (Et : ErrOk G) (d : Def G "_law_exchanged" (topS 16) ["value", "one", "other"])   {rec : D → Int → Int → R D} {k : Nat} (hk : 0 ≤ k) (h_rec : Df G k "_law_exchanged" ["value", "one", "other"] (spP G.cls (fun q : D × Int × Int × Unit => [eD q.1, eI q.2.1, eI q.2.2.1]) eD fun q => (rec q.1 q.2.1 q.2.2.1))) : Df G (k + 1) "_law_exchanged" ["value", "one", "other"] (spP G.cls (fun q : D × Int × Int × Unit => [eD q.1, eI q.2.1, eI q.2.2.1]) eD fun q => ((fun (value_1 : D) (one_2 : Int) (other_3 : Int) => (if ((isA .bool (value_1)) || (!(isA .int (value_1) || isA .tuple (value_1)))) then R.ok (value_1) else (if (isA .int (value_1)) then ((eqR (value_1) (eI (one_2))).bind fun t => if t then (R.ok (eI (other_3))) else ((eqR (value_1) (eI (other_3))).bind fun t => if t then (R.ok (eI (one_2))) else (R.ok value_1))) else ((((R.ofOpt ((dT dD).dec (value_1))).bind fun (y_5 : (List D)) => (R.mapM (fun (part_4 : D) => (rec (part_4) (one_2) (other_3))) y_5)).bind fun (y_6 : (List D)) => R.ok (y_6)).bind fun a => R.ok ((eT eD) a))))) q.1 q.2.1 q.2.2.1)) :=
  df_p (none) nofun d sc_law_exchanged (fun _ => rfl) <| fun a W => by
    obtain ⟨value_1, one_2, other_3, _u⟩ := a
    exact Ss.rho (ρ' := [(some (.sh (eD (value_1)))), (some (.sh (eI (one_2)))), (some (.sh (eI (other_3)))), none]) (m := (if ((isA .bool (value_1)) || (!(isA .int (value_1) || isA .tuple (value_1)))) then R.ok (value_1) else (if (isA .int (value_1)) then ((eqR (value_1) (eI (one_2))).bind fun t => if t then (R.ok (eI (other_3))) else ((eqR (value_1) (eI (other_3))).bind fun t => if t then (R.ok (eI (one_2))) else (R.ok value_1))) else ((((R.ofOpt ((dT dD).dec (value_1))).bind fun (y_5 : (List D)) => (R.mapM (fun (part_4 : D) => (rec (part_4) (one_2) (other_3))) y_5)).bind fun (y_6 : (List D)) => R.ok (y_6)).bind fun a => R.ok ((eT eD) a))))) (ss_ifX (Tt.cast (tt_w (tw_orP (Tt.cast (tt_of (sx_isi .bool rfl B.isinstance B.bool (by decide +kernel) (sx_VP (sx_var (enc := eD) 0 (a := value_1))))) rfl) (tw_or1 (Tt.cast (tt_not (tt_of (sx_isi2 .int .tuple B.isinstance B.int (by decide +kernel) B.tuple (by decide +kernel) (sx_VP (sx_var (enc := eD) 0 (a := value_1)))))) rfl)))) rfl) (ss_dead (s1_ret0 (Sx.cast (sx_var (enc := eD) 0 (a := value_1)) rfl))) (ss_ifX (Tt.cast (tt_of (sx_isi .int rfl B.isinstance B.int (by decide +kernel) (sx_VP (sx_var (enc := eD) 0 (a := value_1))))) rfl) (ss_dead (s1_ret0 (Sx.cast (sx_if (tt_cmp o_eqD (sx_VP (sx_var (enc := eD) 0 (a := value_1))) (sx_VP (sx_upD (sx_var (enc := eI) 1 (a := one_2))))) (sx_upD (sx_var (enc := eI) 2 (a := other_3))) (sx_if (tt_cmp o_eqD (sx_VP (sx_var (enc := eD) 0 (a := value_1))) (sx_VP (sx_upD (sx_var (enc := eI) 2 (a := other_3))))) (sx_upD (sx_var (enc := eI) 1 (a := one_2))) (sx_var (enc := eD) 0 (a := value_1)))) rfl))) (ss_dead (s1_ret0 (Sx.cast (sx_upD (sx_t1 c_tupL B.tuple (by decide +kernel) (sx_NP (sx_lc1 (own := [("part", 3)]) (si_st (si_tup (sx_VP (sx_dn (dT dD) (sx_var (enc := eD) 0 (a := value_1)))))) (by kernel_rfl) (gt_name (ea := eD) 3) (fun part_4 => (sx_c3 (f := rec) h_rec (Nat.le_refl _) (sx_var (enc := eD) 3 (a := part_4)) (sx_var (enc := eI) 1 (a := one_2)) (sx_var (enc := eI) 2 (a := other_3))))) (fun _ => ⟨_, rfl⟩)))) rfl))))) rfl
theorem df_law_exchanged {G : Pg} (B : Bi G) (Er : RaOk G) (Et : ErrOk G) (d : Def G "_law_exchanged" (topS 16) ["value", "one", "other"])  : ∀ n : Nat, Df G (0 + n) "_law_exchanged" ["value", "one", "other"] (spP G.cls (fun q : D × Int × Int × Unit => [eD q.1, eI q.2.1, eI q.2.2.1]) eD fun q => (M_law_exchanged n q.1 q.2.1 q.2.2.1))
  | 0 => df_noP d
  | n + 1 => df_law_exchanged_step B Er Et d  (Nat.le_add_right _ _) (df_law_exchanged B Er Et d  n)
theorem sc_law_cut : FnScope ["state", "value", "k", "at", "ways", "part"] ["state", "value"] (defScope (topS 17)) := ⟨rfl, rfl, rfl, by decide +kernel, rfl, by decide +kernel, by decide +kernel⟩
theorem df_law_cut_step {G : Pg} (B : Bi G) (Er : RaOk G) (Et : ErrOk G) (d : Def G "_law_cut" (topS 17) ["state", "value"]) {M_law_next : Int → Sta → R (Int × Sta)} (h__law_next : Df G 1 "_law_next" ["state", "limit"] (spI eSt (fun q : Int × Unit => ([eI q.1] : List D)) eI fun q => (M_law_next q.1))) {rec : D → Sta → R (D × Sta)} {k : Nat} (hk : 1 ≤ k) (h_rec : Df G k "_law_cut" ["state", "value"] (spI eSt (fun q : D × Unit => ([eD q.1] : List D)) eD fun q => (rec q.1))) : Df G (k + 1) "_law_cut" ["state", "value"] (spI eSt (fun q : D × Unit => ([eD q.1] : List D)) eD fun q => ((fun (value_1 : D) (s_2 : Sta) => ((if (!(isA .tuple (value_1))) then R.ok true else (eqR (value_1) ((eT eD) ([] : List D)))).bind fun t => if t then R.ok (value_1, s_2) else (((((R.ofOpt ((dT dD).dec (value_1))).bind fun (y_4 : (List D)) => R.ok (List.map (fun (part_3 : D) => part_3) (List.filter (fun (part_3 : D) => (!(isA .str (part_3)))) y_4))).bind fun a => R.ok ((eL eD) a)).bind fun (y_5 : D) => (neR y_5 ((eL eD) ([] : List D)))).bind fun t => if t then (((lenD (value_1)).bind fun (y_8 : Int) => (M_law_next y_8 (s_2))).cb fun (t_6 : (Int × Sta)) => (((((cutD (value_1) none (some (t_6.1))).bind fun a => R.ok (a, (t_6.2))).bind fun (t_18 : D × Sta) => (((((idxD (value_1) (t_6.1)).bind fun (y_22 : D) => (rec y_22 t_18.2)).bind fun t_20 => (R.ok ((), t_20.2)).bind fun u_21 => R.ok ((t_20.1, u_21.1), u_21.2)).bind fun t => R.ok ((fun (q : D × Unit) => [q.1]) t.1, t.2)).bind fun t => R.ok ((eT eD) t.1, t.2)).bind fun (t_19 : D × Sta) => (addD t_18.1 t_19.1).bind fun c => R.ok (c, t_19.2)).bind fun (t_17 : D × Sta) => ((cutD (value_1) (some ((t_6.1) + (1 : Int))) none).bind fun a => R.ok (a, t_17.2)).bind fun (t_23 : D × Sta) => (addD t_17.1 t_23.1).bind fun c => R.ok (c, t_23.2)).cb fun t => R.ok t)) else (((lenD (value_1)).bind fun (y_26 : Int) => (M_law_next y_26 (s_2))).cb fun (t_24 : (Int × Sta)) => (((((idxD (value_1) (t_24.1)).bind fun (y_27 : D) => (lenD y_27)).bind fun (y_28 : Int) => R.ok (y_28 + (1 : Int))).bind fun (y_31 : Int) => (M_law_next y_31 (t_24.2))).cb fun (t_29 : (Int × Sta)) => (((((cutD (value_1) none (some (t_24.1))).bind fun (y_36 : D) => ((((idxD (value_1) (t_24.1)).bind fun (y_32 : D) => (cutD y_32 none (some (t_29.1)))).bind fun (y_34 : D) => ((idxD (value_1) (t_24.1)).bind fun (y_33 : D) => (cutD y_33 (some (t_29.1)) none)).bind fun (y_35 : D) => R.ok ([y_34, y_35])).bind fun a => R.ok ((eT eD) a)).bind fun (y_37 : D) => (addD y_36 y_37)).bind fun (y_38 : D) => (cutD (value_1) (some ((t_24.1) + (1 : Int))) none).bind fun (y_39 : D) => (addD y_38 y_39)).bind fun (y_46 : D) => (((cutD (value_1) none (some (t_24.1))).bind fun (y_42 : D) => (((((cutD (value_1) (some (t_24.1)) (some ((t_24.1) + (2 : Int)))).bind fun a => R.ofOpt ((dT dS).dec a)).bind fun (y_40 : (List Str)) => (joinR ("" : Str) y_40)).bind fun (y_41 : Str) => R.ok ([y_41])).bind fun a => R.ok ((eT eS) a)).bind fun (y_43 : D) => (addD y_42 y_43)).bind fun (y_44 : D) => (cutD (value_1) (some ((t_24.1) + (2 : Int))) none).bind fun (y_45 : D) => (addD y_44 y_45)).bind fun (y_47 : D) => R.ok ([y_46, y_47])).bind fun (ways_48 : (List D)) => (((R.seq [((((R.ofOpt ((dT dS).dec (value_1))).bind fun (y_49 : (List Str)) => (joinR ("" : Str) y_49)).bind fun (y_50 : Str) => R.ok ([y_50])).bind fun a => R.ok ((eT eS) a)), ((((R.ofOpt ((dT dS).dec (value_1))).bind fun (y_51 : (List Str)) => (joinR ("" : Str) y_51)).bind fun (y_52 : Str) => (sgnR y_52)).bind fun a => R.ok ((eT eS) a)), (((cutD (value_1) none (some (t_24.1))).bind fun (y_53 : D) => (addD y_53 ((eT eS) ([("" : Str)])))).bind fun (y_54 : D) => (cutD (value_1) (some (t_24.1)) none).bind fun (y_55 : D) => (addD y_54 y_55)), (((cutD (value_1) none (some (t_24.1))).bind fun (y_57 : D) => ((cutD (value_1) (some (t_24.1)) (some ((t_24.1) + (2 : Int)))).bind fun (y_56 : D) => (revD y_56)).bind fun (y_58 : D) => (addD y_57 y_58)).bind fun (y_59 : D) => (cutD (value_1) (some ((t_24.1) + (2 : Int))) none).bind fun (y_60 : D) => (addD y_59 y_60))]).bind fun (y_61 : (List D)) => (catR (ways_48) y_61)).bind fun (ways_62 : (List D)) => (((M_law_next ((ways_62).length : Int) (t_29.2)).bind fun (t_64 : Int × Sta) => (idx (ways_62) t_64.1).bind fun c => R.ok (c, t_64.2)).cb fun t => R.ok t)))))))) q.1)) :=
  df_i d sc_law_cut (fun _ => rfl) <| fun a s_2 q W => by
    obtain ⟨value_1, _u⟩ := a
    exact Ss.rho (ρ' := [(some (.io q (eSt (s_2)))), (some (.sh (eD (value_1)))), none, none, none, none]) (m := ((if (!(isA .tuple (value_1))) then R.ok true else (eqR (value_1) ((eT eD) ([] : List D)))).bind fun t => if t then R.ok (value_1, s_2) else (((((R.ofOpt ((dT dD).dec (value_1))).bind fun (y_4 : (List D)) => R.ok (List.map (fun (part_3 : D) => part_3) (List.filter (fun (part_3 : D) => (!(isA .str (part_3)))) y_4))).bind fun a => R.ok ((eL eD) a)).bind fun (y_5 : D) => (neR y_5 ((eL eD) ([] : List D)))).bind fun t => if t then (((lenD (value_1)).bind fun (y_8 : Int) => (M_law_next y_8 (s_2))).cb fun (t_6 : (Int × Sta)) => (((((cutD (value_1) none (some (t_6.1))).bind fun a => R.ok (a, (t_6.2))).bind fun (t_18 : D × Sta) => (((((idxD (value_1) (t_6.1)).bind fun (y_22 : D) => (rec y_22 t_18.2)).bind fun t_20 => (R.ok ((), t_20.2)).bind fun u_21 => R.ok ((t_20.1, u_21.1), u_21.2)).bind fun t => R.ok ((fun (q : D × Unit) => [q.1]) t.1, t.2)).bind fun t => R.ok ((eT eD) t.1, t.2)).bind fun (t_19 : D × Sta) => (addD t_18.1 t_19.1).bind fun c => R.ok (c, t_19.2)).bind fun (t_17 : D × Sta) => ((cutD (value_1) (some ((t_6.1) + (1 : Int))) none).bind fun a => R.ok (a, t_17.2)).bind fun (t_23 : D × Sta) => (addD t_17.1 t_23.1).bind fun c => R.ok (c, t_23.2)).cb fun t => R.ok t)) else (((lenD (value_1)).bind fun (y_26 : Int) => (M_law_next y_26 (s_2))).cb fun (t_24 : (Int × Sta)) => (((((idxD (value_1) (t_24.1)).bind fun (y_27 : D) => (lenD y_27)).bind fun (y_28 : Int) => R.ok (y_28 + (1 : Int))).bind fun (y_31 : Int) => (M_law_next y_31 (t_24.2))).cb fun (t_29 : (Int × Sta)) => (((((cutD (value_1) none (some (t_24.1))).bind fun (y_36 : D) => ((((idxD (value_1) (t_24.1)).bind fun (y_32 : D) => (cutD y_32 none (some (t_29.1)))).bind fun (y_34 : D) => ((idxD (value_1) (t_24.1)).bind fun (y_33 : D) => (cutD y_33 (some (t_29.1)) none)).bind fun (y_35 : D) => R.ok ([y_34, y_35])).bind fun a => R.ok ((eT eD) a)).bind fun (y_37 : D) => (addD y_36 y_37)).bind fun (y_38 : D) => (cutD (value_1) (some ((t_24.1) + (1 : Int))) none).bind fun (y_39 : D) => (addD y_38 y_39)).bind fun (y_46 : D) => (((cutD (value_1) none (some (t_24.1))).bind fun (y_42 : D) => (((((cutD (value_1) (some (t_24.1)) (some ((t_24.1) + (2 : Int)))).bind fun a => R.ofOpt ((dT dS).dec a)).bind fun (y_40 : (List Str)) => (joinR ("" : Str) y_40)).bind fun (y_41 : Str) => R.ok ([y_41])).bind fun a => R.ok ((eT eS) a)).bind fun (y_43 : D) => (addD y_42 y_43)).bind fun (y_44 : D) => (cutD (value_1) (some ((t_24.1) + (2 : Int))) none).bind fun (y_45 : D) => (addD y_44 y_45)).bind fun (y_47 : D) => R.ok ([y_46, y_47])).bind fun (ways_48 : (List D)) => (((R.seq [((((R.ofOpt ((dT dS).dec (value_1))).bind fun (y_49 : (List Str)) => (joinR ("" : Str) y_49)).bind fun (y_50 : Str) => R.ok ([y_50])).bind fun a => R.ok ((eT eS) a)), ((((R.ofOpt ((dT dS).dec (value_1))).bind fun (y_51 : (List Str)) => (joinR ("" : Str) y_51)).bind fun (y_52 : Str) => (sgnR y_52)).bind fun a => R.ok ((eT eS) a)), (((cutD (value_1) none (some (t_24.1))).bind fun (y_53 : D) => (addD y_53 ((eT eS) ([("" : Str)])))).bind fun (y_54 : D) => (cutD (value_1) (some (t_24.1)) none).bind fun (y_55 : D) => (addD y_54 y_55)), (((cutD (value_1) none (some (t_24.1))).bind fun (y_57 : D) => ((cutD (value_1) (some (t_24.1)) (some ((t_24.1) + (2 : Int)))).bind fun (y_56 : D) => (revD y_56)).bind fun (y_58 : D) => (addD y_57 y_58)).bind fun (y_59 : D) => (cutD (value_1) (some ((t_24.1) + (2 : Int))) none).bind fun (y_60 : D) => (addD y_59 y_60))]).bind fun (y_61 : (List D)) => (catR (ways_48) y_61)).bind fun (ways_62 : (List D)) => (((M_law_next ((ways_62).length : Int) (t_29.2)).bind fun (t_64 : Int × Sta) => (idx (ways_62) t_64.1).bind fun c => R.ok (c, t_64.2)).cb fun t => R.ok t)))))))) (ss_ifX (Tt.cast (tt_w (tw_or (tt_not (tt_of (sx_isi .tuple rfl B.isinstance B.tuple (by decide +kernel) (sx_VP (sx_var (enc := eD) 1 (a := value_1)))))) (tw_or1 (tt_cmp o_eqD (sx_VP (sx_var (enc := eD) 1 (a := value_1))) (sx_VP (sx_upD (sx_tup0 (e := eD)))))))) rfl) (ss_dead (s1_ret (f := fun a => (a, s_2)) (sx_var (enc := eD) 1 (a := value_1)) (fun _ => rfl) (fun _ => .k .nil))) (ss_ifX (Tt.cast (tt_cmp o_neD (sx_VP (sx_upD (sx_NV (sx_lc2P (own := [("part", 5)]) (si_st (si_tup (sx_VP (sx_dn (dT dD) (sx_var (enc := eD) 1 (a := value_1)))))) (by kernel_rfl) (gt_name (ea := eD) 5) (fun part_3 => Tt.cast (tt_not (tt_of (sx_isi .str rfl B.isinstance B.str (by decide +kernel) (sx_VP (sx_var (enc := eD) 5 (a := part_3)))))) rfl) (fun part_3 => (sx_var (enc := eD) 5 (a := part_3)))) (fun _ => ⟨_, rfl⟩)))) (sx_VP (sx_upD (sx_NV (sx_lst0 (e := eD)) (fun _ => ⟨_, rfl⟩))))) rfl) (ss_consL (N' := (fun (t_6 : (Int × Sta)) => ([(some (.io q (eSt (t_6.2)))), (some (.sh (eD (value_1)))), (some (.sh (eI (t_6.1)))), none, none, none] : Rho))) (s1_setE (ρs := (fun (s : Sta) => ([(some (.io q (eSt (s)))), (some (.sh (eD (value_1)))), none, none, none, none] : Rho))) 2 (s_2) (Ee.cast (m' := fun s => ((lenD (value_1)).bind fun (y_7 : Int) => (M_law_next y_7 s))) (ee_c1 (f := M_law_next) 0 h__law_next (Nat.le_trans (show 1 ≤ 1 by decide) hk) (Lens.mk rs_io (fun _ => rfl) (fun _ _ => rfl)) (fun s => (sx_lenD B.len (sx_VP (sx_var (enc := eD) 1 (a := value_1)))))) (fun s => rfl))) (fun t_6 => (ss_dead (s1_retE (ρs := (fun (s : Sta) => ([(some (.io q (eSt (s)))), (some (.sh (eD (value_1)))), (some (.sh (eI (t_6.1)))), none, none, none] : Rho))) (f := fun t => t) (t_6.2) (Ee.cast (m' := fun s => ((((cutD (value_1) none (some (t_6.1))).bind fun a => R.ok (a, s)).bind fun (t_11 : D × Sta) => (((((idxD (value_1) (t_6.1)).bind fun (y_15 : D) => (rec y_15 t_11.2)).bind fun t_13 => (R.ok ((), t_13.2)).bind fun u_14 => R.ok ((t_13.1, u_14.1), u_14.2)).bind fun t => R.ok ((fun (q : D × Unit) => [q.1]) t.1, t.2)).bind fun t => R.ok ((eT eD) t.1, t.2)).bind fun (t_12 : D × Sta) => (addD t_11.1 t_12.1).bind fun c => R.ok (c, t_12.2)).bind fun (t_10 : D × Sta) => ((cutD (value_1) (some ((t_6.1) + (1 : Int))) none).bind fun a => R.ok (a, t_10.2)).bind fun (t_16 : D × Sta) => (addD t_10.1 t_16.1).bind fun c => R.ok (c, t_16.2))) (ee_op o_addD (ee_op o_addD (ee_V (fun s => (sx_sl s_cutD (sx_VP (sx_var (enc := eD) 1 (a := value_1))) so_none (so_some (sx_var (enc := eI) 2 (a := t_6.1)))))) (ee_upD (ee_tup (ed := (eT eD)) (fun (q : D × Unit) => [q.1]) 1 (by decide) (fun _ => rfl) (fun _ => rfl) (ae_cons (ee_c1 (f := rec) 0 h_rec (Nat.le_refl _) (Lens.mk rs_io (fun _ => rfl) (fun _ _ => rfl)) (fun s => (sx_ix x_ixD (sx_VP (sx_var (enc := eD) 1 (a := value_1))) (sx_VP (sx_var (enc := eI) 2 (a := t_6.1)))))) ae_nil)))) (ee_V (fun s => (sx_sl s_cutD (sx_VP (sx_var (enc := eD) 1 (a := value_1))) (so_some (sx_op o_add (sx_VP (sx_var (enc := eI) 2 (a := t_6.1))) (sx_VP sx_int))) so_none)))) (fun s => rfl)) (fun _ => rfl) (fun _ => .k .nil)))) (fun _ => rfl)) (ss_consL (N' := (fun (t_24 : (Int × Sta)) => ([(some (.io q (eSt (t_24.2)))), (some (.sh (eD (value_1)))), (some (.sh (eI (t_24.1)))), none, none, none] : Rho))) (s1_setE (ρs := (fun (s : Sta) => ([(some (.io q (eSt (s)))), (some (.sh (eD (value_1)))), none, none, none, none] : Rho))) 2 (s_2) (Ee.cast (m' := fun s => ((lenD (value_1)).bind fun (y_25 : Int) => (M_law_next y_25 s))) (ee_c1 (f := M_law_next) 0 h__law_next (Nat.le_trans (show 1 ≤ 1 by decide) hk) (Lens.mk rs_io (fun _ => rfl) (fun _ _ => rfl)) (fun s => (sx_lenD B.len (sx_VP (sx_var (enc := eD) 1 (a := value_1)))))) (fun s => rfl))) (fun t_24 => (ss_consL (N' := (fun (t_29 : (Int × Sta)) => ([(some (.io q (eSt (t_29.2)))), (some (.sh (eD (value_1)))), (some (.sh (eI (t_24.1)))), (some (.sh (eI (t_29.1)))), none, none] : Rho))) (s1_setE (ρs := (fun (s : Sta) => ([(some (.io q (eSt (s)))), (some (.sh (eD (value_1)))), (some (.sh (eI (t_24.1)))), none, none, none] : Rho))) 3 (t_24.2) (Ee.cast (m' := fun s => ((((idxD (value_1) (t_24.1)).bind fun (y_27 : D) => (lenD y_27)).bind fun (y_28 : Int) => R.ok (y_28 + (1 : Int))).bind fun (y_30 : Int) => (M_law_next y_30 s))) (ee_c1 (f := M_law_next) 0 h__law_next (Nat.le_trans (show 1 ≤ 1 by decide) hk) (Lens.mk rs_io (fun _ => rfl) (fun _ _ => rfl)) (fun s => (sx_op o_add (sx_VP (sx_lenD B.len (sx_VP (sx_ix x_ixD (sx_VP (sx_var (enc := eD) 1 (a := value_1))) (sx_VP (sx_var (enc := eI) 2 (a := t_24.1))))))) (sx_VP sx_int)))) (fun s => rfl))) (fun t_29 => (ss_consL (N' := (fun (ways_48 : (List D)) => ([(some (.io q (eSt (t_29.2)))), (some (.sh (eD (value_1)))), (some (.sh (eI (t_24.1)))), (some (.sh (eI (t_29.1)))), (some (.sh ((eL eD) (ways_48)))), none] : Rho))) (s1_set 4 (Sx.cast (sx_NV (sx_lst2 (enc := (eL eD)) (fun a b => [a, b]) (fun _ _ => rfl) (sx_op o_addD (sx_VP (sx_op o_addD (sx_VP (sx_sl s_cutD (sx_VP (sx_var (enc := eD) 1 (a := value_1))) so_none (so_some (sx_var (enc := eI) 2 (a := t_24.1))))) (sx_VP (sx_upD (sx_tup2 (enc := (eT eD)) (fun a b => [a, b]) (fun _ _ => rfl) (sx_sl s_cutD (sx_VP (sx_ix x_ixD (sx_VP (sx_var (enc := eD) 1 (a := value_1))) (sx_VP (sx_var (enc := eI) 2 (a := t_24.1))))) so_none (so_some (sx_var (enc := eI) 3 (a := t_29.1)))) (sx_sl s_cutD (sx_VP (sx_ix x_ixD (sx_VP (sx_var (enc := eD) 1 (a := value_1))) (sx_VP (sx_var (enc := eI) 2 (a := t_24.1))))) (so_some (sx_var (enc := eI) 3 (a := t_29.1))) so_none)))))) (sx_VP (sx_sl s_cutD (sx_VP (sx_var (enc := eD) 1 (a := value_1))) (so_some (sx_op o_add (sx_VP (sx_var (enc := eI) 2 (a := t_24.1))) (sx_VP sx_int))) so_none))) (sx_op o_addD (sx_VP (sx_op o_addD (sx_VP (sx_sl s_cutD (sx_VP (sx_var (enc := eD) 1 (a := value_1))) so_none (so_some (sx_var (enc := eI) 2 (a := t_24.1))))) (sx_VP (sx_upD (sx_tup1 (enc := (eT eS)) (fun a => [a]) (fun _ => rfl) (sx_join (.inl (sx_VP (sx_dn (dT dS) (sx_sl s_cutD (sx_VP (sx_var (enc := eD) 1 (a := value_1))) (so_some (sx_var (enc := eI) 2 (a := t_24.1))) (so_some (sx_op o_add (sx_VP (sx_var (enc := eI) 2 (a := t_24.1))) (sx_VP sx_int))))))))))))) (sx_VP (sx_sl s_cutD (sx_VP (sx_var (enc := eD) 1 (a := value_1))) (so_some (sx_op o_add (sx_VP (sx_var (enc := eI) 2 (a := t_24.1))) (sx_VP sx_int))) so_none)))) (fun _ => ⟨_, rfl⟩)) rfl)) (fun ways_48 => (ss_consL (N' := (fun (ways_62 : (List D)) => ([(some (.io q (eSt (t_29.2)))), (some (.sh (eD (value_1)))), (some (.sh (eI (t_24.1)))), (some (.sh (eI (t_29.1)))), (some (.sh ((eL eD) (ways_62)))), none] : Rho))) (s1_set 4 (Sx.cast (sx_NV (sx_opP o_catL (sx_VP (sx_var (enc := (eL eD)) 4 (a := ways_48))) (sx_NP (sx_lstM (hn := Nat.le_of_ble_eq_true rfl) (h := (sa_seq (sx_upD (sx_tup1 (enc := (eT eS)) (fun a => [a]) (fun _ => rfl) (sx_join (.inl (sx_VP (sx_dn (dT dS) (sx_var (enc := eD) 1 (a := value_1)))))))) (sa_seq (sx_upD (sx_t1 c_tupS B.tuple (by decide +kernel) (sx_VP (sx_join (.inl (sx_VP (sx_dn (dT dS) (sx_var (enc := eD) 1 (a := value_1))))))))) (sa_seq (sx_op o_addD (sx_VP (sx_op o_addD (sx_VP (sx_sl s_cutD (sx_VP (sx_var (enc := eD) 1 (a := value_1))) so_none (so_some (sx_var (enc := eI) 2 (a := t_24.1))))) (sx_VP (sx_upD (sx_tup1 (enc := (eT eS)) (fun a => [a]) (fun _ => rfl) sx_str))))) (sx_VP (sx_sl s_cutD (sx_VP (sx_var (enc := eD) 1 (a := value_1))) (so_some (sx_var (enc := eI) 2 (a := t_24.1))) so_none))) (sa_seq (sx_op o_addD (sx_VP (sx_op o_addD (sx_VP (sx_sl s_cutD (sx_VP (sx_var (enc := eD) 1 (a := value_1))) so_none (so_some (sx_var (enc := eI) 2 (a := t_24.1))))) (sx_VP (sx_back bk_D (sx_VP (sx_sl s_cutD (sx_VP (sx_var (enc := eD) 1 (a := value_1))) (so_some (sx_var (enc := eI) 2 (a := t_24.1))) (so_some (sx_op o_add (sx_VP (sx_var (enc := eI) 2 (a := t_24.1))) (sx_VP sx_int))))))))) (sx_VP (sx_sl s_cutD (sx_VP (sx_var (enc := eD) 1 (a := value_1))) (so_some (sx_op o_add (sx_VP (sx_var (enc := eI) 2 (a := t_24.1))) (sx_VP sx_int))) so_none))) sa_nil)))))) (fun _ => ⟨_, rfl⟩))) (fun _ => ⟨_, rfl⟩)) rfl)) (fun ways_62 => (ss_dead (s1_retE (ρs := (fun (s : Sta) => ([(some (.io q (eSt (s)))), (some (.sh (eD (value_1)))), (some (.sh (eI (t_24.1)))), (some (.sh (eI (t_29.1)))), (some (.sh ((eL eD) (ways_62)))), none] : Rho))) (f := fun t => t) (t_29.2) (Ee.cast (m' := fun s => ((M_law_next ((ways_62).length : Int) s).bind fun (t_63 : Int × Sta) => (idx (ways_62) t_63.1).bind fun c => R.ok (c, t_63.2))) (ee_ix x_ixL (ee_V (fun s => (sx_var (enc := (eL eD)) 4 (a := ways_62)))) (ee_c1 (f := M_law_next) 0 h__law_next (Nat.le_trans (show 1 ≤ 1 by decide) hk) (Lens.mk rs_io (fun _ => rfl) (fun _ _ => rfl)) (fun s => (sx_lenL B.len (sx_VP (sx_var (enc := (eL eD)) 4 (a := ways_62))))))) (fun s => rfl)) (fun _ => rfl) (fun _ => .k .nil)))) (fun _ => rfl))) (fun _ => rfl))) (fun _ => rfl))) (fun _ => rfl)))) rfl
theorem df_law_cut {G : Pg} (B : Bi G) (Er : RaOk G) (Et : ErrOk G) (d : Def G "_law_cut" (topS 17) ["state", "value"]) (h__law_next : Df G 1 "_law_next" ["state", "limit"] (spI eSt (fun q : Int × Unit => ([eI q.1] : List D)) eI fun q => (M_law_next q.1))) : ∀ n : Nat, Df G (1 + n) "_law_cut" ["state", "value"] (spI eSt (fun q : D × Unit => ([eD q.1] : List D)) eD fun q => (M_law_cut n q.1))
  | 0 => df_noI d
  | n + 1 => df_law_cut_step B Er Et d h__law_next (Nat.le_add_right _ _) (df_law_cut B Er Et d h__law_next n)
theorem sc_law_turned_about : FnScope ["state", "told", "numbers", "pick", "one", "other", "k", "j", "part"] ["state", "told"] (defScope (topS 18)) := ⟨rfl, rfl, rfl, by decide +kernel, rfl, by decide +kernel, by decide +kernel⟩
theorem df_law_turned_about_v {G : Pg} (B : Bi G) (Er : RaOk G) (Et : ErrOk G) (d : Def G "_law_turned_about" (topS 18) ["state", "told"]) {M_law_next : Int → Sta → R (Int × Sta)} {M_law_ints : Nat → D → R (List Int)} {M_law_exchanged : Nat → D → Int → Int → R D} {M_law_cut : Nat → D → Sta → R (D × Sta)} (h__law_next : Df G 1 "_law_next" ["state", "limit"] (spI eSt (fun q : Int × Unit => ([eI q.1] : List D)) eI fun q => (M_law_next q.1))) (h__law_ints : Df G 8 "_law_ints" ["value"] (spP G.cls (fun q : D × Unit => [eD q.1]) (eL eI) fun q => (M_law_ints 8 q.1))) (h__law_exchanged : Df G 8 "_law_exchanged" ["value", "one", "other"] (spP G.cls (fun q : D × Int × Int × Unit => [eD q.1, eI q.2.1, eI q.2.2.1]) eD fun q => (M_law_exchanged 8 q.1 q.2.1 q.2.2.1))) (h__law_cut : Df G 9 "_law_cut" ["state", "value"] (spI eSt (fun q : D × Unit => ([eD q.1] : List D)) eD fun q => (M_law_cut 8 q.1))) : Df G 10 "_law_turned_about" ["state", "told"] (spI eSt (fun q : D × Unit => ([eD q.1] : List D)) eD fun q => ((fun (told_1 : D) (s_2 : Sta) => ((M_law_ints 8 (told_1)).bind fun (numbers_3 : (List Int)) => ((M_law_next (5 : Int) (s_2)).cb fun (t_4 : (Int × Sta)) => (if ((decide ((t_4.1) < (3 : Int))) && (!decide ((numbers_3) = ([] : List Int)))) then (((M_law_next ((numbers_3).length : Int) (t_4.2)).bind fun (t_7 : Int × Sta) => (idx (numbers_3) t_7.1).bind fun c => R.ok (c, t_7.2)).cb fun (t_5 : (Int × Sta)) => ((if (decide ((t_4.1) = (0 : Int))) then (R.ok (((t_5.1) + (1 : Int)), (t_5.2))) else ((M_law_next ((numbers_3).length : Int) (t_5.2)).bind fun (t_10 : Int × Sta) => (idx (numbers_3) t_10.1).bind fun c => R.ok (c, t_10.2))).cb fun (t_8 : (Int × Sta)) => ((M_law_exchanged 8 (told_1) (t_5.1) (t_8.1)).bind fun a => R.ok (a, t_8.2)))) else (if (decide ((t_4.1) = (3 : Int))) then ((((cutD (told_1) none (some (1 : Int))).bind fun a => R.ok (a, (t_4.2))).bind fun (t_19 : D × Sta) => ((((lenD (told_1)).bind fun (y_11 : Int) => R.ok (decide ((2 : Int) < y_11))).bind fun c => R.ok (c, t_19.2)).bind fun t => if t.1 then ((cutD (told_1) (some (1 : Int)) none).bind fun (y_21 : D) => (M_law_cut 8 y_21 t.2)) else ((((((cutD (told_1) (some (1 : Int)) none).bind fun a => R.ofOpt ((dT dD).dec a)).bind fun a => R.ok (a, t.2)).bind fun t => R.mapMS (fun (part_12 : D) (s_13 : Sta) => (M_law_cut 8 (part_12) s_13)) t.1 t.2).bind fun (t_22 : (List D) × Sta) => R.ok (t_22.1, t_22.2)).bind fun t => R.ok ((eT eD) t.1, t.2))).bind fun (t_20 : D × Sta) => (addD t_19.1 t_20.1).bind fun c => R.ok (c, t_20.2)).cb fun t => R.ok t) else ((((lenD (told_1)).bind fun (y_26 : Int) => (M_law_next y_26 (t_4.2))).bind fun t_24 => (((lenD (told_1)).bind fun (y_29 : Int) => (M_law_next y_29 t_24.2)).bind fun t_27 => (R.ok ((), t_27.2)).bind fun u_28 => R.ok ((t_27.1, u_28.1), u_28.2)).bind fun u_25 => R.ok ((t_24.1, u_25.1), u_25.2)).cb fun (t_23 : ((Int × Int × Unit) × Sta)) => ((((lenD (told_1)).bind fun (y_30 : Int) => R.ok (decide (y_30 = (2 : Int)))).bind fun c => if c then (((idxD (told_1) (1 : Int)).bind fun (y_31 : D) => R.ok (isA .tuple y_31)).bind fun c => if c then ((idxD (told_1) (1 : Int)).bind fun (y_32 : D) => (neR y_32 ((eT eD) ([] : List D)))) else R.ok false) else R.ok false).bind fun t => if t then (((((idxD (told_1) (1 : Int)).bind fun (y_33 : D) => (lenD y_33)).bind fun (y_38 : Int) => (M_law_next y_38 (t_23.2))).bind fun t_36 => ((((idxD (told_1) (1 : Int)).bind fun (y_34 : D) => (lenD y_34)).bind fun (y_41 : Int) => (M_law_next y_41 t_36.2)).bind fun t_39 => (R.ok ((), t_39.2)).bind fun u_40 => R.ok ((t_39.1, u_40.1), u_40.2)).bind fun u_37 => R.ok ((t_36.1, u_37.1), u_37.2)).cb fun (t_35 : ((Int × Int × Unit) × Sta)) => ((((idxD (told_1) (0 : Int)).bind fun (y_49 : D) => ((((idxD (told_1) (1 : Int)).bind fun (y_42 : D) => (cutD y_42 none (some (t_35.1.1)))).bind fun (y_44 : D) => ((idxD (told_1) (1 : Int)).bind fun (y_43 : D) => (cutD y_43 (some (t_35.1.2.1)) (some ((t_35.1.2.1) + (1 : Int))))).bind fun (y_45 : D) => (addD y_44 y_45)).bind fun (y_47 : D) => ((idxD (told_1) (1 : Int)).bind fun (y_46 : D) => (cutD y_46 (some ((t_35.1.1) + (1 : Int))) none)).bind fun (y_48 : D) => (addD y_47 y_48)).bind fun (y_50 : D) => R.ok ([y_49, y_50])).bind fun a => R.ok ((eT eD) a)).bind fun a => R.ok (a, t_35.2))) else ((if ((decide ((0 : Int) < (t_23.1.1))) && (decide ((0 : Int) < (t_23.1.2.1)))) then (((cutD (told_1) none (some (t_23.1.1))).bind fun (y_51 : D) => (cutD (told_1) (some (t_23.1.2.1)) (some ((t_23.1.2.1) + (1 : Int)))).bind fun (y_52 : D) => (addD y_51 y_52)).bind fun (y_53 : D) => (cutD (told_1) (some ((t_23.1.1) + (1 : Int))) none).bind fun (y_54 : D) => (addD y_53 y_54)) else (R.ok told_1)).bind fun a => R.ok (a, t_23.2))))))))) q.1)) :=
  df_i d sc_law_turned_about (fun _ => rfl) <| fun a s_2 q W => by
    obtain ⟨told_1, _u⟩ := a
    exact Ss.rho (ρ' := [(some (.io q (eSt (s_2)))), (some (.sh (eD (told_1)))), none, none, none, none, none, none, none]) (m := ((M_law_ints 8 (told_1)).bind fun (numbers_3 : (List Int)) => ((M_law_next (5 : Int) (s_2)).cb fun (t_4 : (Int × Sta)) => (if ((decide ((t_4.1) < (3 : Int))) && (!decide ((numbers_3) = ([] : List Int)))) then (((M_law_next ((numbers_3).length : Int) (t_4.2)).bind fun (t_7 : Int × Sta) => (idx (numbers_3) t_7.1).bind fun c => R.ok (c, t_7.2)).cb fun (t_5 : (Int × Sta)) => ((if (decide ((t_4.1) = (0 : Int))) then (R.ok (((t_5.1) + (1 : Int)), (t_5.2))) else ((M_law_next ((numbers_3).length : Int) (t_5.2)).bind fun (t_10 : Int × Sta) => (idx (numbers_3) t_10.1).bind fun c => R.ok (c, t_10.2))).cb fun (t_8 : (Int × Sta)) => ((M_law_exchanged 8 (told_1) (t_5.1) (t_8.1)).bind fun a => R.ok (a, t_8.2)))) else (if (decide ((t_4.1) = (3 : Int))) then ((((cutD (told_1) none (some (1 : Int))).bind fun a => R.ok (a, (t_4.2))).bind fun (t_19 : D × Sta) => ((((lenD (told_1)).bind fun (y_11 : Int) => R.ok (decide ((2 : Int) < y_11))).bind fun c => R.ok (c, t_19.2)).bind fun t => if t.1 then ((cutD (told_1) (some (1 : Int)) none).bind fun (y_21 : D) => (M_law_cut 8 y_21 t.2)) else ((((((cutD (told_1) (some (1 : Int)) none).bind fun a => R.ofOpt ((dT dD).dec a)).bind fun a => R.ok (a, t.2)).bind fun t => R.mapMS (fun (part_12 : D) (s_13 : Sta) => (M_law_cut 8 (part_12) s_13)) t.1 t.2).bind fun (t_22 : (List D) × Sta) => R.ok (t_22.1, t_22.2)).bind fun t => R.ok ((eT eD) t.1, t.2))).bind fun (t_20 : D × Sta) => (addD t_19.1 t_20.1).bind fun c => R.ok (c, t_20.2)).cb fun t => R.ok t) else ((((lenD (told_1)).bind fun (y_26 : Int) => (M_law_next y_26 (t_4.2))).bind fun t_24 => (((lenD (told_1)).bind fun (y_29 : Int) => (M_law_next y_29 t_24.2)).bind fun t_27 => (R.ok ((), t_27.2)).bind fun u_28 => R.ok ((t_27.1, u_28.1), u_28.2)).bind fun u_25 => R.ok ((t_24.1, u_25.1), u_25.2)).cb fun (t_23 : ((Int × Int × Unit) × Sta)) => ((((lenD (told_1)).bind fun (y_30 : Int) => R.ok (decide (y_30 = (2 : Int)))).bind fun c => if c then (((idxD (told_1) (1 : Int)).bind fun (y_31 : D) => R.ok (isA .tuple y_31)).bind fun c => if c then ((idxD (told_1) (1 : Int)).bind fun (y_32 : D) => (neR y_32 ((eT eD) ([] : List D)))) else R.ok false) else R.ok false).bind fun t => if t then (((((idxD (told_1) (1 : Int)).bind fun (y_33 : D) => (lenD y_33)).bind fun (y_38 : Int) => (M_law_next y_38 (t_23.2))).bind fun t_36 => ((((idxD (told_1) (1 : Int)).bind fun (y_34 : D) => (lenD y_34)).bind fun (y_41 : Int) => (M_law_next y_41 t_36.2)).bind fun t_39 => (R.ok ((), t_39.2)).bind fun u_40 => R.ok ((t_39.1, u_40.1), u_40.2)).bind fun u_37 => R.ok ((t_36.1, u_37.1), u_37.2)).cb fun (t_35 : ((Int × Int × Unit) × Sta)) => ((((idxD (told_1) (0 : Int)).bind fun (y_49 : D) => ((((idxD (told_1) (1 : Int)).bind fun (y_42 : D) => (cutD y_42 none (some (t_35.1.1)))).bind fun (y_44 : D) => ((idxD (told_1) (1 : Int)).bind fun (y_43 : D) => (cutD y_43 (some (t_35.1.2.1)) (some ((t_35.1.2.1) + (1 : Int))))).bind fun (y_45 : D) => (addD y_44 y_45)).bind fun (y_47 : D) => ((idxD (told_1) (1 : Int)).bind fun (y_46 : D) => (cutD y_46 (some ((t_35.1.1) + (1 : Int))) none)).bind fun (y_48 : D) => (addD y_47 y_48)).bind fun (y_50 : D) => R.ok ([y_49, y_50])).bind fun a => R.ok ((eT eD) a)).bind fun a => R.ok (a, t_35.2))) else ((if ((decide ((0 : Int) < (t_23.1.1))) && (decide ((0 : Int) < (t_23.1.2.1)))) then (((cutD (told_1) none (some (t_23.1.1))).bind fun (y_51 : D) => (cutD (told_1) (some (t_23.1.2.1)) (some ((t_23.1.2.1) + (1 : Int)))).bind fun (y_52 : D) => (addD y_51 y_52)).bind fun (y_53 : D) => (cutD (told_1) (some ((t_23.1.1) + (1 : Int))) none).bind fun (y_54 : D) => (addD y_53 y_54)) else (R.ok told_1)).bind fun a => R.ok (a, t_23.2))))))))) (ss_consL (N' := (fun (numbers_3 : (List Int)) => ([(some (.io q (eSt (s_2)))), (some (.sh (eD (told_1)))), (some (.sh ((eL eI) (numbers_3)))), none, none, none, none, none, none] : Rho))) (s1_set 2 (Sx.cast (sx_c1 (f := M_law_ints 8) h__law_ints (show 8 ≤ 9 by decide) (sx_var (enc := eD) 1 (a := told_1))) rfl)) (fun numbers_3 => (ss_consL (N' := (fun (t_4 : (Int × Sta)) => ([(some (.io q (eSt (t_4.2)))), (some (.sh (eD (told_1)))), (some (.sh ((eL eI) (numbers_3)))), (some (.sh (eI (t_4.1)))), none, none, none, none, none] : Rho))) (s1_setE (ρs := (fun (s : Sta) => ([(some (.io q (eSt (s)))), (some (.sh (eD (told_1)))), (some (.sh ((eL eI) (numbers_3)))), none, none, none, none, none, none] : Rho))) 3 (s_2) (Ee.cast (m' := fun s => (M_law_next (5 : Int) s)) (ee_c1 (f := M_law_next) 0 h__law_next (show 1 ≤ 9 by decide) (Lens.mk rs_io (fun _ => rfl) (fun _ _ => rfl)) (fun s => sx_int)) (fun s => rfl))) (fun t_4 => (ss_ifX (Tt.cast (tt_w (tw_andP (Tt.cast (tt_cmp o_lt (sx_VP (sx_var (enc := eI) 3 (a := t_4.1))) (sx_VP sx_int)) rfl) (tw_and1 (Tt.cast (tt_cmp (o_ne (eqq_int).lst) (sx_VP (sx_var (enc := (eL eI)) 2 (a := numbers_3))) (sx_NP (sx_lst0 (e := eI)) (fun _ => ⟨_, rfl⟩))) rfl)))) rfl) (ss_consL (N' := (fun (t_5 : (Int × Sta)) => ([(some (.io q (eSt (t_5.2)))), (some (.sh (eD (told_1)))), (some (.sh ((eL eI) (numbers_3)))), (some (.sh (eI (t_4.1)))), (some (.sh (eI (t_5.1)))), none, none, none, none] : Rho))) (s1_setE (ρs := (fun (s : Sta) => ([(some (.io q (eSt (s)))), (some (.sh (eD (told_1)))), (some (.sh ((eL eI) (numbers_3)))), (some (.sh (eI (t_4.1)))), none, none, none, none, none] : Rho))) 4 (t_4.2) (Ee.cast (m' := fun s => ((M_law_next ((numbers_3).length : Int) s).bind fun (t_6 : Int × Sta) => (idx (numbers_3) t_6.1).bind fun c => R.ok (c, t_6.2))) (ee_ix x_ixL (ee_V (fun s => (sx_var (enc := (eL eI)) 2 (a := numbers_3)))) (ee_c1 (f := M_law_next) 0 h__law_next (show 1 ≤ 9 by decide) (Lens.mk rs_io (fun _ => rfl) (fun _ _ => rfl)) (fun s => (sx_lenL B.len (sx_VP (sx_var (enc := (eL eI)) 2 (a := numbers_3))))))) (fun s => rfl))) (fun t_5 => (ss_consL (N' := (fun (t_8 : (Int × Sta)) => ([(some (.io q (eSt (t_8.2)))), (some (.sh (eD (told_1)))), (some (.sh ((eL eI) (numbers_3)))), (some (.sh (eI (t_4.1)))), (some (.sh (eI (t_5.1)))), (some (.sh (eI (t_8.1)))), none, none, none] : Rho))) (s1_setE (ρs := (fun (s : Sta) => ([(some (.io q (eSt (s)))), (some (.sh (eD (told_1)))), (some (.sh ((eL eI) (numbers_3)))), (some (.sh (eI (t_4.1)))), (some (.sh (eI (t_5.1)))), none, none, none, none] : Rho))) 5 (t_5.2) (Ee.cast (m' := fun s => (if (decide ((t_4.1) = (0 : Int))) then (R.ok (((t_5.1) + (1 : Int)), s)) else ((M_law_next ((numbers_3).length : Int) s).bind fun (t_9 : Int × Sta) => (idx (numbers_3) t_9.1).bind fun c => R.ok (c, t_9.2)))) (ee_if (te_t (fun s => (tt_cmp (o_eq eqq_int) (sx_VP (sx_var (enc := eI) 3 (a := t_4.1))) (sx_VP sx_int)))) (ee_V (fun s => (sx_op o_add (sx_VP (sx_var (enc := eI) 4 (a := t_5.1))) (sx_VP sx_int)))) (ee_ix x_ixL (ee_V (fun s => (sx_var (enc := (eL eI)) 2 (a := numbers_3)))) (ee_c1 (f := M_law_next) 0 h__law_next (show 1 ≤ 9 by decide) (Lens.mk rs_io (fun _ => rfl) (fun _ _ => rfl)) (fun s => (sx_lenL B.len (sx_VP (sx_var (enc := (eL eI)) 2 (a := numbers_3)))))))) (fun s => rfl))) (fun t_8 => (ss_dead (s1_ret (f := fun a => (a, t_8.2)) (sx_c3 (f := M_law_exchanged 8) h__law_exchanged (show 8 ≤ 9 by decide) (sx_var (enc := eD) 1 (a := told_1)) (sx_var (enc := eI) 4 (a := t_5.1)) (sx_var (enc := eI) 5 (a := t_8.1))) (fun _ => rfl) (fun _ => .k .nil)))) (fun _ => rfl))) (fun _ => rfl)) (ss_ifX (Tt.cast (tt_cmp (o_eq eqq_int) (sx_VP (sx_var (enc := eI) 3 (a := t_4.1))) (sx_VP sx_int)) rfl) (ss_dead (s1_retE (ρs := (fun (s : Sta) => ([(some (.io q (eSt (s)))), (some (.sh (eD (told_1)))), (some (.sh ((eL eI) (numbers_3)))), (some (.sh (eI (t_4.1)))), none, none, none, none, none] : Rho))) (f := fun t => t) (t_4.2) (Ee.cast (m' := fun s => (((cutD (told_1) none (some (1 : Int))).bind fun a => R.ok (a, s)).bind fun (t_15 : D × Sta) => ((((lenD (told_1)).bind fun (y_11 : Int) => R.ok (decide ((2 : Int) < y_11))).bind fun c => R.ok (c, t_15.2)).bind fun t => if t.1 then ((cutD (told_1) (some (1 : Int)) none).bind fun (y_17 : D) => (M_law_cut 8 y_17 t.2)) else ((((((cutD (told_1) (some (1 : Int)) none).bind fun a => R.ofOpt ((dT dD).dec a)).bind fun a => R.ok (a, t.2)).bind fun t => R.mapMS (fun (part_12 : D) (s_13 : Sta) => (M_law_cut 8 (part_12) s_13)) t.1 t.2).bind fun (t_18 : (List D) × Sta) => R.ok (t_18.1, t_18.2)).bind fun t => R.ok ((eT eD) t.1, t.2))).bind fun (t_16 : D × Sta) => (addD t_15.1 t_16.1).bind fun c => R.ok (c, t_16.2))) (ee_op o_addD (ee_V (fun s => (sx_sl s_cutD (sx_VP (sx_var (enc := eD) 1 (a := told_1))) so_none (so_some sx_int)))) (ee_if (te_t (fun s => (tt_cmp o_gt (sx_VP (sx_lenD B.len (sx_VP (sx_var (enc := eD) 1 (a := told_1))))) (sx_VP sx_int)))) (ee_c1 (f := M_law_cut 8) 0 h__law_cut (show 9 ≤ 9 by decide) (Lens.mk rs_io (fun _ => rfl) (fun _ _ => rfl)) (fun s => (sx_sl s_cutD (sx_VP (sx_var (enc := eD) 1 (a := told_1))) (so_some sx_int) so_none))) (ee_upD (ee_t1 (v := G.vw ["state", "told", "numbers", "pick", "one", "other", "k", "j", "part"] (defScope (topS 18)) 9 W) c_tupL B.tuple (by decide +kernel) (ee_NV (ee_lc (own := [("part", 8)]) (by decide) up_name (fun _ => (noneAt_cons rfl noneAt_nil)) (ie_pure (fun s => (si_tup (sx_VP (sx_dn (dT dD) (sx_sl s_cutD (sx_VP (sx_var (enc := eD) 1 (a := told_1))) (so_some sx_int) so_none)))))) (by kernel_rfl) (gt_name (ea := eD) 8) (fun part_12 => (ee_c1 (f := M_law_cut 8) 0 h__law_cut (show 9 ≤ 9 by decide) (Lens.mk rs_io (fun _ => rfl) (fun _ _ => rfl)) (fun s => (sx_var (enc := eD) 8 (a := part_12))))) (fun _ _ => rfl)) (fun _ => ⟨_, rfl⟩)))))) (fun s => rfl)) (fun _ => rfl) (fun _ => .k .nil))) (ss_consL (N' := (fun (t_23 : ((Int × Int × Unit) × Sta)) => ([(some (.io q (eSt (t_23.2)))), (some (.sh (eD (told_1)))), (some (.sh ((eL eI) (numbers_3)))), (some (.sh (eI (t_4.1)))), none, none, (some (.sh (eI (t_23.1.1)))), (some (.sh (eI (t_23.1.2.1)))), none] : Rho))) (s1_parE (ρs := (fun (s : Sta) => ([(some (.io q (eSt (s)))), (some (.sh (eD (told_1)))), (some (.sh ((eL eI) (numbers_3)))), (some (.sh (eI (t_4.1)))), none, none, none, none, none] : Rho))) 6 7 (t_4.2) (by decide) (ae_cons (ee_c1 (f := M_law_next) 0 h__law_next (show 1 ≤ 9 by decide) (Lens.mk rs_io (fun _ => rfl) (fun _ _ => rfl)) (fun s => (sx_lenD B.len (sx_VP (sx_var (enc := eD) 1 (a := told_1)))))) (ae_cons (ee_c1 (f := M_law_next) 0 h__law_next (show 1 ≤ 9 by decide) (Lens.mk rs_io (fun _ => rfl) (fun _ _ => rfl)) (fun s => (sx_lenD B.len (sx_VP (sx_var (enc := eD) 1 (a := told_1)))))) ae_nil)) (hw := by intro env h; cases env; cases h; rfl)) (fun t_23 => (ss_ifX (Tt.cast (tt_w (tw_and (tt_cmp (o_eq eqq_int) (sx_VP (sx_lenD B.len (sx_VP (sx_var (enc := eD) 1 (a := told_1))))) (sx_VP sx_int)) (tw_and (tt_of (sx_isi .tuple rfl B.isinstance B.tuple (by decide +kernel) (sx_VP (sx_ix x_ixD (sx_VP (sx_var (enc := eD) 1 (a := told_1))) (sx_VP sx_int))))) (tw_and1 (tt_cmp o_neD (sx_VP (sx_ix x_ixD (sx_VP (sx_var (enc := eD) 1 (a := told_1))) (sx_VP sx_int))) (sx_VP (sx_upD (sx_tup0 (e := eD))))))))) rfl) (ss_consL (N' := (fun (t_35 : ((Int × Int × Unit) × Sta)) => ([(some (.io q (eSt (t_35.2)))), (some (.sh (eD (told_1)))), (some (.sh ((eL eI) (numbers_3)))), (some (.sh (eI (t_4.1)))), none, none, (some (.sh (eI (t_35.1.1)))), (some (.sh (eI (t_35.1.2.1)))), none] : Rho))) (s1_parE (ρs := (fun (s : Sta) => ([(some (.io q (eSt (s)))), (some (.sh (eD (told_1)))), (some (.sh ((eL eI) (numbers_3)))), (some (.sh (eI (t_4.1)))), none, none, (some (.sh (eI (t_23.1.1)))), (some (.sh (eI (t_23.1.2.1)))), none] : Rho))) 6 7 (t_23.2) (by decide) (ae_cons (ee_c1 (f := M_law_next) 0 h__law_next (show 1 ≤ 9 by decide) (Lens.mk rs_io (fun _ => rfl) (fun _ _ => rfl)) (fun s => (sx_lenD B.len (sx_VP (sx_ix x_ixD (sx_VP (sx_var (enc := eD) 1 (a := told_1))) (sx_VP sx_int)))))) (ae_cons (ee_c1 (f := M_law_next) 0 h__law_next (show 1 ≤ 9 by decide) (Lens.mk rs_io (fun _ => rfl) (fun _ _ => rfl)) (fun s => (sx_lenD B.len (sx_VP (sx_ix x_ixD (sx_VP (sx_var (enc := eD) 1 (a := told_1))) (sx_VP sx_int)))))) ae_nil)) (hw := by intro env h; cases env; cases h; rfl)) (fun t_35 => (ss_dead (s1_ret (f := fun a => (a, t_35.2)) (sx_upD (sx_tup2 (enc := (eT eD)) (fun a b => [a, b]) (fun _ _ => rfl) (sx_ix x_ixD (sx_VP (sx_var (enc := eD) 1 (a := told_1))) (sx_VP sx_int)) (sx_op o_addD (sx_VP (sx_op o_addD (sx_VP (sx_sl s_cutD (sx_VP (sx_ix x_ixD (sx_VP (sx_var (enc := eD) 1 (a := told_1))) (sx_VP sx_int))) so_none (so_some (sx_var (enc := eI) 6 (a := t_35.1.1))))) (sx_VP (sx_sl s_cutD (sx_VP (sx_ix x_ixD (sx_VP (sx_var (enc := eD) 1 (a := told_1))) (sx_VP sx_int))) (so_some (sx_var (enc := eI) 7 (a := t_35.1.2.1))) (so_some (sx_op o_add (sx_VP (sx_var (enc := eI) 7 (a := t_35.1.2.1))) (sx_VP sx_int))))))) (sx_VP (sx_sl s_cutD (sx_VP (sx_ix x_ixD (sx_VP (sx_var (enc := eD) 1 (a := told_1))) (sx_VP sx_int))) (so_some (sx_op o_add (sx_VP (sx_var (enc := eI) 6 (a := t_35.1.1))) (sx_VP sx_int))) so_none))))) (fun _ => rfl) (fun _ => .k .nil)))) (fun _ => rfl)) (ss_dead (s1_ret (f := fun a => (a, t_23.2)) (sx_if (tt_w (tw_andP (Tt.cast (tt_cmp o_gt (sx_VP (sx_var (enc := eI) 6 (a := t_23.1.1))) (sx_VP sx_int)) rfl) (tw_and1 (Tt.cast (tt_cmp o_gt (sx_VP (sx_var (enc := eI) 7 (a := t_23.1.2.1))) (sx_VP sx_int)) rfl)))) (sx_op o_addD (sx_VP (sx_op o_addD (sx_VP (sx_sl s_cutD (sx_VP (sx_var (enc := eD) 1 (a := told_1))) so_none (so_some (sx_var (enc := eI) 6 (a := t_23.1.1))))) (sx_VP (sx_sl s_cutD (sx_VP (sx_var (enc := eD) 1 (a := told_1))) (so_some (sx_var (enc := eI) 7 (a := t_23.1.2.1))) (so_some (sx_op o_add (sx_VP (sx_var (enc := eI) 7 (a := t_23.1.2.1))) (sx_VP sx_int))))))) (sx_VP (sx_sl s_cutD (sx_VP (sx_var (enc := eD) 1 (a := told_1))) (so_some (sx_op o_add (sx_VP (sx_var (enc := eI) 6 (a := t_23.1.1))) (sx_VP sx_int))) so_none))) (sx_var (enc := eD) 1 (a := told_1))) (fun _ => rfl) (fun _ => .k .nil))))) (fun _ => rfl))))) (fun _ => rfl))) (fun _ => rfl)) rfl
theorem df_law_turned_about {G : Pg} (B : Bi G) (Er : RaOk G) (Et : ErrOk G) (d : Def G "_law_turned_about" (topS 18) ["state", "told"]) (h__law_next : Df G 1 "_law_next" ["state", "limit"] (spI eSt (fun q : Int × Unit => ([eI q.1] : List D)) eI fun q => (M_law_next q.1))) (h__law_ints : Df G 8 "_law_ints" ["value"] (spP G.cls (fun q : D × Unit => [eD q.1]) (eL eI) fun q => (M_law_ints 8 q.1))) (h__law_exchanged : Df G 8 "_law_exchanged" ["value", "one", "other"] (spP G.cls (fun q : D × Int × Int × Unit => [eD q.1, eI q.2.1, eI q.2.2.1]) eD fun q => (M_law_exchanged 8 q.1 q.2.1 q.2.2.1))) (h__law_cut : Df G 9 "_law_cut" ["state", "value"] (spI eSt (fun q : D × Unit => ([eD q.1] : List D)) eD fun q => (M_law_cut 8 q.1))) : Df G 10 "_law_turned_about" ["state", "told"] (spI eSt (fun q : D × Unit => ([eD q.1] : List D)) eD fun q => (M_law_turned_about q.1)) :=
  df_law_turned_about_v B Er Et d h__law_next h__law_ints h__law_exchanged h__law_cut
theorem sc_law_odd : FnScope ["state", "told", "odd", "pick"] ["state", "told"] (defScope (topS 19)) := ⟨rfl, rfl, rfl, by decide +kernel, rfl, by decide +kernel, by decide +kernel⟩
theorem df_law_odd_v {G : Pg} (B : Bi G) (Er : RaOk G) (Et : ErrOk G) (d : Def G "_law_odd" (topS 19) ["state", "told"]) {M_law_next : Int → Sta → R (Int × Sta)} {M_law_changed : Nat → D → Sta → R (D × Sta)} {M_law_turned_about : D → Sta → R (D × Sta)} (h__law_next : Df G 1 "_law_next" ["state", "limit"] (spI eSt (fun q : Int × Unit => ([eI q.1] : List D)) eI fun q => (M_law_next q.1))) (h__law_changed : Df G 9 "_law_changed" ["state", "value"] (spI eSt (fun q : D × Unit => ([eD q.1] : List D)) eD fun q => (M_law_changed 8 q.1))) (h__law_turned_about : Df G 10 "_law_turned_about" ["state", "told"] (spI eSt (fun q : D × Unit => ([eD q.1] : List D)) eD fun q => (M_law_turned_about q.1))) : Df G 11 "_law_odd" ["state", "told"] (spI eSt (fun q : D × Unit => ([eD q.1] : List D)) eD fun q => ((fun (told_1 : D) (s_2 : Sta) => ((R.seq [(R.ok (eN ())), (R.ok (eS ("" : Str))), (R.ok (eS ("yes" : Str))), (R.ok (PyData.dict [])), (R.ok ((eT eD) ([] : List D))), (cutD (told_1) none (some (1 : Int))), (((R.ofOpt ((dT dD).dec (told_1))).bind fun (y_3 : (List D)) => R.ok (y_3)).bind fun a => R.ok ((eL eD) a)), (addD (told_1) ((eT eI) ([(0 : Int)]))), (((((idxD (told_1) (0 : Int)).bind fun (y_4 : D) => R.ok ([y_4])).bind fun (y_5 : (List D)) => R.ok ([y_5])).bind fun a => R.ok ((eT (eL eD)) a)).bind fun (y_6 : D) => (cutD (told_1) (some (1 : Int)) none).bind fun (y_7 : D) => (addD y_6 y_7)), ((cutD (told_1) (some (1 : Int)) none).bind fun (y_8 : D) => (addD ((eT eS) ([("none such" : Str)])) y_8)), (R.ok (eI (7 : Int)))]).bind fun (odd_9 : (List D)) => ((M_law_next (9 : Int) (s_2)).cb fun (t_10 : (Int × Sta)) => (if (decide ((4 : Int) < (t_10.1))) then ((M_law_turned_about (told_1) (t_10.2)).cb fun t => R.ok t) else ((if (decide ((t_10.1) = (0 : Int))) then ((M_law_next ((odd_9).length : Int) (t_10.2)).bind fun (t_12 : Int × Sta) => (idx (odd_9) t_12.1).bind fun c => R.ok (c, t_12.2)) else (M_law_changed 8 (told_1) (t_10.2))).cb fun t => R.ok t))))) q.1)) :=
  df_i d sc_law_odd (fun _ => rfl) <| fun a s_2 q W => by
    obtain ⟨told_1, _u⟩ := a
    exact Ss.rho (ρ' := [(some (.io q (eSt (s_2)))), (some (.sh (eD (told_1)))), none, none]) (m := ((R.seq [(R.ok (eN ())), (R.ok (eS ("" : Str))), (R.ok (eS ("yes" : Str))), (R.ok (PyData.dict [])), (R.ok ((eT eD) ([] : List D))), (cutD (told_1) none (some (1 : Int))), (((R.ofOpt ((dT dD).dec (told_1))).bind fun (y_3 : (List D)) => R.ok (y_3)).bind fun a => R.ok ((eL eD) a)), (addD (told_1) ((eT eI) ([(0 : Int)]))), (((((idxD (told_1) (0 : Int)).bind fun (y_4 : D) => R.ok ([y_4])).bind fun (y_5 : (List D)) => R.ok ([y_5])).bind fun a => R.ok ((eT (eL eD)) a)).bind fun (y_6 : D) => (cutD (told_1) (some (1 : Int)) none).bind fun (y_7 : D) => (addD y_6 y_7)), ((cutD (told_1) (some (1 : Int)) none).bind fun (y_8 : D) => (addD ((eT eS) ([("none such" : Str)])) y_8)), (R.ok (eI (7 : Int)))]).bind fun (odd_9 : (List D)) => ((M_law_next (9 : Int) (s_2)).cb fun (t_10 : (Int × Sta)) => (if (decide ((4 : Int) < (t_10.1))) then ((M_law_turned_about (told_1) (t_10.2)).cb fun t => R.ok t) else ((if (decide ((t_10.1) = (0 : Int))) then ((M_law_next ((odd_9).length : Int) (t_10.2)).bind fun (t_12 : Int × Sta) => (idx (odd_9) t_12.1).bind fun c => R.ok (c, t_12.2)) else (M_law_changed 8 (told_1) (t_10.2))).cb fun t => R.ok t))))) (ss_consL (N' := (fun (odd_9 : (List D)) => ([(some (.io q (eSt (s_2)))), (some (.sh (eD (told_1)))), (some (.sh ((eL eD) (odd_9)))), none] : Rho))) (s1_set 2 (Sx.cast (sx_NV (sx_lstM (hn := Nat.le_of_ble_eq_true rfl) (h := (sa_seq (sx_upD sx_non) (sa_seq (sx_upD sx_str) (sa_seq (sx_upD sx_str) (sa_seq sx_dic0 (sa_seq (sx_upD (sx_tup0 (e := eD))) (sa_seq (sx_sl s_cutD (sx_VP (sx_var (enc := eD) 1 (a := told_1))) so_none (so_some sx_int)) (sa_seq (sx_upD (sx_NV (sx_t1 c_listT B.list (by decide +kernel) (sx_VP (sx_dn (dT dD) (sx_var (enc := eD) 1 (a := told_1))))) (fun _ => ⟨_, rfl⟩))) (sa_seq (sx_op o_addD (sx_VP (sx_var (enc := eD) 1 (a := told_1))) (sx_VP (sx_upD (sx_tup1 (enc := (eT eI)) (fun a => [a]) (fun _ => rfl) sx_int)))) (sa_seq (sx_op o_addD (sx_VP (sx_upD (sx_tup1 (enc := (eT (eL eD))) (fun a => [a]) (fun _ => rfl) (sx_NV (sx_lst1 (enc := (eL eD)) (fun a => [a]) (fun _ => rfl) (sx_ix x_ixD (sx_VP (sx_var (enc := eD) 1 (a := told_1))) (sx_VP sx_int))) (fun _ => ⟨_, rfl⟩))))) (sx_VP (sx_sl s_cutD (sx_VP (sx_var (enc := eD) 1 (a := told_1))) (so_some sx_int) so_none))) (sa_seq (sx_opP o_addD (Sx.cast (sx_VP (sx_upD (sx_tup1 (enc := (eT eS)) (fun a => [a]) (fun _ => rfl) sx_str))) rfl) (sx_VP (sx_sl s_cutD (sx_VP (sx_var (enc := eD) 1 (a := told_1))) (so_some sx_int) so_none))) (sa_seq (sx_upD sx_int) sa_nil))))))))))))) (fun _ => ⟨_, rfl⟩)) rfl)) (fun odd_9 => (ss_consL (N' := (fun (t_10 : (Int × Sta)) => ([(some (.io q (eSt (t_10.2)))), (some (.sh (eD (told_1)))), (some (.sh ((eL eD) (odd_9)))), (some (.sh (eI (t_10.1))))] : Rho))) (s1_setE (ρs := (fun (s : Sta) => ([(some (.io q (eSt (s)))), (some (.sh (eD (told_1)))), (some (.sh ((eL eD) (odd_9)))), none] : Rho))) 3 (s_2) (Ee.cast (m' := fun s => (M_law_next (9 : Int) s)) (ee_c1 (f := M_law_next) 0 h__law_next (show 1 ≤ 10 by decide) (Lens.mk rs_io (fun _ => rfl) (fun _ _ => rfl)) (fun s => sx_int)) (fun s => rfl))) (fun t_10 => (ss_ifX (Tt.cast (tt_cmp o_gt (sx_VP (sx_var (enc := eI) 3 (a := t_10.1))) (sx_VP sx_int)) rfl) (ss_dead (s1_retE (ρs := (fun (s : Sta) => ([(some (.io q (eSt (s)))), (some (.sh (eD (told_1)))), (some (.sh ((eL eD) (odd_9)))), (some (.sh (eI (t_10.1))))] : Rho))) (f := fun t => t) (t_10.2) (Ee.cast (m' := fun s => (M_law_turned_about (told_1) s)) (ee_c1 (f := M_law_turned_about) 0 h__law_turned_about (show 10 ≤ 10 by decide) (Lens.mk rs_io (fun _ => rfl) (fun _ _ => rfl)) (fun s => (sx_var (enc := eD) 1 (a := told_1)))) (fun s => rfl)) (fun _ => rfl) (fun _ => .k .nil))) (ss_dead (s1_retE (ρs := (fun (s : Sta) => ([(some (.io q (eSt (s)))), (some (.sh (eD (told_1)))), (some (.sh ((eL eD) (odd_9)))), (some (.sh (eI (t_10.1))))] : Rho))) (f := fun t => t) (t_10.2) (Ee.cast (m' := fun s => (if (decide ((t_10.1) = (0 : Int))) then ((M_law_next ((odd_9).length : Int) s).bind fun (t_11 : Int × Sta) => (idx (odd_9) t_11.1).bind fun c => R.ok (c, t_11.2)) else (M_law_changed 8 (told_1) s))) (ee_if (te_t (fun s => (tt_cmp (o_eq eqq_int) (sx_VP (sx_var (enc := eI) 3 (a := t_10.1))) (sx_VP sx_int)))) (ee_ix x_ixL (ee_V (fun s => (sx_var (enc := (eL eD)) 2 (a := odd_9)))) (ee_c1 (f := M_law_next) 0 h__law_next (show 1 ≤ 10 by decide) (Lens.mk rs_io (fun _ => rfl) (fun _ _ => rfl)) (fun s => (sx_lenL B.len (sx_VP (sx_var (enc := (eL eD)) 2 (a := odd_9))))))) (ee_c1 (f := M_law_changed 8) 0 h__law_changed (show 9 ≤ 10 by decide) (Lens.mk rs_io (fun _ => rfl) (fun _ _ => rfl)) (fun s => (sx_var (enc := eD) 1 (a := told_1))))) (fun s => rfl)) (fun _ => rfl) (fun _ => .k .nil))))) (fun _ => rfl))) (fun _ => rfl)) rfl
theorem df_law_odd {G : Pg} (B : Bi G) (Er : RaOk G) (Et : ErrOk G) (d : Def G "_law_odd" (topS 19) ["state", "told"]) (h__law_next : Df G 1 "_law_next" ["state", "limit"] (spI eSt (fun q : Int × Unit => ([eI q.1] : List D)) eI fun q => (M_law_next q.1))) (h__law_changed : Df G 9 "_law_changed" ["state", "value"] (spI eSt (fun q : D × Unit => ([eD q.1] : List D)) eD fun q => (M_law_changed 8 q.1))) (h__law_turned_about : Df G 10 "_law_turned_about" ["state", "told"] (spI eSt (fun q : D × Unit => ([eD q.1] : List D)) eD fun q => (M_law_turned_about q.1))) : Df G 11 "_law_odd" ["state", "told"] (spI eSt (fun q : D × Unit => ([eD q.1] : List D)) eD fun q => (M_law_odd q.1)) :=
  df_law_odd_v B Er Et d h__law_next h__law_changed h__law_turned_about
theorem sc_law_neighbour : FnScope ["state", "value", "step", "k"] ["state", "value"] (defScope (topS 20)) := ⟨rfl, rfl, rfl, by decide +kernel, rfl, by decide +kernel, by decide +kernel⟩
theorem df_law_neighbour_step {G : Pg} (B : Bi G) (Er : RaOk G) (Et : ErrOk G) (d : Def G "_law_neighbour" (topS 20) ["state", "value"]) {M_law_next : Int → Sta → R (Int × Sta)} (h__law_next : Df G 1 "_law_next" ["state", "limit"] (spI eSt (fun q : Int × Unit => ([eI q.1] : List D)) eI fun q => (M_law_next q.1))) {rec : D → Sta → R (D × Sta)} {k : Nat} (hk : 1 ≤ k) (h_rec : Df G k "_law_neighbour" ["state", "value"] (spI eSt (fun q : D × Unit => ([eD q.1] : List D)) eD fun q => (rec q.1))) : Df G (k + 1) "_law_neighbour" ["state", "value"] (spI eSt (fun q : D × Unit => ([eD q.1] : List D)) eD fun q => ((fun (value_1 : D) (s_2 : Sta) => (((M_law_next (2 : Int) (s_2)).bind fun (t_5 : Int × Sta) => (idx ([(1 : Int), (-(1 : Int))]) t_5.1).bind fun c => R.ok (c, t_5.2)).cb fun (t_3 : (Int × Sta)) => (if (isA .str (value_1)) then R.ok (value_1, t_3.2) else (if (isA .int (value_1)) then ((((R.ofOpt (dI.dec (value_1))).bind fun (y_6 : Int) => R.ok (y_6 + (t_3.1))).bind fun a => R.ok (eI a)).bind fun a => R.ok (a, t_3.2)) else ((eqR (value_1) ((eT eD) ([] : List D))).bind fun t => if t then R.ok (value_1, t_3.2) else (((idxD (value_1) (0 : Int)).bind fun (y_7 : D) => R.ok (isA .str y_7)).bind fun t => if t then ((((idxD (value_1) (0 : Int)).bind fun (y_9 : D) => (((idxD (value_1) (1 : Int)).bind fun a => R.ofOpt (dI.dec a)).bind fun (y_8 : Int) => R.ok (y_8 + (t_3.1))).bind fun (y_10 : Int) => R.ok (y_9, y_10)).bind fun a => R.ok ((eP eD eI) a)).bind fun a => R.ok (a, t_3.2)) else (((lenD (value_1)).bind fun (y_13 : Int) => (M_law_next y_13 (t_3.2))).cb fun (t_11 : (Int × Sta)) => (R.cbIf (((M_law_next (3 : Int) (t_11.2)).bind fun (t_34 : Int × Sta) => R.ok ((decide (t_34.1 = (0 : Int))), t_34.2)).bind fun t => if t.1 then (((lenD (value_1)).bind fun (y_14 : Int) => R.ok (decide ((1 : Int) < y_14))).bind fun c => R.ok (c, t.2)) else R.ok (false, t.2)) (fun (s_16 : Sta) => (((cutD (value_1) none (some (t_11.1))).bind fun (y_17 : D) => (cutD (value_1) (some ((t_11.1) + (1 : Int))) none).bind fun (y_18 : D) => (addD y_17 y_18)).bind fun a => R.ok (a, s_16))) (fun (s_16 : Sta) => (((((cutD (value_1) none (some (t_11.1))).bind fun a => R.ok (a, (s_16))).bind fun (t_28 : D × Sta) => (((((idxD (value_1) (t_11.1)).bind fun (y_32 : D) => (rec y_32 t_28.2)).bind fun t_30 => (R.ok ((), t_30.2)).bind fun u_31 => R.ok ((t_30.1, u_31.1), u_31.2)).bind fun t => R.ok ((fun (q : D × Unit) => [q.1]) t.1, t.2)).bind fun t => R.ok ((eT eD) t.1, t.2)).bind fun (t_29 : D × Sta) => (addD t_28.1 t_29.1).bind fun c => R.ok (c, t_29.2)).bind fun (t_27 : D × Sta) => ((cutD (value_1) (some ((t_11.1) + (1 : Int))) none).bind fun a => R.ok (a, t_27.2)).bind fun (t_33 : D × Sta) => (addD t_27.1 t_33.1).bind fun c => R.ok (c, t_33.2)).cb fun t => R.ok t)))))))))) q.1)) :=
  df_i d sc_law_neighbour (fun _ => rfl) <| fun a s_2 q W => by
    obtain ⟨value_1, _u⟩ := a
    exact Ss.rho (ρ' := [(some (.io q (eSt (s_2)))), (some (.sh (eD (value_1)))), none, none]) (m := (((M_law_next (2 : Int) (s_2)).bind fun (t_5 : Int × Sta) => (idx ([(1 : Int), (-(1 : Int))]) t_5.1).bind fun c => R.ok (c, t_5.2)).cb fun (t_3 : (Int × Sta)) => (if (isA .str (value_1)) then R.ok (value_1, t_3.2) else (if (isA .int (value_1)) then ((((R.ofOpt (dI.dec (value_1))).bind fun (y_6 : Int) => R.ok (y_6 + (t_3.1))).bind fun a => R.ok (eI a)).bind fun a => R.ok (a, t_3.2)) else ((eqR (value_1) ((eT eD) ([] : List D))).bind fun t => if t then R.ok (value_1, t_3.2) else (((idxD (value_1) (0 : Int)).bind fun (y_7 : D) => R.ok (isA .str y_7)).bind fun t => if t then ((((idxD (value_1) (0 : Int)).bind fun (y_9 : D) => (((idxD (value_1) (1 : Int)).bind fun a => R.ofOpt (dI.dec a)).bind fun (y_8 : Int) => R.ok (y_8 + (t_3.1))).bind fun (y_10 : Int) => R.ok (y_9, y_10)).bind fun a => R.ok ((eP eD eI) a)).bind fun a => R.ok (a, t_3.2)) else (((lenD (value_1)).bind fun (y_13 : Int) => (M_law_next y_13 (t_3.2))).cb fun (t_11 : (Int × Sta)) => (R.cbIf (((M_law_next (3 : Int) (t_11.2)).bind fun (t_34 : Int × Sta) => R.ok ((decide (t_34.1 = (0 : Int))), t_34.2)).bind fun t => if t.1 then (((lenD (value_1)).bind fun (y_14 : Int) => R.ok (decide ((1 : Int) < y_14))).bind fun c => R.ok (c, t.2)) else R.ok (false, t.2)) (fun (s_16 : Sta) => (((cutD (value_1) none (some (t_11.1))).bind fun (y_17 : D) => (cutD (value_1) (some ((t_11.1) + (1 : Int))) none).bind fun (y_18 : D) => (addD y_17 y_18)).bind fun a => R.ok (a, s_16))) (fun (s_16 : Sta) => (((((cutD (value_1) none (some (t_11.1))).bind fun a => R.ok (a, (s_16))).bind fun (t_28 : D × Sta) => (((((idxD (value_1) (t_11.1)).bind fun (y_32 : D) => (rec y_32 t_28.2)).bind fun t_30 => (R.ok ((), t_30.2)).bind fun u_31 => R.ok ((t_30.1, u_31.1), u_31.2)).bind fun t => R.ok ((fun (q : D × Unit) => [q.1]) t.1, t.2)).bind fun t => R.ok ((eT eD) t.1, t.2)).bind fun (t_29 : D × Sta) => (addD t_28.1 t_29.1).bind fun c => R.ok (c, t_29.2)).bind fun (t_27 : D × Sta) => ((cutD (value_1) (some ((t_11.1) + (1 : Int))) none).bind fun a => R.ok (a, t_27.2)).bind fun (t_33 : D × Sta) => (addD t_27.1 t_33.1).bind fun c => R.ok (c, t_33.2)).cb fun t => R.ok t)))))))))) (ss_consL (N' := (fun (t_3 : (Int × Sta)) => ([(some (.io q (eSt (t_3.2)))), (some (.sh (eD (value_1)))), (some (.sh (eI (t_3.1)))), none] : Rho))) (s1_setE (ρs := (fun (s : Sta) => ([(some (.io q (eSt (s)))), (some (.sh (eD (value_1)))), none, none] : Rho))) 2 (s_2) (Ee.cast (m' := fun s => ((M_law_next (2 : Int) s).bind fun (t_4 : Int × Sta) => (idx ([(1 : Int), (-(1 : Int))]) t_4.1).bind fun c => R.ok (c, t_4.2))) (ee_ix x_ixL (ee_V (fun s => (sx_NV (sx_lst2 (enc := (eL eI)) (fun a b => [a, b]) (fun _ _ => rfl) sx_int (sx_neg sx_int)) (fun _ => ⟨_, rfl⟩)))) (ee_c1 (f := M_law_next) 0 h__law_next (Nat.le_trans (show 1 ≤ 1 by decide) hk) (Lens.mk rs_io (fun _ => rfl) (fun _ _ => rfl)) (fun s => sx_int))) (fun s => rfl))) (fun t_3 => (ss_ifX (Tt.cast (tt_of (sx_isi .str rfl B.isinstance B.str (by decide +kernel) (sx_VP (sx_var (enc := eD) 1 (a := value_1))))) rfl) (ss_dead (s1_ret (f := fun a => (a, t_3.2)) (sx_var (enc := eD) 1 (a := value_1)) (fun _ => rfl) (fun _ => .k .nil))) (ss_ifX (Tt.cast (tt_of (sx_isi .int rfl B.isinstance B.int (by decide +kernel) (sx_VP (sx_var (enc := eD) 1 (a := value_1))))) rfl) (ss_dead (s1_ret (f := fun a => (a, t_3.2)) (sx_upD (sx_op o_add (sx_VP (sx_dn dI (sx_var (enc := eD) 1 (a := value_1)))) (sx_VP (sx_var (enc := eI) 2 (a := t_3.1))))) (fun _ => rfl) (fun _ => .k .nil))) (ss_ifX (Tt.cast (tt_cmp o_eqD (sx_VP (sx_var (enc := eD) 1 (a := value_1))) (sx_VP (sx_upD (sx_tup0 (e := eD))))) rfl) (ss_dead (s1_ret (f := fun a => (a, t_3.2)) (sx_var (enc := eD) 1 (a := value_1)) (fun _ => rfl) (fun _ => .k .nil))) (ss_ifX (Tt.cast (tt_of (sx_isi .str rfl B.isinstance B.str (by decide +kernel) (sx_VP (sx_ix x_ixD (sx_VP (sx_var (enc := eD) 1 (a := value_1))) (sx_VP sx_int))))) rfl) (ss_dead (s1_ret (f := fun a => (a, t_3.2)) (sx_upD (sx_tup2 (enc := (eP eD eI)) (fun a b => (a, b)) (fun _ _ => rfl) (sx_ix x_ixD (sx_VP (sx_var (enc := eD) 1 (a := value_1))) (sx_VP sx_int)) (sx_op o_add (sx_VP (sx_dn dI (sx_ix x_ixD (sx_VP (sx_var (enc := eD) 1 (a := value_1))) (sx_VP sx_int)))) (sx_VP (sx_var (enc := eI) 2 (a := t_3.1)))))) (fun _ => rfl) (fun _ => .k .nil))) (ss_consL (N' := (fun (t_11 : (Int × Sta)) => ([(some (.io q (eSt (t_11.2)))), (some (.sh (eD (value_1)))), (some (.sh (eI (t_3.1)))), (some (.sh (eI (t_11.1))))] : Rho))) (s1_setE (ρs := (fun (s : Sta) => ([(some (.io q (eSt (s)))), (some (.sh (eD (value_1)))), (some (.sh (eI (t_3.1)))), none] : Rho))) 3 (t_3.2) (Ee.cast (m' := fun s => ((lenD (value_1)).bind fun (y_12 : Int) => (M_law_next y_12 s))) (ee_c1 (f := M_law_next) 0 h__law_next (Nat.le_trans (show 1 ≤ 1 by decide) hk) (Lens.mk rs_io (fun _ => rfl) (fun _ _ => rfl)) (fun s => (sx_lenD B.len (sx_VP (sx_var (enc := eD) 1 (a := value_1)))))) (fun s => rfl))) (fun t_11 => (ss_ifXE (ρs := (fun (s : Sta) => ([(some (.io q (eSt (s)))), (some (.sh (eD (value_1)))), (some (.sh (eI (t_3.1)))), (some (.sh (eI (t_11.1))))] : Rho))) (t_11.2) (Te.cast (m' := fun s => (((M_law_next (3 : Int) s).bind fun (t_35 : Int × Sta) => R.ok ((decide (t_35.1 = (0 : Int))), t_35.2)).bind fun t => if t.1 then (((lenD (value_1)).bind fun (y_14 : Int) => R.ok (decide ((1 : Int) < y_14))).bind fun c => R.ok (c, t.2)) else R.ok (false, t.2))) (te_w (twe_and (te_cmp (o_eq eqq_int) (ee_c1 (f := M_law_next) 0 h__law_next (Nat.le_trans (show 1 ≤ 1 by decide) hk) (Lens.mk rs_io (fun _ => rfl) (fun _ _ => rfl)) (fun s => sx_int)) (ee_V (fun s => sx_int))) (twe_and1 (te_t (fun s => (tt_cmp o_gt (sx_VP (sx_lenD B.len (sx_VP (sx_var (enc := eD) 1 (a := value_1))))) (sx_VP sx_int))))))) (fun s => rfl)) (fun s_16 => (ss_dead (s1_ret (f := fun a => (a, s_16)) (sx_op o_addD (sx_VP (sx_sl s_cutD (sx_VP (sx_var (enc := eD) 1 (a := value_1))) so_none (so_some (sx_var (enc := eI) 3 (a := t_11.1))))) (sx_VP (sx_sl s_cutD (sx_VP (sx_var (enc := eD) 1 (a := value_1))) (so_some (sx_op o_add (sx_VP (sx_var (enc := eI) 3 (a := t_11.1))) (sx_VP sx_int))) so_none))) (fun _ => rfl) (fun _ => .k .nil)))) (fun s_16 => (ss_dead (s1_retE (ρs := (fun (s : Sta) => ([(some (.io q (eSt (s)))), (some (.sh (eD (value_1)))), (some (.sh (eI (t_3.1)))), (some (.sh (eI (t_11.1))))] : Rho))) (f := fun t => t) (s_16) (Ee.cast (m' := fun s => ((((cutD (value_1) none (some (t_11.1))).bind fun a => R.ok (a, s)).bind fun (t_21 : D × Sta) => (((((idxD (value_1) (t_11.1)).bind fun (y_25 : D) => (rec y_25 t_21.2)).bind fun t_23 => (R.ok ((), t_23.2)).bind fun u_24 => R.ok ((t_23.1, u_24.1), u_24.2)).bind fun t => R.ok ((fun (q : D × Unit) => [q.1]) t.1, t.2)).bind fun t => R.ok ((eT eD) t.1, t.2)).bind fun (t_22 : D × Sta) => (addD t_21.1 t_22.1).bind fun c => R.ok (c, t_22.2)).bind fun (t_20 : D × Sta) => ((cutD (value_1) (some ((t_11.1) + (1 : Int))) none).bind fun a => R.ok (a, t_20.2)).bind fun (t_26 : D × Sta) => (addD t_20.1 t_26.1).bind fun c => R.ok (c, t_26.2))) (ee_op o_addD (ee_op o_addD (ee_V (fun s => (sx_sl s_cutD (sx_VP (sx_var (enc := eD) 1 (a := value_1))) so_none (so_some (sx_var (enc := eI) 3 (a := t_11.1)))))) (ee_upD (ee_tup (ed := (eT eD)) (fun (q : D × Unit) => [q.1]) 1 (by decide) (fun _ => rfl) (fun _ => rfl) (ae_cons (ee_c1 (f := rec) 0 h_rec (Nat.le_refl _) (Lens.mk rs_io (fun _ => rfl) (fun _ _ => rfl)) (fun s => (sx_ix x_ixD (sx_VP (sx_var (enc := eD) 1 (a := value_1))) (sx_VP (sx_var (enc := eI) 3 (a := t_11.1)))))) ae_nil)))) (ee_V (fun s => (sx_sl s_cutD (sx_VP (sx_var (enc := eD) 1 (a := value_1))) (so_some (sx_op o_add (sx_VP (sx_var (enc := eI) 3 (a := t_11.1))) (sx_VP sx_int))) so_none)))) (fun s => rfl)) (fun _ => rfl) (fun _ => .k .nil)))))) (fun _ => rfl))))))) (fun _ => rfl)) rfl
theorem df_law_neighbour {G : Pg} (B : Bi G) (Er : RaOk G) (Et : ErrOk G) (d : Def G "_law_neighbour" (topS 20) ["state", "value"]) (h__law_next : Df G 1 "_law_next" ["state", "limit"] (spI eSt (fun q : Int × Unit => ([eI q.1] : List D)) eI fun q => (M_law_next q.1))) : ∀ n : Nat, Df G (1 + n) "_law_neighbour" ["state", "value"] (spI eSt (fun q : D × Unit => ([eD q.1] : List D)) eD fun q => (M_law_neighbour n q.1))
  | 0 => df_noI d
  | n + 1 => df_law_neighbour_step B Er Et d h__law_next (Nat.le_add_right _ _) (df_law_neighbour B Er Et d h__law_next n)
def M_law_parts_step (rec : Int → Int → R (List (List Int))) (number_1 : Int) (most_2 : Int) : R (List (List Int)) :=
  (if (decide ((number_1) = (0 : Int))) then R.ok ([([] : List Int)]) else ((R.ok ([] : List (List Int))).bind fun (found_3 : (List (List Int))) => (((rng3 (min (number_1) (most_2)) (0 : Int) (-(1 : Int))).bind fun (y_11 : (List Int)) => (forR (fun (part_5 : Int) (t_4 : (List (List Int))) => ((((rec ((number_1) - (part_5)) (part_5)).bind fun (y_7 : (List (List Int))) => (R.mapM (fun (rest_6 : (List Int)) => (catR ([(part_5)]) (rest_6))) y_7)).bind fun (y_8 : (List (List Int))) => (catR (t_4) y_8)).bind fun (found_9 : (List (List Int))) => R.ok found_9)) y_11 found_3)).bind fun (t_10 : (List (List Int))) => R.ok (t_10))))
def M_law_parts : Nat → Int → Int → R (List (List Int))
  | 0 => fun _ _ => .bad
  | n + 1 => M_law_parts_step (M_law_parts n)
theorem sc_law_parts : FnScope ["number", "most", "found", "part", "rest"] ["number", "most"] (defScope (topS 21)) := ⟨rfl, rfl, rfl, by decide +kernel, rfl, by decide +kernel, by decide +kernel⟩
theorem df_law_parts_step {G : Pg} (B : Bi G) (Er : RaOk G) (Et : ErrOk G) (d : Def G "_law_parts" (topS 21) ["number", "most"])   {rec : Int → Int → R (List (List Int))} {k : Nat} (hk : 0 ≤ k) (h_rec : Df G k "_law_parts" ["number", "most"] (spP G.cls (fun q : Int × Int × Unit => [eI q.1, eI q.2.1]) (eL (eT eI)) fun q => (rec q.1 q.2.1))) : Df G (k + 1) "_law_parts" ["number", "most"] (spP G.cls (fun q : Int × Int × Unit => [eI q.1, eI q.2.1]) (eL (eT eI)) fun q => ((fun (number_1 : Int) (most_2 : Int) => (if (decide ((number_1) = (0 : Int))) then R.ok ([([] : List Int)]) else ((R.ok ([] : List (List Int))).bind fun (found_3 : (List (List Int))) => (((rng3 (min (number_1) (most_2)) (0 : Int) (-(1 : Int))).bind fun (y_11 : (List Int)) => (forR (fun (part_5 : Int) (t_4 : (List (List Int))) => ((((rec ((number_1) - (part_5)) (part_5)).bind fun (y_7 : (List (List Int))) => (R.mapM (fun (rest_6 : (List Int)) => (catR ([(part_5)]) (rest_6))) y_7)).bind fun (y_8 : (List (List Int))) => (catR (t_4) y_8)).bind fun (found_9 : (List (List Int))) => R.ok found_9)) y_11 found_3)).bind fun (t_10 : (List (List Int))) => R.ok (t_10))))) q.1 q.2.1)) :=
  df_p (none) nofun d sc_law_parts (fun _ => rfl) <| fun a W => by
    obtain ⟨number_1, most_2, _u⟩ := a
    exact Ss.rho (ρ' := [(some (.sh (eI (number_1)))), (some (.sh (eI (most_2)))), none, none, none]) (m := (if (decide ((number_1) = (0 : Int))) then R.ok ([([] : List Int)]) else ((R.ok ([] : List (List Int))).bind fun (found_3 : (List (List Int))) => (((rng3 (min (number_1) (most_2)) (0 : Int) (-(1 : Int))).bind fun (y_11 : (List Int)) => (forR (fun (part_5 : Int) (t_4 : (List (List Int))) => ((((rec ((number_1) - (part_5)) (part_5)).bind fun (y_7 : (List (List Int))) => (R.mapM (fun (rest_6 : (List Int)) => (catR ([(part_5)]) (rest_6))) y_7)).bind fun (y_8 : (List (List Int))) => (catR (t_4) y_8)).bind fun (found_9 : (List (List Int))) => R.ok found_9)) y_11 found_3)).bind fun (t_10 : (List (List Int))) => R.ok (t_10))))) (ss_ifX (Tt.cast (tt_cmp (o_eq eqq_int) (sx_VP (sx_var (enc := eI) 0 (a := number_1))) (sx_VP sx_int)) rfl) (ss_dead (s1_ret0 (Sx.cast (sx_NV (sx_lst1 (enc := (eL (eT eI))) (fun a => [a]) (fun _ => rfl) (sx_tup0 (e := eI))) (fun _ => ⟨_, rfl⟩)) rfl))) (ss_consL (N' := (fun (found_3 : (List (List Int))) => ([(some (.sh (eI (number_1)))), (some (.sh (eI (most_2)))), (some (.sh ((eL (eT eI)) (found_3)))), none, none] : Rho))) (s1_set 2 (Sx.cast (sx_NV (sx_lst0 (e := (eT eI))) (fun _ => ⟨_, rfl⟩)) rfl)) (fun found_3 => (ss_consL (N' := (fun (t_10 : (List (List Int))) => ([(some (.sh (eI (number_1)))), (some (.sh (eI (most_2)))), (some (.sh ((eL (eT eI)) (t_10)))), none, none] : Rho))) (s1_forR' (L := (fun (t : (List (List Int))) => ([(some (.sh (eI (number_1)))), (some (.sh (eI (most_2)))), (some (.sh ((eL (eT eI)) (t)))), none, none] : Rho))) (t0 := found_3) (g := (fun (part_5 : Int) (t_4 : (List (List Int))) => ((((rec ((number_1) - (part_5)) (part_5)).bind fun (y_7 : (List (List Int))) => (R.mapM (fun (rest_6 : (List Int)) => (catR ([(part_5)]) (rest_6))) y_7)).bind fun (y_8 : (List (List Int))) => (catR (t_4) y_8)).bind fun (found_9 : (List (List Int))) => R.ok found_9))) (Si.cast (si_rng3P B.range (Sx.cast (sx_b2 c_min2 B.min (by decide +kernel) (sx_VP (sx_var (enc := eI) 0 (a := number_1))) (sx_VP (sx_var (enc := eI) 1 (a := most_2)))) rfl) sx_int (Sx.cast (sx_neg sx_int) rfl)) rfl) (gt_name (ea := eI) 3) (.k (.k (.k (.d (.d .nil))))) (fun part_5 t_4 nx => Ss.rho (ρ' := [(some (.sh (eI (number_1)))), (some (.sh (eI (most_2)))), (some (.sh ((eL (eT eI)) (t_4)))), (some (.sh (eI (part_5)))), none]) (sj_consL (N' := (fun (found_9 : (List (List Int))) => ([(some (.sh (eI (number_1)))), (some (.sh (eI (most_2)))), (some (.sh ((eL (eT eI)) (found_9)))), (some (.sh (eI (part_5)))), none] : Rho))) (fun _ => (s1_set 2 (Sx.cast (sx_NV (sx_opP o_catL (sx_VP (sx_var (enc := (eL (eT eI))) 2 (a := t_4))) (sx_NP (sx_lc1 (own := [("rest", 4)]) (si_listP (sx_VP (sx_c2 (f := rec) h_rec (Nat.le_refl _) (sx_op o_sub (sx_VP (sx_var (enc := eI) 0 (a := number_1))) (sx_VP (sx_var (enc := eI) 3 (a := part_5)))) (sx_var (enc := eI) 3 (a := part_5))))) (by kernel_rfl) (gt_name (ea := (eT eI)) 4) (fun rest_6 => (sx_op o_catT (sx_VP (sx_tup1 (enc := (eT eI)) (fun a => [a]) (fun _ => rfl) (sx_var (enc := eI) 3 (a := part_5)))) (sx_VP (sx_var (enc := (eT eI)) 4 (a := rest_6)))))) (fun _ => ⟨_, rfl⟩))) (fun _ => ⟨_, rfl⟩)) rfl))) (fun found_9 => (sj_nil (N := (fun (t : (List (List Int))) => ([(some (.sh (eI (number_1)))), (some (.sh (eI (most_2)))), (some (.sh ((eL (eT eI)) (t)))), none, none] : Rho))) found_9 (.k (.k (.k (.d (.d .nil))))))) (fun _ => rfl)) rfl)) (fun t_10 => (ss_dead (s1_ret0 (Sx.cast (sx_var (enc := (eL (eT eI))) 2 (a := t_10)) rfl)))) (fun _ => rfl))) (fun _ => rfl))) rfl
theorem df_law_parts {G : Pg} (B : Bi G) (Er : RaOk G) (Et : ErrOk G) (d : Def G "_law_parts" (topS 21) ["number", "most"])  : ∀ n : Nat, Df G (0 + n) "_law_parts" ["number", "most"] (spP G.cls (fun q : Int × Int × Unit => [eI q.1, eI q.2.1]) (eL (eT eI)) fun q => (M_law_parts n q.1 q.2.1))
  | 0 => df_noP d
  | n + 1 => df_law_parts_step B Er Et d  (Nat.le_add_right _ _) (df_law_parts B Er Et d  n)
def M_law_accepts (number_1 : Int) (most_2 : Int) (told_3 : D) : R Bool :=
  ((M_law_parts 20 (number_1) (most_2)).bind fun (rows_4 : (List (List Int))) => (((R.mapM (fun (row_5 : (List Int)) => (((((catR ([(0 : Int)]) (row_5)).bind fun (y_6 : (List Int)) => (maxR y_6)).bind fun (y_7 : Int) => (rng1 y_7)).bind fun (y_10 : (List Int)) => R.ok (List.map (fun (k_8 : Int) => ((List.map (fun (x_9 : Int) => x_9) (List.filter (fun (x_9 : Int) => (decide ((k_8) < (x_9)))) (row_5))).length : Int)) y_10)).bind fun (y_11 : (List Int)) => R.ok (y_11))) (rows_4)).bind fun (y_12 : (List (List Int))) => R.ok (y_12)).bind fun (turned_there_13 : (List (List Int))) => (M_law_same 8 (told_3) ((eP3 eS (eT (eT eI)) (eT (eT eI))) (("parts" : Str), (rows_4), (turned_there_13))))))
theorem sc_law_accepts : FnScope ["number", "most", "told", "rows", "turned_there", "row", "k", "x"] ["number", "most", "told"] (defScope (topS 22)) := ⟨rfl, rfl, rfl, by decide +kernel, rfl, by decide +kernel, by decide +kernel⟩
theorem df_law_accepts_v {G : Pg} (B : Bi G) (Er : RaOk G) (Et : ErrOk G) (d : Def G "_law_accepts" (topS 22) ["number", "most", "told"]) {M_law_same : Nat → D → D → R Bool} {M_law_parts : Nat → Int → Int → R (List (List Int))} (h__law_same : Df G 8 "_law_same" ["actual", "expected"] (spP G.cls (fun q : D × D × Unit => [eD q.1, eD q.2.1]) eB fun q => (M_law_same 8 q.1 q.2.1))) (h__law_parts : Df G 20 "_law_parts" ["number", "most"] (spP G.cls (fun q : Int × Int × Unit => [eI q.1, eI q.2.1]) (eL (eT eI)) fun q => (M_law_parts 20 q.1 q.2.1))) : Df G 21 "_law_accepts" ["number", "most", "told"] (spP G.cls (fun q : Int × Int × D × Unit => [eI q.1, eI q.2.1, eD q.2.2.1]) eB fun q => ((fun (number_1 : Int) (most_2 : Int) (told_3 : D) => ((M_law_parts 20 (number_1) (most_2)).bind fun (rows_4 : (List (List Int))) => (((R.mapM (fun (row_5 : (List Int)) => (((((catR ([(0 : Int)]) (row_5)).bind fun (y_6 : (List Int)) => (maxR y_6)).bind fun (y_7 : Int) => (rng1 y_7)).bind fun (y_10 : (List Int)) => R.ok (List.map (fun (k_8 : Int) => ((List.map (fun (x_9 : Int) => x_9) (List.filter (fun (x_9 : Int) => (decide ((k_8) < (x_9)))) (row_5))).length : Int)) y_10)).bind fun (y_11 : (List Int)) => R.ok (y_11))) (rows_4)).bind fun (y_12 : (List (List Int))) => R.ok (y_12)).bind fun (turned_there_13 : (List (List Int))) => (M_law_same 8 (told_3) ((eP3 eS (eT (eT eI)) (eT (eT eI))) (("parts" : Str), (rows_4), (turned_there_13))))))) q.1 q.2.1 q.2.2.1)) :=
  df_p (none) nofun d sc_law_accepts (fun _ => rfl) <| fun a W => by
    obtain ⟨number_1, most_2, told_3, _u⟩ := a
    exact Ss.rho (ρ' := [(some (.sh (eI (number_1)))), (some (.sh (eI (most_2)))), (some (.sh (eD (told_3)))), none, none, none, none, none]) (m := ((M_law_parts 20 (number_1) (most_2)).bind fun (rows_4 : (List (List Int))) => (((R.mapM (fun (row_5 : (List Int)) => (((((catR ([(0 : Int)]) (row_5)).bind fun (y_6 : (List Int)) => (maxR y_6)).bind fun (y_7 : Int) => (rng1 y_7)).bind fun (y_10 : (List Int)) => R.ok (List.map (fun (k_8 : Int) => ((List.map (fun (x_9 : Int) => x_9) (List.filter (fun (x_9 : Int) => (decide ((k_8) < (x_9)))) (row_5))).length : Int)) y_10)).bind fun (y_11 : (List Int)) => R.ok (y_11))) (rows_4)).bind fun (y_12 : (List (List Int))) => R.ok (y_12)).bind fun (turned_there_13 : (List (List Int))) => (M_law_same 8 (told_3) ((eP3 eS (eT (eT eI)) (eT (eT eI))) (("parts" : Str), (rows_4), (turned_there_13))))))) (ss_consL (N' := (fun (rows_4 : (List (List Int))) => ([(some (.sh (eI (number_1)))), (some (.sh (eI (most_2)))), (some (.sh (eD (told_3)))), (some (.sh ((eL (eT eI)) (rows_4)))), none, none, none, none] : Rho))) (s1_set 3 (Sx.cast (sx_c2 (f := M_law_parts 20) h__law_parts (show 20 ≤ 20 by decide) (sx_var (enc := eI) 0 (a := number_1)) (sx_var (enc := eI) 1 (a := most_2))) rfl)) (fun rows_4 => (ss_consL (N' := (fun (turned_there_13 : (List (List Int))) => ([(some (.sh (eI (number_1)))), (some (.sh (eI (most_2)))), (some (.sh (eD (told_3)))), (some (.sh ((eL (eT eI)) (rows_4)))), (some (.sh ((eT (eT eI)) (turned_there_13)))), none, none, none] : Rho))) (s1_set 4 (Sx.cast (sx_t1 c_tupL B.tuple (by decide +kernel) (sx_NP (sx_lc1 (own := [("row", 5)]) (si_listP (sx_VP (sx_var (enc := (eL (eT eI))) 3 (a := rows_4)))) (by kernel_rfl) (gt_name (ea := (eT eI)) 5) (fun row_5 => (sx_t1 c_tupL B.tuple (by decide +kernel) (sx_NP (sx_lc1P (own := [("k", 6)]) (si_st (si_rng1 B.range (sx_b1 c_maxT B.max (by decide +kernel) (sx_VP (sx_op o_catT (sx_VP (sx_tup1 (enc := (eT eI)) (fun a => [a]) (fun _ => rfl) sx_int)) (sx_VP (sx_var (enc := (eT eI)) 5 (a := row_5)))))))) (by kernel_rfl) (gt_name (ea := eI) 6) (fun k_8 => (Sx.cast (sx_lenL B.len (sx_NP (sx_lc2P (own := [("x", 7)]) (si_st (si_tup (sx_VP (sx_var (enc := (eT eI)) 5 (a := row_5))))) (by kernel_rfl) (gt_name (ea := eI) 7) (fun x_9 => Tt.cast (tt_cmp o_gt (sx_VP (sx_var (enc := eI) 7 (a := x_9))) (sx_VP (sx_var (enc := eI) 6 (a := k_8)))) rfl) (fun x_9 => (sx_var (enc := eI) 7 (a := x_9)))) (fun _ => ⟨_, rfl⟩))) rfl))) (fun _ => ⟨_, rfl⟩))))) (fun _ => ⟨_, rfl⟩))) rfl)) (fun turned_there_13 => (ss_dead (s1_ret0 (Sx.cast (sx_c2 (f := M_law_same 8) h__law_same (show 8 ≤ 20 by decide) (sx_var (enc := eD) 2 (a := told_3)) (sx_upD (sx_tup3 (enc := (eP3 eS (eT (eT eI)) (eT (eT eI)))) (fun a b c => (a, b, c)) (fun _ _ _ => rfl) sx_str (sx_t1 c_tupL B.tuple (by decide +kernel) (sx_VP (sx_var (enc := (eL (eT eI))) 3 (a := rows_4)))) (sx_var (enc := (eT (eT eI))) 4 (a := turned_there_13))))) rfl)))) (fun _ => rfl))) (fun _ => rfl)) rfl
theorem df_law_accepts {G : Pg} (B : Bi G) (Er : RaOk G) (Et : ErrOk G) (d : Def G "_law_accepts" (topS 22) ["number", "most", "told"]) (h__law_same : Df G 8 "_law_same" ["actual", "expected"] (spP G.cls (fun q : D × D × Unit => [eD q.1, eD q.2.1]) eB fun q => (M_law_same 8 q.1 q.2.1))) (h__law_parts : Df G 20 "_law_parts" ["number", "most"] (spP G.cls (fun q : Int × Int × Unit => [eI q.1, eI q.2.1]) (eL (eT eI)) fun q => (M_law_parts 20 q.1 q.2.1))) : Df G 21 "_law_accepts" ["number", "most", "told"] (spP G.cls (fun q : Int × Int × D × Unit => [eI q.1, eI q.2.1, eD q.2.2.1]) eB fun q => (M_law_accepts q.1 q.2.1 q.2.2.1)) :=
  df_law_accepts_v B Er Et d h__law_same h__law_parts
def M_law_told_near (number_1 : Int) (most_2 : Int) (s_3 : Sta) : R (D × Sta) :=
  ((R.ok [(eI (number_1)), (eI (most_2))]).bind fun (things_4 : (List D)) => ((M_law_next (2 : Int) (s_3)).cb fun (t_5 : (Int × Sta)) => ((((idx (things_4) (t_5.1)).bind fun (y_8 : D) => (M_law_neighbour 8 y_8 (t_5.2))).bind fun (u_7 : D × Sta) => (setR (things_4) (t_5.1) u_7.1).bind fun ys => R.ok (ys, u_7.2)).cb fun (t_6 : ((List D) × Sta)) => (R.caught (((((idx (t_6.1) (0 : Int)).bind fun a => R.ofOpt (dI.dec a)).bind fun (y_9 : Int) => ((idx (t_6.1) (1 : Int)).bind fun a => R.ofOpt (dI.dec a)).bind fun (y_10 : Int) => (M_heap_parts y_9 y_10)).bind fun a => R.ok ((eP3 eS (eT (eT eI)) (eT (eT eI))) a)).bind fun a => R.ok (a, t_6.2)) (R.ok (PyData.tuple [], t_6.2))))))
theorem sc_law_told_near : FnScope ["state", "number", "most", "things", "pick", "error"] ["state", "number", "most"] (defScope (topS 23)) := ⟨rfl, rfl, rfl, by decide +kernel, rfl, by decide +kernel, by decide +kernel⟩
theorem df_law_told_near_v {G : Pg} (B : Bi G) (Er : RaOk G) (Et : ErrOk G) (d : Def G "_law_told_near" (topS 23) ["state", "number", "most"]) {M_heap_parts : Int → Int → R (Str × (List (List Int)) × (List (List Int)))} {M_law_next : Int → Sta → R (Int × Sta)} {M_law_neighbour : Nat → D → Sta → R (D × Sta)} (h__heap_parts : Df G 21 "heap_parts" ["number", "most"] (spP G.cls (fun q : Int × Int × Unit => [eI q.1, eI q.2.1]) (eP3 eS (eT (eT eI)) (eT (eT eI))) fun q => (M_heap_parts q.1 q.2.1))) (h__law_next : Df G 1 "_law_next" ["state", "limit"] (spI eSt (fun q : Int × Unit => ([eI q.1] : List D)) eI fun q => (M_law_next q.1))) (h__law_neighbour : Df G 9 "_law_neighbour" ["state", "value"] (spI eSt (fun q : D × Unit => ([eD q.1] : List D)) eD fun q => (M_law_neighbour 8 q.1))) : Df G 22 "_law_told_near" ["state", "number", "most"] (spI eSt (fun q : Int × Int × Unit => ([eI q.1, eI q.2.1] : List D)) eD fun q => ((fun (number_1 : Int) (most_2 : Int) (s_3 : Sta) => ((R.ok [(eI (number_1)), (eI (most_2))]).bind fun (things_4 : (List D)) => ((M_law_next (2 : Int) (s_3)).cb fun (t_5 : (Int × Sta)) => ((((idx (things_4) (t_5.1)).bind fun (y_8 : D) => (M_law_neighbour 8 y_8 (t_5.2))).bind fun (u_7 : D × Sta) => (setR (things_4) (t_5.1) u_7.1).bind fun ys => R.ok (ys, u_7.2)).cb fun (t_6 : ((List D) × Sta)) => (R.caught (((((idx (t_6.1) (0 : Int)).bind fun a => R.ofOpt (dI.dec a)).bind fun (y_9 : Int) => ((idx (t_6.1) (1 : Int)).bind fun a => R.ofOpt (dI.dec a)).bind fun (y_10 : Int) => (M_heap_parts y_9 y_10)).bind fun a => R.ok ((eP3 eS (eT (eT eI)) (eT (eT eI))) a)).bind fun a => R.ok (a, t_6.2)) (R.ok (PyData.tuple [], t_6.2))))))) q.1 q.2.1)) :=
  df_i d sc_law_told_near (fun _ => rfl) <| fun a s_3 q W => by
    obtain ⟨number_1, most_2, _u⟩ := a
    exact Ss.rho (ρ' := [(some (.io q (eSt (s_3)))), (some (.sh (eI (number_1)))), (some (.sh (eI (most_2)))), none, none, none]) (m := ((R.ok [(eI (number_1)), (eI (most_2))]).bind fun (things_4 : (List D)) => ((M_law_next (2 : Int) (s_3)).cb fun (t_5 : (Int × Sta)) => ((((idx (things_4) (t_5.1)).bind fun (y_8 : D) => (M_law_neighbour 8 y_8 (t_5.2))).bind fun (u_7 : D × Sta) => (setR (things_4) (t_5.1) u_7.1).bind fun ys => R.ok (ys, u_7.2)).cb fun (t_6 : ((List D) × Sta)) => (R.caught (((((idx (t_6.1) (0 : Int)).bind fun a => R.ofOpt (dI.dec a)).bind fun (y_9 : Int) => ((idx (t_6.1) (1 : Int)).bind fun a => R.ofOpt (dI.dec a)).bind fun (y_10 : Int) => (M_heap_parts y_9 y_10)).bind fun a => R.ok ((eP3 eS (eT (eT eI)) (eT (eT eI))) a)).bind fun a => R.ok (a, t_6.2)) (R.ok (PyData.tuple [], t_6.2))))))) (ss_consL (N' := (fun (things_4 : (List D)) => ([(some (.io q (eSt (s_3)))), (some (.sh (eI (number_1)))), (some (.sh (eI (most_2)))), (some (.ow ((eL eD) (things_4)))), none, none] : Rho))) (s1_setN 3 (Sx.cast (sx_lst2 (enc := (eL eD)) (fun a b => [a, b]) (fun _ _ => rfl) (sx_upD (sx_var (enc := eI) 1 (a := number_1))) (sx_upD (sx_var (enc := eI) 2 (a := most_2)))) rfl) (fun _ => ⟨_, rfl⟩)) (fun things_4 => (ss_consL (N' := (fun (t_5 : (Int × Sta)) => ([(some (.io q (eSt (t_5.2)))), (some (.sh (eI (number_1)))), (some (.sh (eI (most_2)))), (some (.ow ((eL eD) (things_4)))), (some (.sh (eI (t_5.1)))), none] : Rho))) (s1_setE (ρs := (fun (s : Sta) => ([(some (.io q (eSt (s)))), (some (.sh (eI (number_1)))), (some (.sh (eI (most_2)))), (some (.ow ((eL eD) (things_4)))), none, none] : Rho))) 4 (s_3) (Ee.cast (m' := fun s => (M_law_next (2 : Int) s)) (ee_c1 (f := M_law_next) 0 h__law_next (show 1 ≤ 21 by decide) (Lens.mk rs_io (fun _ => rfl) (fun _ _ => rfl)) (fun s => sx_int)) (fun s => rfl))) (fun t_5 => (ss_consL (N' := (fun (t_6 : ((List D) × Sta)) => ([(some (.io q (eSt (t_6.2)))), (some (.sh (eI (number_1)))), (some (.sh (eI (most_2)))), (some (.ow ((eL eD) (t_6.1)))), (some (.sh (eI (t_5.1)))), none] : Rho))) (s1_setItemF (ρs := (fun (s : Sta) => ([(some (.io q (eSt (s)))), (some (.sh (eI (number_1)))), (some (.sh (eI (most_2)))), (some (.ow ((eL eD) (things_4)))), (some (.sh (eI (t_5.1)))), none] : Rho))) 3 (t_5.2) (fun _ => ⟨rfl, .inl rfl⟩) (ee_c1 (f := M_law_neighbour 8) 0 h__law_neighbour (show 9 ≤ 21 by decide) (Lens.mk rs_io (fun _ => rfl) (fun _ _ => rfl)) (fun s => (sx_ix x_ixL (sx_own (enc := (eL eD)) 3 (a := things_4)) (sx_VP (sx_var (enc := eI) 4 (a := t_5.1)))))) (fun s => (sx_var (enc := eI) 4 (a := t_5.1)))) (fun t_6 => (ss_dead (s1_near (ρx := [some (.io q (eSt (t_6.2)))]) Et 5 (PyData.tuple [], t_6.2) rfl (fun W => ((ss_dead (s1_ret (f := fun a => (a, t_6.2)) (sx_upD (sx_c2 (f := M_heap_parts) h__heap_parts (show 21 ≤ 21 by decide) (sx_dn dI (sx_ix x_ixL (sx_own (enc := (eL eD)) 3 (a := t_6.1)) (sx_VP sx_int))) (sx_dn dI (sx_ix x_ixL (sx_own (enc := (eL eD)) 3 (a := t_6.1)) (sx_VP sx_int))))) (fun _ => rfl) (fun _ => .k .nil))))) (.k .nil)))) (fun _ => rfl))) (fun _ => rfl))) (fun _ => rfl)) rfl
theorem df_law_told_near {G : Pg} (B : Bi G) (Er : RaOk G) (Et : ErrOk G) (d : Def G "_law_told_near" (topS 23) ["state", "number", "most"]) (h__heap_parts : Df G 21 "heap_parts" ["number", "most"] (spP G.cls (fun q : Int × Int × Unit => [eI q.1, eI q.2.1]) (eP3 eS (eT (eT eI)) (eT (eT eI))) fun q => (M_heap_parts q.1 q.2.1))) (h__law_next : Df G 1 "_law_next" ["state", "limit"] (spI eSt (fun q : Int × Unit => ([eI q.1] : List D)) eI fun q => (M_law_next q.1))) (h__law_neighbour : Df G 9 "_law_neighbour" ["state", "value"] (spI eSt (fun q : D × Unit => ([eD q.1] : List D)) eD fun q => (M_law_neighbour 8 q.1))) : Df G 22 "_law_told_near" ["state", "number", "most"] (spI eSt (fun q : Int × Int × Unit => ([eI q.1, eI q.2.1] : List D)) eD fun q => (M_law_told_near q.1 q.2.1)) :=
  df_law_told_near_v B Er Et d h__heap_parts h__law_next h__law_neighbour
def M_law_unfit (number_1 : Int) (most_2 : Int) : R Bool :=
  (forK (fun (judged_4 : Bool) (t_3 : Unit) (nx_6 : Unit → R Bool) => (R.caughtU ((if judged_4 then ((M_judge_heap_parts (number_1) (most_2) (eN ())).bind fun (u_8 : Bool) => R.ok ()) else ((M_heap_parts (number_1) (most_2)).bind fun (u_9 : (Str × (List (List Int)) × (List (List Int)))) => R.ok ())).bind fun (t_10 : Unit) => R.ok (false)) (nx_6 ()))) (fun (t_5 : Unit) => R.ok (true)) ([(false), (true)]) ())
theorem sc_law_unfit : FnScope ["number", "most", "judged", "error"] ["number", "most"] (defScope (topS 24)) := ⟨rfl, rfl, rfl, by decide +kernel, rfl, by decide +kernel, by decide +kernel⟩
theorem df_law_unfit_v {G : Pg} (B : Bi G) (Er : RaOk G) (Et : ErrOk G) (d : Def G "_law_unfit" (topS 24) ["number", "most"]) {M_heap_parts : Int → Int → R (Str × (List (List Int)) × (List (List Int)))} {M_judge_heap_parts : Int → Int → D → R Bool} (h__heap_parts : Df G 21 "heap_parts" ["number", "most"] (spP G.cls (fun q : Int × Int × Unit => [eI q.1, eI q.2.1]) (eP3 eS (eT (eT eI)) (eT (eT eI))) fun q => (M_heap_parts q.1 q.2.1))) (h__judge_heap_parts : Df G 22 "judge_heap_parts" ["number", "most", "told"] (spP G.cls (fun q : Int × Int × D × Unit => [eI q.1, eI q.2.1, eD q.2.2.1]) eB fun q => (M_judge_heap_parts q.1 q.2.1 q.2.2.1))) : Df G 23 "_law_unfit" ["number", "most"] (spP G.cls (fun q : Int × Int × Unit => [eI q.1, eI q.2.1]) eB fun q => ((fun (number_1 : Int) (most_2 : Int) => (forK (fun (judged_4 : Bool) (t_3 : Unit) (nx_6 : Unit → R Bool) => (R.caughtU ((if judged_4 then ((M_judge_heap_parts (number_1) (most_2) (eN ())).bind fun (u_8 : Bool) => R.ok ()) else ((M_heap_parts (number_1) (most_2)).bind fun (u_9 : (Str × (List (List Int)) × (List (List Int)))) => R.ok ())).bind fun (t_10 : Unit) => R.ok (false)) (nx_6 ()))) (fun (t_5 : Unit) => R.ok (true)) ([(false), (true)]) ())) q.1 q.2.1)) :=
  df_p (none) nofun d sc_law_unfit (fun _ => rfl) <| fun a W => by
    obtain ⟨number_1, most_2, _u⟩ := a
    exact Ss.rho (ρ' := [(some (.sh (eI (number_1)))), (some (.sh (eI (most_2)))), none, none]) (m := (forK (fun (judged_4 : Bool) (t_3 : Unit) (nx_6 : Unit → R Bool) => (R.caughtU ((if judged_4 then ((M_judge_heap_parts (number_1) (most_2) (eN ())).bind fun (u_8 : Bool) => R.ok ()) else ((M_heap_parts (number_1) (most_2)).bind fun (u_9 : (Str × (List (List Int)) × (List (List Int)))) => R.ok ())).bind fun (t_10 : Unit) => R.ok (false)) (nx_6 ()))) (fun (t_5 : Unit) => R.ok (true)) ([(false), (true)]) ())) (ss_cons (N := (fun (t : Unit) => ([(some (.sh (eI (number_1)))), (some (.sh (eI (most_2)))), none, none] : Rho))) (K := (fun (t_5 : Unit) => R.ok (true))) (s1_forK' (L := (fun (t : Unit) => ([(some (.sh (eI (number_1)))), (some (.sh (eI (most_2)))), none, none] : Rho))) (K := (fun (t_5 : Unit) => R.ok (true))) (t0 := ()) (f := (fun (judged_4 : Bool) (t_3 : Unit) (nx_6 : Unit → R Bool) => (R.caughtU ((if judged_4 then ((M_judge_heap_parts (number_1) (most_2) (eN ())).bind fun (u_8 : Bool) => R.ok ()) else ((M_heap_parts (number_1) (most_2)).bind fun (u_9 : (Str × (List (List Int)) × (List (List Int)))) => R.ok ())).bind fun (t_10 : Unit) => R.ok (false)) (nx_6 ())))) (Si.cast (si_listV (sx_NV (sx_lst2 (enc := (eL eB)) (fun a b => [a, b]) (fun _ _ => rfl) sx_bl sx_bl) (fun _ => ⟨_, rfl⟩))) rfl) (gt_name (ea := eB) 2) (.k (.k (.d (.d .nil)))) (fun judged_4 t_3 nx_6 => Ss.rho (ρ' := [(some (.sh (eI (number_1)))), (some (.sh (eI (most_2)))), (some (.sh (eB (judged_4)))), none]) (ss_one (s1_unfit (ρx := [(some (.sh (eI (number_1)))), (some (.sh (eI (most_2)))), (some (.sh (eB (judged_4)))), none]) Et 3 (()) (fun W => ((ss_consL (N' := (fun (t_10 : Unit) => ([(some (.sh (eI (number_1)))), (some (.sh (eI (most_2)))), (some (.sh (eB (judged_4)))), none] : Rho))) (s1_ifJ (N := (fun (t : Unit) => ([(some (.sh (eI (number_1)))), (some (.sh (eI (most_2)))), (some (.sh (eB (judged_4)))), none] : Rho))) (Tt.cast (tt_of (sx_var (enc := eB) 2 (a := judged_4))) rfl) (sj_consL (N' := (fun (u_8 : Bool) => ([(some (.sh (eI (number_1)))), (some (.sh (eI (most_2)))), (some (.sh (eB (judged_4)))), none] : Rho))) (fun _ => (s1_expr (Sx.cast (sx_c3 (f := M_judge_heap_parts) h__judge_heap_parts (show 22 ≤ 22 by decide) (sx_var (enc := eI) 0 (a := number_1)) (sx_var (enc := eI) 1 (a := most_2)) (sx_upD sx_non)) rfl))) (fun u_8 => (sj_nil (N := (fun (t : Unit) => ([(some (.sh (eI (number_1)))), (some (.sh (eI (most_2)))), (some (.sh (eB (judged_4)))), none] : Rho))) () (.k (.k (.k (.d .nil)))))) (fun _ => rfl)) (sj_consL (N' := (fun (u_9 : (Str × (List (List Int)) × (List (List Int)))) => ([(some (.sh (eI (number_1)))), (some (.sh (eI (most_2)))), (some (.sh (eB (judged_4)))), none] : Rho))) (fun _ => (s1_expr (Sx.cast (sx_c2 (f := M_heap_parts) h__heap_parts (show 21 ≤ 22 by decide) (sx_var (enc := eI) 0 (a := number_1)) (sx_var (enc := eI) 1 (a := most_2))) rfl))) (fun u_9 => (sj_nil (N := (fun (t : Unit) => ([(some (.sh (eI (number_1)))), (some (.sh (eI (most_2)))), (some (.sh (eB (judged_4)))), none] : Rho))) () (.k (.k (.k (.d .nil)))))) (fun _ => rfl))) (fun t_10 => (ss_dead (s1_ret0 (Sx.cast sx_bl rfl)))) (fun _ => rfl)))) (.k (.k (.d (.d .nil)))))) rfl)) (fun t_5 => (ss_dead (s1_ret0 (Sx.cast sx_bl rfl))))) rfl
theorem df_law_unfit {G : Pg} (B : Bi G) (Er : RaOk G) (Et : ErrOk G) (d : Def G "_law_unfit" (topS 24) ["number", "most"]) (h__heap_parts : Df G 21 "heap_parts" ["number", "most"] (spP G.cls (fun q : Int × Int × Unit => [eI q.1, eI q.2.1]) (eP3 eS (eT (eT eI)) (eT (eT eI))) fun q => (M_heap_parts q.1 q.2.1))) (h__judge_heap_parts : Df G 22 "judge_heap_parts" ["number", "most", "told"] (spP G.cls (fun q : Int × Int × D × Unit => [eI q.1, eI q.2.1, eD q.2.2.1]) eB fun q => (M_judge_heap_parts q.1 q.2.1 q.2.2.1))) : Df G 23 "_law_unfit" ["number", "most"] (spP G.cls (fun q : Int × Int × Unit => [eI q.1, eI q.2.1]) eB fun q => (M_law_unfit q.1 q.2.1)) :=
  df_law_unfit_v B Er Et d h__heap_parts h__judge_heap_parts
def M_law (ns : List Int) : R Bool :=
  ((R.ok (ns, 0, 0, 1)).bind fun (s_1 : Sta) => ((R.ok ([] : List D)).bind fun (seen_2 : (List D)) => (forK (fun (turn_4 : Int) (t_3 : (Sta × (List D))) (nx_6 : (Sta × (List D)) → R Bool) => (((M_law_next (8 : Int) (t_3.1)).bind fun t_9 => (((M_law_next (6 : Int) t_9.2).bind fun (t_13 : Int × Sta) => R.ok (((1 : Int) + t_13.1), t_13.2)).bind fun t_11 => (R.ok ((), t_11.2)).bind fun u_12 => R.ok ((t_11.1, u_12.1), u_12.2)).bind fun u_10 => R.ok ((t_9.1, u_10.1), u_10.2)).cb fun (t_8 : ((Int × Int × Unit) × Sta)) => ((M_heap_parts (t_8.1.1) (t_8.1.2.1)).bind fun (told_14 : (Str × (List (List Int)) × (List (List Int)))) => ((M_law_told_near (t_8.1.1) (t_8.1.2.1) (t_8.2)).cb fun (t_15 : (D × Sta)) => ((((M_law_accepts (t_8.1.1) (t_8.1.2.1) ((eP3 eS (eT (eT eI)) (eT (eT eI))) (told_14))).bind fun c => R.ok (!c)).bind fun c => if c then R.ok true else ((M_judge_heap_parts (t_8.1.1) (t_8.1.2.1) ((eP3 eS (eT (eT eI)) (eT (eT eI))) (told_14))).bind fun (y_16 : Bool) => R.ok (!decide (y_16 = (true))))).bind fun t => if t then R.ok (false) else ((((M_law_unfit (-(1 : Int)) (t_8.1.2.1)).bind fun c => R.ok (!c)).bind fun c => if c then R.ok true else ((M_law_unfit (t_8.1.1) (0 : Int)).bind fun c => R.ok (!c))).bind fun t => if t then R.ok (false) else ((catR (cut (t_3.2) (some (-(3 : Int))) none) ([((eP3 eS (eT (eT eI)) (eT (eT eI))) (told_14)), (t_15.1)])).bind fun (seen_17 : (List D)) => ((rng1 ((8 : Int) + ((seen_17).length : Int))).bind fun (y_26 : (List Int)) => (forK (fun (k_19 : Int) (t_18 : Sta) (nx_21 : Sta → R Bool) => ((if (decide ((k_19) < (8 : Int))) then (M_law_odd ((eP3 eS (eT (eT eI)) (eT (eT eI))) (told_14)) (t_18)) else ((idx (seen_17) ((k_19) - (8 : Int))).bind fun a => R.ok (a, (t_18)))).cb fun (t_23 : (D × Sta)) => (((((M_judge_heap_parts (t_8.1.1) (t_8.1.2.1) (t_23.1)).bind fun a => R.ok (eB a)).bind fun (y_24 : D) => ((M_law_accepts (t_8.1.1) (t_8.1.2.1) (t_23.1)).bind fun a => R.ok (eB a)).bind fun (y_25 : D) => (M_law_same 8 y_24 y_25)).bind fun c => R.ok (!c)).bind fun t => if t then R.ok (false) else nx_21 t_23.2))) (fun (t_20 : Sta) => nx_6 (t_20, seen_17)) y_26 t_15.2))))))))) (fun (t_5 : (Sta × (List D))) => R.ok (true)) (rng 0 3) (s_1, seen_2))))
theorem sc_law : FnScope ["script", "state", "seen", "turn", "number", "most", "told", "near_told", "k", "asked"] ["script"] (defScope (topS 25)) := ⟨rfl, rfl, rfl, by decide +kernel, rfl, by decide +kernel, by decide +kernel⟩
theorem fn_law_v {G : Pg} (B : Bi G) (Er : RaOk G) (Et : ErrOk G) {M_heap_parts : Int → Int → R (Str × (List (List Int)) × (List (List Int)))} {M_judge_heap_parts : Int → Int → D → R Bool} {M_law_next : Int → Sta → R (Int × Sta)} {M_law_same : Nat → D → D → R Bool} {M_law_odd : D → Sta → R (D × Sta)} {M_law_accepts : Int → Int → D → R Bool} {M_law_told_near : Int → Int → Sta → R (D × Sta)} {M_law_unfit : Int → Int → R Bool} (h__heap_parts : Df G 21 "heap_parts" ["number", "most"] (spP G.cls (fun q : Int × Int × Unit => [eI q.1, eI q.2.1]) (eP3 eS (eT (eT eI)) (eT (eT eI))) fun q => (M_heap_parts q.1 q.2.1))) (h__judge_heap_parts : Df G 22 "judge_heap_parts" ["number", "most", "told"] (spP G.cls (fun q : Int × Int × D × Unit => [eI q.1, eI q.2.1, eD q.2.2.1]) eB fun q => (M_judge_heap_parts q.1 q.2.1 q.2.2.1))) (h__law_next : Df G 1 "_law_next" ["state", "limit"] (spI eSt (fun q : Int × Unit => ([eI q.1] : List D)) eI fun q => (M_law_next q.1))) (h__law_same : Df G 8 "_law_same" ["actual", "expected"] (spP G.cls (fun q : D × D × Unit => [eD q.1, eD q.2.1]) eB fun q => (M_law_same 8 q.1 q.2.1))) (h__law_odd : Df G 11 "_law_odd" ["state", "told"] (spI eSt (fun q : D × Unit => ([eD q.1] : List D)) eD fun q => (M_law_odd q.1))) (h__law_accepts : Df G 21 "_law_accepts" ["number", "most", "told"] (spP G.cls (fun q : Int × Int × D × Unit => [eI q.1, eI q.2.1, eD q.2.2.1]) eB fun q => (M_law_accepts q.1 q.2.1 q.2.2.1))) (h__law_told_near : Df G 22 "_law_told_near" ["state", "number", "most"] (spI eSt (fun q : Int × Int × Unit => ([eI q.1, eI q.2.1] : List D)) eD fun q => (M_law_told_near q.1 q.2.1))) (h__law_unfit : Df G 23 "_law_unfit" ["number", "most"] (spP G.cls (fun q : Int × Int × Unit => [eI q.1, eI q.2.1]) eB fun q => (M_law_unfit q.1 q.2.1))) {fa : Addr} {fd : FuncData} (Fn : Fun G.K "law" "law" (topS 25) fa fd) : FnG G.P G.w G.K G.mg G.base 24 fa fd ["script"] (spLaw G.K fun ns => ((R.ok (ns, 0, 0, 1)).bind fun (s_1 : Sta) => ((R.ok ([] : List D)).bind fun (seen_2 : (List D)) => (forK (fun (turn_4 : Int) (t_3 : (Sta × (List D))) (nx_6 : (Sta × (List D)) → R Bool) => (((M_law_next (8 : Int) (t_3.1)).bind fun t_9 => (((M_law_next (6 : Int) t_9.2).bind fun (t_13 : Int × Sta) => R.ok (((1 : Int) + t_13.1), t_13.2)).bind fun t_11 => (R.ok ((), t_11.2)).bind fun u_12 => R.ok ((t_11.1, u_12.1), u_12.2)).bind fun u_10 => R.ok ((t_9.1, u_10.1), u_10.2)).cb fun (t_8 : ((Int × Int × Unit) × Sta)) => ((M_heap_parts (t_8.1.1) (t_8.1.2.1)).bind fun (told_14 : (Str × (List (List Int)) × (List (List Int)))) => ((M_law_told_near (t_8.1.1) (t_8.1.2.1) (t_8.2)).cb fun (t_15 : (D × Sta)) => ((((M_law_accepts (t_8.1.1) (t_8.1.2.1) ((eP3 eS (eT (eT eI)) (eT (eT eI))) (told_14))).bind fun c => R.ok (!c)).bind fun c => if c then R.ok true else ((M_judge_heap_parts (t_8.1.1) (t_8.1.2.1) ((eP3 eS (eT (eT eI)) (eT (eT eI))) (told_14))).bind fun (y_16 : Bool) => R.ok (!decide (y_16 = (true))))).bind fun t => if t then R.ok (false) else ((((M_law_unfit (-(1 : Int)) (t_8.1.2.1)).bind fun c => R.ok (!c)).bind fun c => if c then R.ok true else ((M_law_unfit (t_8.1.1) (0 : Int)).bind fun c => R.ok (!c))).bind fun t => if t then R.ok (false) else ((catR (cut (t_3.2) (some (-(3 : Int))) none) ([((eP3 eS (eT (eT eI)) (eT (eT eI))) (told_14)), (t_15.1)])).bind fun (seen_17 : (List D)) => ((rng1 ((8 : Int) + ((seen_17).length : Int))).bind fun (y_26 : (List Int)) => (forK (fun (k_19 : Int) (t_18 : Sta) (nx_21 : Sta → R Bool) => ((if (decide ((k_19) < (8 : Int))) then (M_law_odd ((eP3 eS (eT (eT eI)) (eT (eT eI))) (told_14)) (t_18)) else ((idx (seen_17) ((k_19) - (8 : Int))).bind fun a => R.ok (a, (t_18)))).cb fun (t_23 : (D × Sta)) => (((((M_judge_heap_parts (t_8.1.1) (t_8.1.2.1) (t_23.1)).bind fun a => R.ok (eB a)).bind fun (y_24 : D) => ((M_law_accepts (t_8.1.1) (t_8.1.2.1) (t_23.1)).bind fun a => R.ok (eB a)).bind fun (y_25 : D) => (M_law_same 8 y_24 y_25)).bind fun c => R.ok (!c)).bind fun t => if t then R.ok (false) else nx_21 t_23.2))) (fun (t_20 : Sta) => nx_6 (t_20, seen_17)) y_26 t_15.2))))))))) (fun (t_5 : (Sta × (List D))) => R.ok (true)) (rng 0 3) (s_1, seen_2))))) :=
  law_fn Fn sc_law fun q ns W hn => by
    have hz : ns.length ≤ sizeLine := Nat.le_trans hn (by decide)
    exact Ss.rho (ρ' := [(some (.scr q (ns))), none, none, none, none, none, none, none, none, none]) (m := ((R.ok (ns, 0, 0, 1)).bind fun (s_1 : Sta) => ((R.ok ([] : List D)).bind fun (seen_2 : (List D)) => (forK (fun (turn_4 : Int) (t_3 : (Sta × (List D))) (nx_6 : (Sta × (List D)) → R Bool) => (((M_law_next (8 : Int) (t_3.1)).bind fun t_9 => (((M_law_next (6 : Int) t_9.2).bind fun (t_13 : Int × Sta) => R.ok (((1 : Int) + t_13.1), t_13.2)).bind fun t_11 => (R.ok ((), t_11.2)).bind fun u_12 => R.ok ((t_11.1, u_12.1), u_12.2)).bind fun u_10 => R.ok ((t_9.1, u_10.1), u_10.2)).cb fun (t_8 : ((Int × Int × Unit) × Sta)) => ((M_heap_parts (t_8.1.1) (t_8.1.2.1)).bind fun (told_14 : (Str × (List (List Int)) × (List (List Int)))) => ((M_law_told_near (t_8.1.1) (t_8.1.2.1) (t_8.2)).cb fun (t_15 : (D × Sta)) => ((((M_law_accepts (t_8.1.1) (t_8.1.2.1) ((eP3 eS (eT (eT eI)) (eT (eT eI))) (told_14))).bind fun c => R.ok (!c)).bind fun c => if c then R.ok true else ((M_judge_heap_parts (t_8.1.1) (t_8.1.2.1) ((eP3 eS (eT (eT eI)) (eT (eT eI))) (told_14))).bind fun (y_16 : Bool) => R.ok (!decide (y_16 = (true))))).bind fun t => if t then R.ok (false) else ((((M_law_unfit (-(1 : Int)) (t_8.1.2.1)).bind fun c => R.ok (!c)).bind fun c => if c then R.ok true else ((M_law_unfit (t_8.1.1) (0 : Int)).bind fun c => R.ok (!c))).bind fun t => if t then R.ok (false) else ((catR (cut (t_3.2) (some (-(3 : Int))) none) ([((eP3 eS (eT (eT eI)) (eT (eT eI))) (told_14)), (t_15.1)])).bind fun (seen_17 : (List D)) => ((rng1 ((8 : Int) + ((seen_17).length : Int))).bind fun (y_26 : (List Int)) => (forK (fun (k_19 : Int) (t_18 : Sta) (nx_21 : Sta → R Bool) => ((if (decide ((k_19) < (8 : Int))) then (M_law_odd ((eP3 eS (eT (eT eI)) (eT (eT eI))) (told_14)) (t_18)) else ((idx (seen_17) ((k_19) - (8 : Int))).bind fun a => R.ok (a, (t_18)))).cb fun (t_23 : (D × Sta)) => (((((M_judge_heap_parts (t_8.1.1) (t_8.1.2.1) (t_23.1)).bind fun a => R.ok (eB a)).bind fun (y_24 : D) => ((M_law_accepts (t_8.1.1) (t_8.1.2.1) (t_23.1)).bind fun a => R.ok (eB a)).bind fun (y_25 : D) => (M_law_same 8 y_24 y_25)).bind fun c => R.ok (!c)).bind fun t => if t then R.ok (false) else nx_21 t_23.2))) (fun (t_20 : Sta) => nx_6 (t_20, seen_17)) y_26 t_15.2))))))))) (fun (t_5 : (Sta × (List D))) => R.ok (true)) (rng 0 3) (s_1, seen_2))))) (ss_consL (N' := (fun (s_1 : Sta) => ([(some (.scr q (ns))), (some (.ow (eSt (s_1)))), none, none, none, none, none, none, none, none] : Rho))) (s1_setN 1 (sx_lst4 (enc := eSt) (fun a b c d => (a, b, c, d)) (fun _ _ _ _ => rfl) (sx_NV (sx_scr 0 hz rfl B.list) (fun _ => ⟨_, rfl⟩)) sx_int sx_int sx_int) (fun _ => ⟨_, rfl⟩)) (fun s_1 => (ss_consL (N' := (fun (seen_2 : (List D)) => ([(some (.scr q (ns))), (some (.ow (eSt (s_1)))), (some (.sh ((eL eD) (seen_2)))), none, none, none, none, none, none, none] : Rho))) (s1_set 2 (Sx.cast (sx_NV (sx_lst0 (e := eD)) (fun _ => ⟨_, rfl⟩)) rfl)) (fun seen_2 => (ss_cons (N := (fun (t : (Sta × (List D))) => ([(some (.scr q (ns))), (some (.ow (eSt (t.1)))), (some (.sh ((eL eD) (t.2)))), none, none, none, none, none, none, none] : Rho))) (K := (fun (t_5 : (Sta × (List D))) => R.ok (true))) (s1_forK' (L := (fun (t : (Sta × (List D))) => ([(some (.scr q (ns))), (some (.ow (eSt (t.1)))), (some (.sh ((eL eD) (t.2)))), none, none, none, none, none, none, none] : Rho))) (K := (fun (t_5 : (Sta × (List D))) => R.ok (true))) (t0 := (s_1, seen_2)) (f := (fun (turn_4 : Int) (t_3 : (Sta × (List D))) (nx_6 : (Sta × (List D)) → R Bool) => (((M_law_next (8 : Int) (t_3.1)).bind fun t_9 => (((M_law_next (6 : Int) t_9.2).bind fun (t_13 : Int × Sta) => R.ok (((1 : Int) + t_13.1), t_13.2)).bind fun t_11 => (R.ok ((), t_11.2)).bind fun u_12 => R.ok ((t_11.1, u_12.1), u_12.2)).bind fun u_10 => R.ok ((t_9.1, u_10.1), u_10.2)).cb fun (t_8 : ((Int × Int × Unit) × Sta)) => ((M_heap_parts (t_8.1.1) (t_8.1.2.1)).bind fun (told_14 : (Str × (List (List Int)) × (List (List Int)))) => ((M_law_told_near (t_8.1.1) (t_8.1.2.1) (t_8.2)).cb fun (t_15 : (D × Sta)) => ((((M_law_accepts (t_8.1.1) (t_8.1.2.1) ((eP3 eS (eT (eT eI)) (eT (eT eI))) (told_14))).bind fun c => R.ok (!c)).bind fun c => if c then R.ok true else ((M_judge_heap_parts (t_8.1.1) (t_8.1.2.1) ((eP3 eS (eT (eT eI)) (eT (eT eI))) (told_14))).bind fun (y_16 : Bool) => R.ok (!decide (y_16 = (true))))).bind fun t => if t then R.ok (false) else ((((M_law_unfit (-(1 : Int)) (t_8.1.2.1)).bind fun c => R.ok (!c)).bind fun c => if c then R.ok true else ((M_law_unfit (t_8.1.1) (0 : Int)).bind fun c => R.ok (!c))).bind fun t => if t then R.ok (false) else ((catR (cut (t_3.2) (some (-(3 : Int))) none) ([((eP3 eS (eT (eT eI)) (eT (eT eI))) (told_14)), (t_15.1)])).bind fun (seen_17 : (List D)) => ((rng1 ((8 : Int) + ((seen_17).length : Int))).bind fun (y_26 : (List Int)) => (forK (fun (k_19 : Int) (t_18 : Sta) (nx_21 : Sta → R Bool) => ((if (decide ((k_19) < (8 : Int))) then (M_law_odd ((eP3 eS (eT (eT eI)) (eT (eT eI))) (told_14)) (t_18)) else ((idx (seen_17) ((k_19) - (8 : Int))).bind fun a => R.ok (a, (t_18)))).cb fun (t_23 : (D × Sta)) => (((((M_judge_heap_parts (t_8.1.1) (t_8.1.2.1) (t_23.1)).bind fun a => R.ok (eB a)).bind fun (y_24 : D) => ((M_law_accepts (t_8.1.1) (t_8.1.2.1) (t_23.1)).bind fun a => R.ok (eB a)).bind fun (y_25 : D) => (M_law_same 8 y_24 y_25)).bind fun c => R.ok (!c)).bind fun t => if t then R.ok (false) else nx_21 t_23.2))) (fun (t_20 : Sta) => nx_6 (t_20, seen_17)) y_26 t_15.2)))))))))) (Si.cast (si_rng1L B.range sx_int) rfl) (gt_name (ea := eI) 3) (.k (.k (.k (.d (.d (.d (.d (.d (.d (.d .nil)))))))))) (fun turn_4 t_3 nx_6 => Ss.rho (ρ' := [(some (.scr q (ns))), (some (.ow (eSt (t_3.1)))), (some (.sh ((eL eD) (t_3.2)))), (some (.sh (eI (turn_4)))), none, none, none, none, none, none]) (ss_consL (N' := (fun (t_8 : ((Int × Int × Unit) × Sta)) => ([(some (.scr q (ns))), (some (.ow (eSt (t_8.2)))), (some (.sh ((eL eD) (t_3.2)))), (some (.sh (eI (turn_4)))), (some (.sh (eI (t_8.1.1)))), (some (.sh (eI (t_8.1.2.1)))), none, none, none, none] : Rho))) (s1_parE (ρs := (fun (s : Sta) => ([(some (.scr q (ns))), (some (.ow (eSt (s)))), (some (.sh ((eL eD) (t_3.2)))), (some (.sh (eI (turn_4)))), none, none, none, none, none, none] : Rho))) 4 5 (t_3.1) (by decide) (ae_cons (ee_c1 (f := M_law_next) 1 h__law_next (show 1 ≤ 23 by decide) (Lens.mk rs_ow (fun _ => rfl) (fun _ _ => rfl)) (fun s => sx_int)) (ae_cons (ee_op o_add (ee_V (fun s => sx_int)) (ee_c1 (f := M_law_next) 1 h__law_next (show 1 ≤ 23 by decide) (Lens.mk rs_ow (fun _ => rfl) (fun _ _ => rfl)) (fun s => sx_int))) ae_nil)) (hw := by intro env h; cases env; cases h; rfl)) (fun t_8 => (ss_consL (N' := (fun (told_14 : (Str × (List (List Int)) × (List (List Int)))) => ([(some (.scr q (ns))), (some (.ow (eSt (t_8.2)))), (some (.sh ((eL eD) (t_3.2)))), (some (.sh (eI (turn_4)))), (some (.sh (eI (t_8.1.1)))), (some (.sh (eI (t_8.1.2.1)))), (some (.sh ((eP3 eS (eT (eT eI)) (eT (eT eI))) (told_14)))), none, none, none] : Rho))) (s1_set 6 (Sx.cast (sx_c2 (f := M_heap_parts) h__heap_parts (show 21 ≤ 23 by decide) (sx_var (enc := eI) 4 (a := t_8.1.1)) (sx_var (enc := eI) 5 (a := t_8.1.2.1))) rfl)) (fun told_14 => (ss_consL (N' := (fun (t_15 : (D × Sta)) => ([(some (.scr q (ns))), (some (.ow (eSt (t_15.2)))), (some (.sh ((eL eD) (t_3.2)))), (some (.sh (eI (turn_4)))), (some (.sh (eI (t_8.1.1)))), (some (.sh (eI (t_8.1.2.1)))), (some (.sh ((eP3 eS (eT (eT eI)) (eT (eT eI))) (told_14)))), (some (.sh (eD (t_15.1)))), none, none] : Rho))) (s1_setE (ρs := (fun (s : Sta) => ([(some (.scr q (ns))), (some (.ow (eSt (s)))), (some (.sh ((eL eD) (t_3.2)))), (some (.sh (eI (turn_4)))), (some (.sh (eI (t_8.1.1)))), (some (.sh (eI (t_8.1.2.1)))), (some (.sh ((eP3 eS (eT (eT eI)) (eT (eT eI))) (told_14)))), none, none, none] : Rho))) 7 (t_8.2) (Ee.cast (m' := fun s => (M_law_told_near (t_8.1.1) (t_8.1.2.1) s)) (ee_c2 (f := M_law_told_near) 1 h__law_told_near (show 22 ≤ 23 by decide) (Lens.mk rs_ow (fun _ => rfl) (fun _ _ => rfl)) (fun s => (sx_var (enc := eI) 4 (a := t_8.1.1))) (fun s => (sx_var (enc := eI) 5 (a := t_8.1.2.1)))) (fun s => rfl))) (fun t_15 => (ss_ifX (Tt.cast (tt_w (tw_or (tt_not (tt_of (sx_c3 (f := M_law_accepts) h__law_accepts (show 21 ≤ 23 by decide) (sx_var (enc := eI) 4 (a := t_8.1.1)) (sx_var (enc := eI) 5 (a := t_8.1.2.1)) (sx_upD (sx_var (enc := (eP3 eS (eT (eT eI)) (eT (eT eI)))) 6 (a := told_14)))))) (tw_or1 (tt_cmp o_isntB (sx_VP (sx_c3 (f := M_judge_heap_parts) h__judge_heap_parts (show 22 ≤ 23 by decide) (sx_var (enc := eI) 4 (a := t_8.1.1)) (sx_var (enc := eI) 5 (a := t_8.1.2.1)) (sx_upD (sx_var (enc := (eP3 eS (eT (eT eI)) (eT (eT eI)))) 6 (a := told_14))))) (sx_VP sx_bl))))) rfl) (ss_dead (s1_ret0 (Sx.cast sx_bl rfl))) (ss_ifX (Tt.cast (tt_w (tw_or (tt_not (tt_of (sx_c2 (f := M_law_unfit) h__law_unfit (show 23 ≤ 23 by decide) (sx_neg sx_int) (sx_var (enc := eI) 5 (a := t_8.1.2.1))))) (tw_or1 (tt_not (tt_of (sx_c2 (f := M_law_unfit) h__law_unfit (show 23 ≤ 23 by decide) (sx_var (enc := eI) 4 (a := t_8.1.1)) sx_int)))))) rfl) (ss_dead (s1_ret0 (Sx.cast sx_bl rfl))) (ss_consL (N' := (fun (seen_17 : (List D)) => ([(some (.scr q (ns))), (some (.ow (eSt (t_15.2)))), (some (.sh ((eL eD) (seen_17)))), (some (.sh (eI (turn_4)))), (some (.sh (eI (t_8.1.1)))), (some (.sh (eI (t_8.1.2.1)))), (some (.sh ((eP3 eS (eT (eT eI)) (eT (eT eI))) (told_14)))), (some (.sh (eD (t_15.1)))), none, none] : Rho))) (s1_set 2 (Sx.cast (sx_NV (sx_op o_catL (sx_NP (sx_sl s_cutL (sx_VP (sx_var (enc := (eL eD)) 2 (a := t_3.2))) (so_some (sx_neg sx_int)) so_none) (fun _ => ⟨_, rfl⟩)) (sx_NP (sx_lst2 (enc := (eL eD)) (fun a b => [a, b]) (fun _ _ => rfl) (sx_upD (sx_var (enc := (eP3 eS (eT (eT eI)) (eT (eT eI)))) 6 (a := told_14))) (sx_var (enc := eD) 7 (a := t_15.1))) (fun _ => ⟨_, rfl⟩))) (fun _ => ⟨_, rfl⟩)) rfl)) (fun seen_17 => (ss_cons (N := (fun (t : Sta) => ([(some (.scr q (ns))), (some (.ow (eSt (t)))), (some (.sh ((eL eD) (seen_17)))), (some (.sh (eI (turn_4)))), (some (.sh (eI (t_8.1.1)))), (some (.sh (eI (t_8.1.2.1)))), (some (.sh ((eP3 eS (eT (eT eI)) (eT (eT eI))) (told_14)))), (some (.sh (eD (t_15.1)))), none, none] : Rho))) (K := (fun (t_20 : Sta) => nx_6 (t_20, seen_17))) (s1_forK' (L := (fun (t : Sta) => ([(some (.scr q (ns))), (some (.ow (eSt (t)))), (some (.sh ((eL eD) (seen_17)))), (some (.sh (eI (turn_4)))), (some (.sh (eI (t_8.1.1)))), (some (.sh (eI (t_8.1.2.1)))), (some (.sh ((eP3 eS (eT (eT eI)) (eT (eT eI))) (told_14)))), (some (.sh (eD (t_15.1)))), none, none] : Rho))) (K := (fun (t_20 : Sta) => nx_6 (t_20, seen_17))) (t0 := t_15.2) (f := (fun (k_19 : Int) (t_18 : Sta) (nx_21 : Sta → R Bool) => ((if (decide ((k_19) < (8 : Int))) then (M_law_odd ((eP3 eS (eT (eT eI)) (eT (eT eI))) (told_14)) (t_18)) else ((idx (seen_17) ((k_19) - (8 : Int))).bind fun a => R.ok (a, (t_18)))).cb fun (t_23 : (D × Sta)) => (((((M_judge_heap_parts (t_8.1.1) (t_8.1.2.1) (t_23.1)).bind fun a => R.ok (eB a)).bind fun (y_24 : D) => ((M_law_accepts (t_8.1.1) (t_8.1.2.1) (t_23.1)).bind fun a => R.ok (eB a)).bind fun (y_25 : D) => (M_law_same 8 y_24 y_25)).bind fun c => R.ok (!c)).bind fun t => if t then R.ok (false) else nx_21 t_23.2)))) (Si.cast (si_rng1P B.range (Sx.cast (sx_op o_add (sx_VP sx_int) (sx_VP (sx_lenL B.len (sx_VP (sx_var (enc := (eL eD)) 2 (a := seen_17)))))) rfl)) rfl) (gt_name (ea := eI) 8) (.k (.k (.k (.k (.k (.k (.k (.k (.d (.d .nil)))))))))) (fun k_19 t_18 nx_21 => Ss.rho (ρ' := [(some (.scr q (ns))), (some (.ow (eSt (t_18)))), (some (.sh ((eL eD) (seen_17)))), (some (.sh (eI (turn_4)))), (some (.sh (eI (t_8.1.1)))), (some (.sh (eI (t_8.1.2.1)))), (some (.sh ((eP3 eS (eT (eT eI)) (eT (eT eI))) (told_14)))), (some (.sh (eD (t_15.1)))), (some (.sh (eI (k_19)))), none]) (ss_consL (N' := (fun (t_23 : (D × Sta)) => ([(some (.scr q (ns))), (some (.ow (eSt (t_23.2)))), (some (.sh ((eL eD) (seen_17)))), (some (.sh (eI (turn_4)))), (some (.sh (eI (t_8.1.1)))), (some (.sh (eI (t_8.1.2.1)))), (some (.sh ((eP3 eS (eT (eT eI)) (eT (eT eI))) (told_14)))), (some (.sh (eD (t_15.1)))), (some (.sh (eI (k_19)))), (some (.sh (eD (t_23.1))))] : Rho))) (s1_setE (ρs := (fun (s : Sta) => ([(some (.scr q (ns))), (some (.ow (eSt (s)))), (some (.sh ((eL eD) (seen_17)))), (some (.sh (eI (turn_4)))), (some (.sh (eI (t_8.1.1)))), (some (.sh (eI (t_8.1.2.1)))), (some (.sh ((eP3 eS (eT (eT eI)) (eT (eT eI))) (told_14)))), (some (.sh (eD (t_15.1)))), (some (.sh (eI (k_19)))), none] : Rho))) 9 (t_18) (Ee.cast (m' := fun s => (if (decide ((k_19) < (8 : Int))) then (M_law_odd ((eP3 eS (eT (eT eI)) (eT (eT eI))) (told_14)) s) else ((idx (seen_17) ((k_19) - (8 : Int))).bind fun a => R.ok (a, s)))) (ee_if (te_t (fun s => (tt_cmp o_lt (sx_VP (sx_var (enc := eI) 8 (a := k_19))) (sx_VP sx_int)))) (ee_c1 (f := M_law_odd) 1 h__law_odd (show 11 ≤ 23 by decide) (Lens.mk rs_ow (fun _ => rfl) (fun _ _ => rfl)) (fun s => (sx_upD (sx_var (enc := (eP3 eS (eT (eT eI)) (eT (eT eI)))) 6 (a := told_14))))) (ee_V (fun s => (sx_ix x_ixL (sx_VP (sx_var (enc := (eL eD)) 2 (a := seen_17))) (sx_VP (sx_op o_sub (sx_VP (sx_var (enc := eI) 8 (a := k_19))) (sx_VP sx_int))))))) (fun s => rfl))) (fun t_23 => (ss_ifX (Tt.cast (tt_not (tt_of (sx_c2 (f := M_law_same 8) h__law_same (show 8 ≤ 23 by decide) (sx_upD (sx_c3 (f := M_judge_heap_parts) h__judge_heap_parts (show 22 ≤ 23 by decide) (sx_var (enc := eI) 4 (a := t_8.1.1)) (sx_var (enc := eI) 5 (a := t_8.1.2.1)) (sx_var (enc := eD) 9 (a := t_23.1)))) (sx_upD (sx_c3 (f := M_law_accepts) h__law_accepts (show 21 ≤ 23 by decide) (sx_var (enc := eI) 4 (a := t_8.1.1)) (sx_var (enc := eI) 5 (a := t_8.1.2.1)) (sx_var (enc := eD) 9 (a := t_23.1))))))) rfl) (ss_dead (s1_ret0 (Sx.cast sx_bl rfl))) (ss_fin (t_23.2) (.k (.k (.k (.k (.k (.k (.k (.k (.d (.d .nil)))))))))) rfl))) (fun _ => rfl)) rfl)) (fun t_20 => (ss_fin ((t_20, seen_17)) (.k (.k (.k (.d (.d (.d (.d (.d (.d (.d .nil)))))))))) rfl)))) (fun _ => rfl))))) (fun _ => rfl))) (fun _ => rfl))) (fun _ => rfl)) rfl)) (fun t_5 => (ss_dead (s1_ret0 (Sx.cast sx_bl rfl)))))) (fun _ => rfl))) (fun _ => rfl)) rfl
theorem fn_law {G : Pg} (B : Bi G) (Er : RaOk G) (Et : ErrOk G) (h__heap_parts : Df G 21 "heap_parts" ["number", "most"] (spP G.cls (fun q : Int × Int × Unit => [eI q.1, eI q.2.1]) (eP3 eS (eT (eT eI)) (eT (eT eI))) fun q => (M_heap_parts q.1 q.2.1))) (h__judge_heap_parts : Df G 22 "judge_heap_parts" ["number", "most", "told"] (spP G.cls (fun q : Int × Int × D × Unit => [eI q.1, eI q.2.1, eD q.2.2.1]) eB fun q => (M_judge_heap_parts q.1 q.2.1 q.2.2.1))) (h__law_next : Df G 1 "_law_next" ["state", "limit"] (spI eSt (fun q : Int × Unit => ([eI q.1] : List D)) eI fun q => (M_law_next q.1))) (h__law_same : Df G 8 "_law_same" ["actual", "expected"] (spP G.cls (fun q : D × D × Unit => [eD q.1, eD q.2.1]) eB fun q => (M_law_same 8 q.1 q.2.1))) (h__law_odd : Df G 11 "_law_odd" ["state", "told"] (spI eSt (fun q : D × Unit => ([eD q.1] : List D)) eD fun q => (M_law_odd q.1))) (h__law_accepts : Df G 21 "_law_accepts" ["number", "most", "told"] (spP G.cls (fun q : Int × Int × D × Unit => [eI q.1, eI q.2.1, eD q.2.2.1]) eB fun q => (M_law_accepts q.1 q.2.1 q.2.2.1))) (h__law_told_near : Df G 22 "_law_told_near" ["state", "number", "most"] (spI eSt (fun q : Int × Int × Unit => ([eI q.1, eI q.2.1] : List D)) eD fun q => (M_law_told_near q.1 q.2.1))) (h__law_unfit : Df G 23 "_law_unfit" ["number", "most"] (spP G.cls (fun q : Int × Int × Unit => [eI q.1, eI q.2.1]) eB fun q => (M_law_unfit q.1 q.2.1))) {fa : Addr} {fd : FuncData} (Fn : Fun G.K "law" "law" (topS 25) fa fd) : FnG G.P G.w G.K G.mg G.base 24 fa fd ["script"] (spLaw G.K M_law) :=
  fn_law_v B Er Et h__heap_parts h__judge_heap_parts h__law_next h__law_same h__law_odd h__law_accepts h__law_told_near h__law_unfit Fn
def clsOf (CU CW : Addr) : Ex → Addr
  | .unfit => CU
  | .wide => CW
theorem all_mk {l : PySem.W.OpenLaw} {w : World} {K : PySem.W.Frag} {h : Heap} {mg : Str → Option Value} {fa CU CW f0 f1 f2 f3 f4 f5 f6 f7 f8 f9 f10 f11 f12 f13 f14 f15 f16 f17 f18 : Addr} (X : K.In h) (G : h.Ns mainGlobals mg) (hfa : mg "law" = some (.ref fa))
    {od0 an0 od1 an1 od2 an2 od3 an3 od4 an4 od5 an5 od6 an6 od7 an7 od8 an8 od9 an9 od10 an10 od11 an11 od12 an12 od13 an13 od14 an14 od15 an15 od16 an16 od17 an17 od18 an18 : Option Addr} {sl0 sl1 sl2 sl3 sl4 sl5 sl6 sl7 sl8 sl9 sl10 sl11 sl12 sl13 sl14 sl15 sl16 sl17 sl18 : Array (Option Value)} {oc0 kV0 dc0 pm0 cd0 ct0 oc1 kV1 dc1 pm1 cd1 ct1 oc2 kV2 dc2 pm2 cd2 ct2 oc3 kV3 dc3 pm3 cd3 ct3 oc4 kV4 dc4 pm4 cd4 ct4 oc5 kV5 dc5 pm5 cd5 ct5 oc6 kV6 dc6 pm6 cd6 ct6 oc7 kV7 dc7 pm7 cd7 ct7 oc8 kV8 dc8 pm8 cd8 ct8 oc9 kV9 dc9 pm9 cd9 ct9 oc10 kV10 dc10 pm10 cd10 ct10 oc11 kV11 dc11 pm11 cd11 ct11 oc12 kV12 dc12 pm12 cd12 ct12 oc13 kV13 dc13 pm13 cd13 ct13 oc14 kV14 dc14 pm14 cd14 ct14 oc15 kV15 dc15 pm15 cd15 ct15 oc16 kV16 dc16 pm16 cd16 ct16 oc17 kV17 dc17 pm17 cd17 ct17 oc18 kV18 dc18 pm18 cd18 ct18 : Value}
    (a0 : PySem.W.nsIn K mainGlobals "is_told" = some (some (.ref f0))) (l0 : K.lookup f0 = some ⟨oc0, od0, .func (PySem.W.fnOf "is_told" "is_told" (defArgs (topS 5)) (defBody (topS 5)) (defScope (topS 5)) .none kV0 dc0 pm0 an0 cd0 ct0), sl0⟩) (c0 : PySem.W.codeIn K cd0 "is_told" = true) (k0 : PySem.W.keepIn K (.ref f0) = true)
    (a1 : PySem.W.nsIn K mainGlobals "parts_of" = some (some (.ref f1))) (l1 : K.lookup f1 = some ⟨oc1, od1, .func (PySem.W.fnOf "parts_of" "parts_of" (defArgs (topS 8)) (defBody (topS 8)) (defScope (topS 8)) .none kV1 dc1 pm1 an1 cd1 ct1), sl1⟩) (c1 : PySem.W.codeIn K cd1 "parts_of" = true) (k1 : PySem.W.keepIn K (.ref f1) = true)
    (a2 : PySem.W.nsIn K mainGlobals "turned" = some (some (.ref f2))) (l2 : K.lookup f2 = some ⟨oc2, od2, .func (PySem.W.fnOf "turned" "turned" (defArgs (topS 9)) (defBody (topS 9)) (defScope (topS 9)) .none kV2 dc2 pm2 an2 cd2 ct2), sl2⟩) (c2 : PySem.W.codeIn K cd2 "turned" = true) (k2 : PySem.W.keepIn K (.ref f2) = true)
    (a3 : PySem.W.nsIn K mainGlobals "heap_parts" = some (some (.ref f3))) (l3 : K.lookup f3 = some ⟨oc3, od3, .func (PySem.W.fnOf "heap_parts" "heap_parts" (defArgs (topS 7)) (defBody (topS 7)) (defScope (topS 7)) .none kV3 dc3 pm3 an3 cd3 ct3), sl3⟩) (c3 : PySem.W.codeIn K cd3 "heap_parts" = true) (k3 : PySem.W.keepIn K (.ref f3) = true)
    (a4 : PySem.W.nsIn K mainGlobals "judge_heap_parts" = some (some (.ref f4))) (l4 : K.lookup f4 = some ⟨oc4, od4, .func (PySem.W.fnOf "judge_heap_parts" "judge_heap_parts" (defArgs (topS 10)) (defBody (topS 10)) (defScope (topS 10)) .none kV4 dc4 pm4 an4 cd4 ct4), sl4⟩) (c4 : PySem.W.codeIn K cd4 "judge_heap_parts" = true) (k4 : PySem.W.keepIn K (.ref f4) = true)
    (a5 : PySem.W.nsIn K mainGlobals "_law_next" = some (some (.ref f5))) (l5 : K.lookup f5 = some ⟨oc5, od5, .func (PySem.W.fnOf "_law_next" "_law_next" (defArgs (topS 12)) (defBody (topS 12)) (defScope (topS 12)) .none kV5 dc5 pm5 an5 cd5 ct5), sl5⟩) (c5 : PySem.W.codeIn K cd5 "_law_next" = true) (k5 : PySem.W.keepIn K (.ref f5) = true)
    (a6 : PySem.W.nsIn K mainGlobals "_law_same" = some (some (.ref f6))) (l6 : K.lookup f6 = some ⟨oc6, od6, .func (PySem.W.fnOf "_law_same" "_law_same" (defArgs (topS 13)) (defBody (topS 13)) (defScope (topS 13)) .none kV6 dc6 pm6 an6 cd6 ct6), sl6⟩) (c6 : PySem.W.codeIn K cd6 "_law_same" = true) (k6 : PySem.W.keepIn K (.ref f6) = true)
    (a7 : PySem.W.nsIn K mainGlobals "_law_changed" = some (some (.ref f7))) (l7 : K.lookup f7 = some ⟨oc7, od7, .func (PySem.W.fnOf "_law_changed" "_law_changed" (defArgs (topS 14)) (defBody (topS 14)) (defScope (topS 14)) .none kV7 dc7 pm7 an7 cd7 ct7), sl7⟩) (c7 : PySem.W.codeIn K cd7 "_law_changed" = true) (k7 : PySem.W.keepIn K (.ref f7) = true)
    (a8 : PySem.W.nsIn K mainGlobals "_law_ints" = some (some (.ref f8))) (l8 : K.lookup f8 = some ⟨oc8, od8, .func (PySem.W.fnOf "_law_ints" "_law_ints" (defArgs (topS 15)) (defBody (topS 15)) (defScope (topS 15)) .none kV8 dc8 pm8 an8 cd8 ct8), sl8⟩) (c8 : PySem.W.codeIn K cd8 "_law_ints" = true) (k8 : PySem.W.keepIn K (.ref f8) = true)
    (a9 : PySem.W.nsIn K mainGlobals "_law_exchanged" = some (some (.ref f9))) (l9 : K.lookup f9 = some ⟨oc9, od9, .func (PySem.W.fnOf "_law_exchanged" "_law_exchanged" (defArgs (topS 16)) (defBody (topS 16)) (defScope (topS 16)) .none kV9 dc9 pm9 an9 cd9 ct9), sl9⟩) (c9 : PySem.W.codeIn K cd9 "_law_exchanged" = true) (k9 : PySem.W.keepIn K (.ref f9) = true)
    (a10 : PySem.W.nsIn K mainGlobals "_law_cut" = some (some (.ref f10))) (l10 : K.lookup f10 = some ⟨oc10, od10, .func (PySem.W.fnOf "_law_cut" "_law_cut" (defArgs (topS 17)) (defBody (topS 17)) (defScope (topS 17)) .none kV10 dc10 pm10 an10 cd10 ct10), sl10⟩) (c10 : PySem.W.codeIn K cd10 "_law_cut" = true) (k10 : PySem.W.keepIn K (.ref f10) = true)
    (a11 : PySem.W.nsIn K mainGlobals "_law_turned_about" = some (some (.ref f11))) (l11 : K.lookup f11 = some ⟨oc11, od11, .func (PySem.W.fnOf "_law_turned_about" "_law_turned_about" (defArgs (topS 18)) (defBody (topS 18)) (defScope (topS 18)) .none kV11 dc11 pm11 an11 cd11 ct11), sl11⟩) (c11 : PySem.W.codeIn K cd11 "_law_turned_about" = true) (k11 : PySem.W.keepIn K (.ref f11) = true)
    (a12 : PySem.W.nsIn K mainGlobals "_law_odd" = some (some (.ref f12))) (l12 : K.lookup f12 = some ⟨oc12, od12, .func (PySem.W.fnOf "_law_odd" "_law_odd" (defArgs (topS 19)) (defBody (topS 19)) (defScope (topS 19)) .none kV12 dc12 pm12 an12 cd12 ct12), sl12⟩) (c12 : PySem.W.codeIn K cd12 "_law_odd" = true) (k12 : PySem.W.keepIn K (.ref f12) = true)
    (a13 : PySem.W.nsIn K mainGlobals "_law_neighbour" = some (some (.ref f13))) (l13 : K.lookup f13 = some ⟨oc13, od13, .func (PySem.W.fnOf "_law_neighbour" "_law_neighbour" (defArgs (topS 20)) (defBody (topS 20)) (defScope (topS 20)) .none kV13 dc13 pm13 an13 cd13 ct13), sl13⟩) (c13 : PySem.W.codeIn K cd13 "_law_neighbour" = true) (k13 : PySem.W.keepIn K (.ref f13) = true)
    (a14 : PySem.W.nsIn K mainGlobals "_law_parts" = some (some (.ref f14))) (l14 : K.lookup f14 = some ⟨oc14, od14, .func (PySem.W.fnOf "_law_parts" "_law_parts" (defArgs (topS 21)) (defBody (topS 21)) (defScope (topS 21)) .none kV14 dc14 pm14 an14 cd14 ct14), sl14⟩) (c14 : PySem.W.codeIn K cd14 "_law_parts" = true) (k14 : PySem.W.keepIn K (.ref f14) = true)
    (a15 : PySem.W.nsIn K mainGlobals "_law_accepts" = some (some (.ref f15))) (l15 : K.lookup f15 = some ⟨oc15, od15, .func (PySem.W.fnOf "_law_accepts" "_law_accepts" (defArgs (topS 22)) (defBody (topS 22)) (defScope (topS 22)) .none kV15 dc15 pm15 an15 cd15 ct15), sl15⟩) (c15 : PySem.W.codeIn K cd15 "_law_accepts" = true) (k15 : PySem.W.keepIn K (.ref f15) = true)
    (a16 : PySem.W.nsIn K mainGlobals "_law_told_near" = some (some (.ref f16))) (l16 : K.lookup f16 = some ⟨oc16, od16, .func (PySem.W.fnOf "_law_told_near" "_law_told_near" (defArgs (topS 23)) (defBody (topS 23)) (defScope (topS 23)) .none kV16 dc16 pm16 an16 cd16 ct16), sl16⟩) (c16 : PySem.W.codeIn K cd16 "_law_told_near" = true) (k16 : PySem.W.keepIn K (.ref f16) = true)
    (a17 : PySem.W.nsIn K mainGlobals "_law_unfit" = some (some (.ref f17))) (l17 : K.lookup f17 = some ⟨oc17, od17, .func (PySem.W.fnOf "_law_unfit" "_law_unfit" (defArgs (topS 24)) (defBody (topS 24)) (defScope (topS 24)) .none kV17 dc17 pm17 an17 cd17 ct17), sl17⟩) (c17 : PySem.W.codeIn K cd17 "_law_unfit" = true) (k17 : PySem.W.keepIn K (.ref f17) = true)
    (a18 : PySem.W.nsIn K mainGlobals "law" = some (some (.ref f18))) (l18 : K.lookup f18 = some ⟨oc18, od18, .func (PySem.W.fnOf "law" "law" (defArgs (topS 25)) (defBody (topS 25)) (defScope (topS 25)) .none kV18 dc18 pm18 an18 cd18 ct18), sl18⟩) (c18 : PySem.W.codeIn K cd18 "law" = true) (k18 : PySem.W.keepIn K (.ref f18) = true)
    (aU : PySem.W.nsIn K mainGlobals "UnfitCard" = some (some (.ref CU))) (xU : PySem.W.excIn K CU [.type "ValueError", .type "Exception", .type "BaseException", .type "object"] "ValueError.__new__" = true) (kU : PySem.W.keepIn K (.ref CU) = true) (bU : PySem.W.subIn K (.ref CU) (.type "BaseException") = some true) (tU : PySem.W.typeIn K (.ref CU) = some (.type "type"))
    (hgU : PySem.W.findIn K (.ref CU) "__getattribute__" = some (some (.builtin "BaseException.__getattribute__"))) (hkU : PySem.W.findIn K (.ref CU) "__getattr__" = some none) (hdU : PySem.W.hasDictIn K CU = true) (haU : PySem.W.findIn K (.ref CU) "__class__" = some (some (.builtin "object.__class__"))) (hmU : PySem.W.mroIn K CU (.type "object") = some true) (ktU : PySem.W.kitOne K (.ref CU) (.type "ValueError") = some true)
    (aW : PySem.W.nsIn K mainGlobals "TooWide" = some (some (.ref CW))) (xW : PySem.W.excIn K CW [.type "ValueError", .type "Exception", .type "BaseException", .type "object"] "ValueError.__new__" = true) (kW : PySem.W.keepIn K (.ref CW) = true) (bW : PySem.W.subIn K (.ref CW) (.type "BaseException") = some true) (tW : PySem.W.typeIn K (.ref CW) = some (.type "type"))
    (hgW : PySem.W.findIn K (.ref CW) "__getattribute__" = some (some (.builtin "BaseException.__getattribute__"))) (hkW : PySem.W.findIn K (.ref CW) "__getattr__" = some none) (hdW : PySem.W.hasDictIn K CW = true) (haW : PySem.W.findIn K (.ref CW) "__class__" = some (some (.builtin "object.__class__"))) (hmW : PySem.W.mroIn K CW (.type "object") = some true) (ktW : PySem.W.kitOne K (.ref CW) (.type "ValueError") = some true)
    (eUU : PySem.W.exmOne K (.ref CU) (.ref CU) = some true) (eUW : PySem.W.exmOne K (.ref CU) (.ref CW) = some false) (eWU : PySem.W.exmOne K (.ref CW) (.ref CU) = some false) (eWW : PySem.W.exmOne K (.ref CW) (.ref CW) = some true)
    (hn : PySem.W.specialIn K (.builtin "object.__class__") "__get__" = some (some (.builtin "getset_descriptor.__get__"))) (ht : PySem.W.takesIn K (.builtin "object.__class__") = some true)
    (z_len : PySem.W.nsIn K mainGlobals "len" = some none)
    (z_isinstance : PySem.W.nsIn K mainGlobals "isinstance" = some none)
    (z_int : PySem.W.nsIn K mainGlobals "int" = some none)
    (z_bool : PySem.W.nsIn K mainGlobals "bool" = some none)
    (z_str : PySem.W.nsIn K mainGlobals "str" = some none)
    (z_tuple : PySem.W.nsIn K mainGlobals "tuple" = some none)
    (z_list : PySem.W.nsIn K mainGlobals "list" = some none)
    (z_range : PySem.W.nsIn K mainGlobals "range" = some none)
    (z_sorted : PySem.W.nsIn K mainGlobals "sorted" = some none)
    (z_sum : PySem.W.nsIn K mainGlobals "sum" = some none)
    (z_max : PySem.W.nsIn K mainGlobals "max" = some none)
    (z_min : PySem.W.nsIn K mainGlobals "min" = some none)
    (z_abs : PySem.W.nsIn K mainGlobals "abs" = some none)
    (z_set : PySem.W.nsIn K mainGlobals "set" = some none)
    (z_repr : PySem.W.nsIn K mainGlobals "repr" = some none)
    (z_enumerate : PySem.W.nsIn K mainGlobals "enumerate" = some none)
    (z_zip : PySem.W.nsIn K mainGlobals "zip" = some none)
    (z_dict : PySem.W.nsIn K mainGlobals "dict" = some none)
    (z_ValueError : PySem.W.nsIn K mainGlobals "ValueError" = some none) :
    ∃ fd : FuncData, (∀ (s : Shared) (v : Value), BindsTo s fd ⟨[v], []⟩ [("script", v)]) ∧ ∀ base : Heap, K.In base → base.Ns mainGlobals mg → FnG l.prog w K mg base 24 fa fd ["script"] (spLaw K M_law) := by
  have e := hfa.symm.trans (PySem.W.mg_of X G a18)
  cases e
  have F0 := fun_mk (st := topS 5) l0 c0 k0
  have F1 := fun_mk (st := topS 8) l1 c1 k1
  have F2 := fun_mk (st := topS 9) l2 c2 k2
  have F3 := fun_mk (st := topS 7) l3 c3 k3
  have F4 := fun_mk (st := topS 10) l4 c4 k4
  have F5 := fun_mk (st := topS 12) l5 c5 k5
  have F6 := fun_mk (st := topS 13) l6 c6 k6
  have F7 := fun_mk (st := topS 14) l7 c7 k7
  have F8 := fun_mk (st := topS 15) l8 c8 k8
  have F9 := fun_mk (st := topS 16) l9 c9 k9
  have F10 := fun_mk (st := topS 17) l10 c10 k10
  have F11 := fun_mk (st := topS 18) l11 c11 k11
  have F12 := fun_mk (st := topS 19) l12 c12 k12
  have F13 := fun_mk (st := topS 20) l13 c13 k13
  have F14 := fun_mk (st := topS 21) l14 c14 k14
  have F15 := fun_mk (st := topS 22) l15 c15 k15
  have F16 := fun_mk (st := topS 23) l16 c16 k16
  have F17 := fun_mk (st := topS 24) l17 c17 k17
  have F18 := fun_mk (st := topS 25) l18 c18 k18
  refine ⟨PySem.W.fnOf "law" "law" (defArgs (topS 25)) (defBody (topS 25)) (defScope (topS 25)) .none kV18 dc18 pm18 an18 cd18 ct18, fun s v => .of_eq rfl, fun base _ _ => ?_⟩
  let Gp : Pg := ⟨l.prog, w, K, mg, base, clsOf CU CW⟩
  have B : Bi Gp := ⟨PySem.W.mg_none_of X G z_len, PySem.W.mg_none_of X G z_isinstance, PySem.W.mg_none_of X G z_int, PySem.W.mg_none_of X G z_bool, PySem.W.mg_none_of X G z_str, PySem.W.mg_none_of X G z_tuple, PySem.W.mg_none_of X G z_list, PySem.W.mg_none_of X G z_range, PySem.W.mg_none_of X G z_sorted, PySem.W.mg_none_of X G z_sum, PySem.W.mg_none_of X G z_max, PySem.W.mg_none_of X G z_min, PySem.W.mg_none_of X G z_abs, PySem.W.mg_none_of X G z_set, PySem.W.mg_none_of X G z_repr, PySem.W.mg_none_of X G z_enumerate, PySem.W.mg_none_of X G z_zip, PySem.W.mg_none_of X G z_dict⟩
  have Er : RaOk Gp := ⟨⟨xU, PySem.W.mg_of X G aU, kU, bU, tU⟩, ⟨xW, PySem.W.mg_of X G aW, kW, bW, tW⟩⟩
  have Et : ErrOk Gp := ⟨PySem.W.mg_of X G aU, PySem.W.mg_of X G aW, fun x y => (by cases x <;> cases y <;> assumption), fun x => (match x with | .unfit => ⟨hgU, hkU, bU, hdU, haU, hn, ht, hmU⟩ | .wide => ⟨hgW, hkW, bW, hdW, haW, hn, ht, hmW⟩), fun x => (by cases x <;> assumption), PySem.W.mg_none_of X G z_isinstance, PySem.W.mg_none_of X G z_ValueError⟩
  have d0 : Def Gp "is_told" (topS 5) ["told", "word", "count"] := ⟨f0, _, F0, PySem.W.mg_of X G a0, F0.binds (ps := ["told", "word", "count"]) fun _ _ _ _ _ _ us hl => match us, hl with | [_, _, _], _ => rfl⟩
  have h_is_told := df_is_told B Er Et d0 
  have d1 : Def Gp "parts_of" (topS 8) ["number", "most"] := ⟨f1, _, F1, PySem.W.mg_of X G a1, F1.binds (ps := ["number", "most"]) fun _ _ _ _ _ _ us hl => match us, hl with | [_, _], _ => rfl⟩
  have h_parts_of := df_parts_of B Er Et d1  20
  have d2 : Def Gp "turned" (topS 9) ["row"] := ⟨f2, _, F2, PySem.W.mg_of X G a2, F2.binds (ps := ["row"]) fun _ _ _ _ _ _ us hl => match us, hl with | [_], _ => rfl⟩
  have h_turned := df_turned B Er Et d2 
  have d3 : Def Gp "heap_parts" (topS 7) ["number", "most"] := ⟨f3, _, F3, PySem.W.mg_of X G a3, F3.binds (ps := ["number", "most"]) fun _ _ _ _ _ _ us hl => match us, hl with | [_, _], _ => rfl⟩
  have h_heap_parts := df_heap_parts B Er Et d3 h_parts_of h_turned
  have d4 : Def Gp "judge_heap_parts" (topS 10) ["number", "most", "told"] := ⟨f4, _, F4, PySem.W.mg_of X G a4, F4.binds (ps := ["number", "most", "told"]) fun _ _ _ _ _ _ us hl => match us, hl with | [_, _, _], _ => rfl⟩
  have h_judge_heap_parts := df_judge_heap_parts B Er Et d4 h_is_told h_heap_parts
  have d5 : Def Gp "_law_next" (topS 12) ["state", "limit"] := ⟨f5, _, F5, PySem.W.mg_of X G a5, F5.binds (ps := ["state", "limit"]) fun _ _ _ _ _ _ us hl => match us, hl with | [_, _], _ => rfl⟩
  have h_law_next := df_law_next B Er Et d5 
  have d6 : Def Gp "_law_same" (topS 13) ["actual", "expected"] := ⟨f6, _, F6, PySem.W.mg_of X G a6, F6.binds (ps := ["actual", "expected"]) fun _ _ _ _ _ _ us hl => match us, hl with | [_, _], _ => rfl⟩
  have h_law_same := df_law_same B Er Et d6  8
  have d7 : Def Gp "_law_changed" (topS 14) ["state", "value"] := ⟨f7, _, F7, PySem.W.mg_of X G a7, F7.binds (ps := ["state", "value"]) fun _ _ _ _ _ _ us hl => match us, hl with | [_, _], _ => rfl⟩
  have h_law_changed := df_law_changed B Er Et d7 h_law_next 8
  have d8 : Def Gp "_law_ints" (topS 15) ["value"] := ⟨f8, _, F8, PySem.W.mg_of X G a8, F8.binds (ps := ["value"]) fun _ _ _ _ _ _ us hl => match us, hl with | [_], _ => rfl⟩
  have h_law_ints := df_law_ints B Er Et d8  8
  have d9 : Def Gp "_law_exchanged" (topS 16) ["value", "one", "other"] := ⟨f9, _, F9, PySem.W.mg_of X G a9, F9.binds (ps := ["value", "one", "other"]) fun _ _ _ _ _ _ us hl => match us, hl with | [_, _, _], _ => rfl⟩
  have h_law_exchanged := df_law_exchanged B Er Et d9  8
  have d10 : Def Gp "_law_cut" (topS 17) ["state", "value"] := ⟨f10, _, F10, PySem.W.mg_of X G a10, F10.binds (ps := ["state", "value"]) fun _ _ _ _ _ _ us hl => match us, hl with | [_, _], _ => rfl⟩
  have h_law_cut := df_law_cut B Er Et d10 h_law_next 8
  have d11 : Def Gp "_law_turned_about" (topS 18) ["state", "told"] := ⟨f11, _, F11, PySem.W.mg_of X G a11, F11.binds (ps := ["state", "told"]) fun _ _ _ _ _ _ us hl => match us, hl with | [_, _], _ => rfl⟩
  have h_law_turned_about := df_law_turned_about B Er Et d11 h_law_next h_law_ints h_law_exchanged h_law_cut
  have d12 : Def Gp "_law_odd" (topS 19) ["state", "told"] := ⟨f12, _, F12, PySem.W.mg_of X G a12, F12.binds (ps := ["state", "told"]) fun _ _ _ _ _ _ us hl => match us, hl with | [_, _], _ => rfl⟩
  have h_law_odd := df_law_odd B Er Et d12 h_law_next h_law_changed h_law_turned_about
  have d13 : Def Gp "_law_neighbour" (topS 20) ["state", "value"] := ⟨f13, _, F13, PySem.W.mg_of X G a13, F13.binds (ps := ["state", "value"]) fun _ _ _ _ _ _ us hl => match us, hl with | [_, _], _ => rfl⟩
  have h_law_neighbour := df_law_neighbour B Er Et d13 h_law_next 8
  have d14 : Def Gp "_law_parts" (topS 21) ["number", "most"] := ⟨f14, _, F14, PySem.W.mg_of X G a14, F14.binds (ps := ["number", "most"]) fun _ _ _ _ _ _ us hl => match us, hl with | [_, _], _ => rfl⟩
  have h_law_parts := df_law_parts B Er Et d14  20
  have d15 : Def Gp "_law_accepts" (topS 22) ["number", "most", "told"] := ⟨f15, _, F15, PySem.W.mg_of X G a15, F15.binds (ps := ["number", "most", "told"]) fun _ _ _ _ _ _ us hl => match us, hl with | [_, _, _], _ => rfl⟩
  have h_law_accepts := df_law_accepts B Er Et d15 h_law_same h_law_parts
  have d16 : Def Gp "_law_told_near" (topS 23) ["state", "number", "most"] := ⟨f16, _, F16, PySem.W.mg_of X G a16, F16.binds (ps := ["state", "number", "most"]) fun _ _ _ _ _ _ us hl => match us, hl with | [_, _, _], _ => rfl⟩
  have h_law_told_near := df_law_told_near B Er Et d16 h_heap_parts h_law_next h_law_neighbour
  have d17 : Def Gp "_law_unfit" (topS 24) ["number", "most"] := ⟨f17, _, F17, PySem.W.mg_of X G a17, F17.binds (ps := ["number", "most"]) fun _ _ _ _ _ _ us hl => match us, hl with | [_, _], _ => rfl⟩
  have h_law_unfit := df_law_unfit B Er Et d17 h_heap_parts h_judge_heap_parts
  exact fn_law B Er Et h_heap_parts h_judge_heap_parts h_law_next h_law_same h_law_odd h_law_accepts h_law_told_near h_law_unfit F18
end Cw
set_option maxHeartbeats 200000
namespace Cw
open PySem PySem.Spec PyProof.Rows L2
variable {α β γ δ S : Type}
/-! ## what a mirror gives -/
def Hs (m : R α) (P : α → Prop) : Prop := match m with
  | .ok a => P a
  | _ => False
theorem hs_ok {a : α} {P : α → Prop} (h : P a) : Hs (R.ok a) P := h
theorem hs_iff {m : R α} {P : α → Prop} : Hs m P ↔ ∃ a, m = .ok a ∧ P a := by
  cases m with
  | ok a => exact ⟨fun h => ⟨a, rfl, h⟩, fun ⟨b, e, h⟩ => by cases e; exact h⟩
  | exc x => exact ⟨fun h => h.elim, fun ⟨b, e, _⟩ => by cases e⟩
  | bad => exact ⟨fun h => h.elim, fun ⟨b, e, _⟩ => by cases e⟩
theorem hs_bind {m : R α} {f : α → R β} {P : α → Prop} {Q : β → Prop} (h : Hs m P) (k : ∀ a, P a → Hs (f a) Q) : Hs (m.bind f) Q := by
  cases m with
  | ok a => exact k a h
  | exc x => exact h.elim
  | bad => exact h.elim
theorem hs_cb {m : R α} {f : α → R β} {P : α → Prop} {Q : β → Prop} (h : Hs m P) (k : ∀ a, P a → Hs (f a) Q) : Hs (m.cb f) Q := by
  cases m with
  | ok a => exact k a h
  | exc x => exact h.elim
  | bad => exact h.elim
theorem hs_cbIf {m : R (Bool × S)} {f g : S → R β} {P : Bool × S → Prop} {Q : β → Prop} (h : Hs m P) (k1 : ∀ s, P (true, s) → Hs (f s) Q) (k2 : ∀ s, P (false, s) → Hs (g s) Q) : Hs (R.cbIf m f g) Q := by
  cases m with
  | ok a =>
    obtain ⟨b, s⟩ := a
    cases b with
    | true => exact k1 s h
    | false => exact k2 s h
  | exc x => exact h.elim
  | bad => exact h.elim
theorem hs_mono {m : R α} {P Q : α → Prop} (h : Hs m P) (k : ∀ a, P a → Q a) : Hs m Q := by
  cases m with
  | ok a => exact k a h
  | exc x => exact h.elim
  | bad => exact h.elim
theorem hs_ite {c : Prop} [Decidable c] {m n : R α} {P : α → Prop} (h1 : c → Hs m P) (h2 : ¬ c → Hs n P) : Hs (if c then m else n) P := by
  split
  · exact h1 ‹_›
  · exact h2 ‹_›
theorem hs_and {m : R α} {P Q : α → Prop} (h1 : Hs m P) (h2 : Hs m Q) : Hs m fun a => P a ∧ Q a := by
  cases m with
  | ok a => exact ⟨h1, h2⟩
  | exc x => exact h1.elim
  | bad => exact h1.elim
theorem hs_seq {ms : List (R α)} {P : α → Prop} (h : ∀ m ∈ ms, Hs m P) : Hs (R.seq ms) fun xs => xs.length = ms.length ∧ ∀ x ∈ xs, P x := by
  induction ms with
  | nil => exact ⟨rfl, fun x hx => absurd hx (by simp)⟩
  | cons m ms ih =>
    refine hs_bind (h m List.mem_cons_self) fun a ha => hs_bind (ih fun m hm => h m (List.mem_cons_of_mem _ hm)) fun as ⟨e, hs⟩ => ⟨by simp [e], fun x hx => ?_⟩
    rcases List.mem_cons.mp hx with rfl | hx
    · exact ha
    · exact hs x hx
theorem hs_mapM {f : α → R β} {P : α → Prop} {Q : β → Prop} : ∀ {xs : List α}, (∀ x ∈ xs, Hs (f x) Q) → Hs (R.mapM f xs) fun ys => ys.length = xs.length ∧ ∀ y ∈ ys, Q y
  | [], _ => ⟨rfl, fun y hy => absurd hy (by simp)⟩
  | x :: xs, h => by
    have hx := h x List.mem_cons_self
    unfold R.mapM
    cases hf : f x with
    | ok y =>
      rw [hf] at hx
      refine hs_bind (hs_mapM (P := P) fun z hz => h z (List.mem_cons_of_mem _ hz)) fun ys ⟨e, q⟩ => ⟨by simp [e], fun z hz => ?_⟩
      rcases List.mem_cons.mp hz with rfl | hz
      · exact hx
      · exact q z hz
    | exc x => rw [hf] at hx; exact hx.elim
    | bad => rw [hf] at hx; exact hx.elim
theorem hs_mapMS {f : α → S → R (β × S)} {I : S → Prop} {Q : β → Prop} : ∀ {xs : List α} {s : S}, (∀ x ∈ xs, ∀ s, I s → Hs (f x s) fun t => Q t.1 ∧ I t.2) → I s → Hs (R.mapMS f xs s) fun t => t.1.length = xs.length ∧ (∀ y ∈ t.1, Q y) ∧ I t.2
  | [], s, _, hs => ⟨rfl, fun y hy => absurd hy (by simp), hs⟩
  | x :: xs, s, h, hs => hs_bind (h x List.mem_cons_self s hs) fun t ⟨q, i⟩ => hs_bind (hs_mapMS (fun z hz => h z (List.mem_cons_of_mem _ hz)) i) fun u ⟨e, q2, i2⟩ => ⟨by simp [e], fun z hz => by
      rcases List.mem_cons.mp hz with rfl | hz
      · exact q
      · exact q2 z hz, i2⟩
theorem hs_forR {g : α → S → R S} {I : S → Prop} : ∀ {xs : List α} {s : S}, (∀ x ∈ xs, ∀ s, I s → Hs (g x s) I) → I s → Hs (forR g xs s) I
  | [], s, _, hs => hs
  | x :: xs, s, h, hs => hs_bind (h x List.mem_cons_self s hs) fun t i => hs_forR (fun z hz => h z (List.mem_cons_of_mem _ hz)) i
theorem hs_forK {f : α → S → (S → R β) → R β} {K : S → R β} {I : S → Prop} {Q : β → Prop} : ∀ {xs : List α} {s : S}, (∀ x ∈ xs, ∀ s nx, I s → (∀ t, I t → Hs (nx t) Q) → Hs (f x s nx) Q) → (∀ t, I t → Hs (K t) Q) → I s → Hs (forK f K xs s) Q
  | [], s, _, k, hs => k s hs
  | x :: xs, s, h, k, hs => h x List.mem_cons_self s _ hs fun t i => hs_forK (fun z hz => h z (List.mem_cons_of_mem _ hz)) k i
theorem hs_yes {c : Prop} [Decidable c] {m n : R α} {P : α → Prop} (h : c) (k : Hs m P) : Hs (if c then m else n) P := by rw [if_pos h]; exact k
theorem hs_no {c : Prop} [Decidable c] {m n : R α} {P : α → Prop} (h : ¬ c) (k : Hs n P) : Hs (if c then m else n) P := by rw [if_neg h]; exact k
/-! ### places -/
theorem atI_in {xs : List α} {i : Int} (h0 : 0 ≤ i) (h1 : i < xs.length) : ∃ x, atI xs i = some x ∧ x ∈ xs ∧ xs[i.toNat]? = some x := by
  have hl : i.toNat < xs.length := by omega
  refine ⟨xs[i.toNat], ?_, List.getElem_mem hl, List.getElem?_eq_getElem hl⟩
  have := atI_nat (xs := xs) (j := i.toNat) (List.getElem?_eq_getElem hl)
  rw [Int.toNat_of_nonneg h0] at this
  exact this
theorem hs_idx {xs : List α} {i : Int} (h0 : 0 ≤ i) (h1 : i < xs.length) : Hs (idx xs i) fun x => x ∈ xs ∧ xs[i.toNat]? = some x := by
  obtain ⟨x, e, m⟩ := atI_in h0 h1
  unfold idx
  rw [e]
  exact m
theorem hs_idxT {xs : List D} {i : Int} (h0 : 0 ≤ i) (h1 : i < xs.length) : Hs (idxD (.tuple xs) i) fun x => x ∈ xs ∧ xs[i.toNat]? = some x := hs_idx h0 h1
theorem mem_cut {xs : List α} {lo hi : Option Int} {x : α} (h : x ∈ cut xs lo hi) : x ∈ xs := List.mem_of_mem_drop (List.mem_of_mem_take h)
theorem cut_len (xs : List α) (lo hi : Option Int) : (cut xs lo hi).length ≤ xs.length := by
  unfold cut
  rw [List.length_take, List.length_drop]
  omega
/-! ### the draws -/
def Good (s : Sta) : Prop := 0 ≤ s.2.1
theorem next_ok {limit : Int} {s : Sta} (h0 : 0 < limit) (h1 : limit < 2 ^ 62) (hs : Good s) : Hs (M_law_next limit s) fun t => (0 ≤ t.1 ∧ t.1 < limit) ∧ Good t.2 := by
  have hd : divR = fun i j => if 0 < j ∧ j.natAbs.log2 < 9000 then R.ok (i / j) else .bad := rfl
  have hl : limit.natAbs.log2 < 9000 := by
    have : limit.natAbs < 2 ^ 62 := by omega
    have := (Nat.log2_lt (n := limit.natAbs) (k := 62) (by omega)).mpr this
    omega
  have fin : ∀ t : Sta, Good t → Hs (if (decide ((0 : Int) < ((t).2.2.1))) then ((modR ((t).2.2.1) (limit)).bind fun (value_10 : Int) => (((divR ((t).2.2.1) (limit)).bind fun (y_12 : Int) => R.ok (t.1, t.2.1, y_12, t.2.2.2)).bind fun (s_11 : Sta) => R.ok (value_10, s_11))) else ((R.ok (t.1, t.2.1, t.2.2.1, (((((t).2.2.2) * 69621) + (12345 : Int)) % 2147483647))).bind fun (s_13 : Sta) => ((modR (((s_13).2.2.2) / 7) (limit)).bind fun a => R.ok (a, s_13))))
      fun t => (0 ≤ t.1 ∧ t.1 < limit) ∧ Good t.2 := by
    intro t ht
    have em : ∀ i, modR i limit = .ok (i % limit) := fun i => by unfold modR; rw [if_pos h0]
    have ed : ∀ i, divR i limit = .ok (i / limit) := fun i => by rw [hd]; dsimp only; rw [if_pos ⟨h0, hl⟩]
    split
    · rw [em, ed]
      exact ⟨⟨Int.emod_nonneg _ (by omega), Int.emod_lt_of_pos _ h0⟩, ht⟩
    · rw [R.bind_ok, em]
      exact ⟨⟨Int.emod_nonneg _ (by omega), Int.emod_lt_of_pos _ h0⟩, ht⟩
  unfold M_law_next
  refine hs_bind (P := Good) ?_ fin
  refine hs_ite (fun c => ?_) fun c => hs
  simp only [Bool.and_eq_true, decide_eq_true_eq] at c
  refine hs_bind (hs_idx hs c.2) fun cell _ => ?_
  have ep : powR 10 18 = .ok (10 ^ 18) := by decide
  have g : Good (s.1, s.2.1 + 1, s.2.2.1, s.2.2.2) := by
    unfold Good at *
    show 0 ≤ s.2.1 + 1
    omega
  rw [R.bind_ok, ep, R.bind_ok, R.bind_ok]
  refine hs_bind (P := Good) (hs_ite (fun _ => ?_) fun _ => ?_) fun t ht => ht
  · exact g
  · exact g
theorem pick_ok {xs : List α} {s : Sta} {P : α → Prop} (hn : xs ≠ []) (hl : xs.length ≤ 100000) (hp : ∀ x ∈ xs, P x) (hs : Good s) : Hs ((M_law_next (xs.length : Int) s).bind fun t => (idx xs t.1).bind fun c => R.ok (c, t.2)) fun t => P t.1 ∧ Good t.2 := by
  have h0 : 0 < xs.length := List.length_pos_iff.mpr hn
  refine hs_bind (next_ok (by omega) (by omega) hs) fun t ⟨⟨a, b⟩, g⟩ => hs_bind (hs_idx a b) fun c hc => ⟨hp c hc.1, g⟩
end Cw
namespace Cw
open PySem PySem.Spec PyProof.Rows L2
variable {α β γ δ S : Type}
/-! ## kinds of data -/
/-- what a def tells: plain data, tuples at most n deep -/
def Td : Nat → D → Prop
  | _, .none => True
  | _, .bool _ => True
  | _, .int i => i.natAbs < 2 ^ 200
  | _, .str x => PyData.strOk x = true
  | n + 1, .tuple xs => ∀ x ∈ xs, Td n x
  | _, _ => False
/-- what can be compared -/
def Ad (n : Nat) (d : D) : Prop := d.canLay0 = true ∧ d.depth ≤ n
theorem canAll {ds : List D} : PyData.canLayAll0 ds = true ↔ ∀ d ∈ ds, d.canLay0 = true := by
  induction ds with
  | nil => simp [PyData.canLayAll0]
  | cons d ds ih => simp [PyData.canLayAll0, ih]
theorem depAll {ds : List D} {n : Nat} : PyData.depthAll ds ≤ n ↔ ∀ d ∈ ds, d.depth ≤ n := by
  induction ds with
  | nil => simp [PyData.depthAll]
  | cons d ds ih => simp only [PyData.depthAll, List.mem_cons, forall_eq_or_imp, ← ih]; omega
theorem ad_none {n : Nat} : Ad n .none := ⟨by simp [PyData.canLay0], by simp [PyData.depth]⟩
theorem ad_bool {n : Nat} {b : Bool} : Ad n (.bool b) := ⟨by simp [PyData.canLay0], by simp [PyData.depth]⟩
theorem ad_int {n : Nat} {b : Int} : Ad n (.int b) := ⟨by simp [PyData.canLay0], by simp [PyData.depth]⟩
theorem ad_str {n : Nat} {b : Str} (h : PyData.strOk b = true) : Ad n (.str b) := ⟨by simp [PyData.canLay0, h], by simp [PyData.depth]⟩
theorem ad_tuple {n : Nat} {xs : List D} (h : ∀ x ∈ xs, Ad n x) : Ad (n + 1) (.tuple xs) := ⟨by simp only [PyData.canLay0]; exact canAll.mpr fun x hx => (h x hx).1, by
  have : PyData.depthAll xs ≤ n := depAll.mpr fun x hx => (h x hx).2
  simp only [PyData.depth]; omega⟩
theorem ad_list {n : Nat} {xs : List D} (h : ∀ x ∈ xs, Ad n x) : Ad (n + 1) (.list xs) := ⟨by simp only [PyData.canLay0]; exact canAll.mpr fun x hx => (h x hx).1, by
  have : PyData.depthAll xs ≤ n := depAll.mpr fun x hx => (h x hx).2
  simp only [PyData.depth]; omega⟩
theorem ad_mono {n m : Nat} {d : D} (h : Ad n d) (l : n ≤ m) : Ad m d := ⟨h.1, Nat.le_trans h.2 l⟩
theorem ad_in {n : Nat} {xs : List D} (h : Ad (n + 1) (.tuple xs)) {x : D} (hx : x ∈ xs) : Ad n x := ⟨by
  have := h.1
  simp only [PyData.canLay0] at this
  exact canAll.mp this x hx, by
  have := h.2
  simp only [PyData.depth] at this
  exact depAll.mp (Nat.le_of_succ_le_succ this) x hx⟩
theorem ad_inL {n : Nat} {xs : List D} (h : Ad (n + 1) (.list xs)) {x : D} (hx : x ∈ xs) : Ad n x := ⟨by
  have := h.1
  simp only [PyData.canLay0] at this
  exact canAll.mp this x hx, by
  have := h.2
  simp only [PyData.depth] at this
  exact depAll.mp (Nat.le_of_succ_le_succ this) x hx⟩
theorem ad_shaped {n : Nat} {d : D} (h : Ad n d) (hn : n ≤ 64) : SeqAt.shaped d = true := by
  unfold SeqAt.shaped
  rw [h.1]
  simp only [Bool.true_and, decide_eq_true_eq]
  exact Nat.le_trans h.2 hn
theorem td_ad : ∀ {n : Nat} {d : D}, Td n d → Ad n d
  | _, .none, _ => ad_none
  | _, .bool _, _ => ad_bool
  | _, .int _, _ => ad_int
  | _, .str _, h => ad_str (by simpa [Td] using h)
  | n + 1, .tuple xs, h => ad_tuple fun x hx => td_ad (h x hx)
  | 0, .tuple xs, h => by simp [Td] at h
  | _, .list xs, h => by simp [Td] at h
  | _, .dict xs, h => by simp [Td] at h
theorem td_mono : ∀ {n m : Nat} {d : D}, Td n d → n ≤ m → Td m d
  | _, _, .none, _, _ => by simp [Td]
  | _, _, .bool _, _, _ => by simp [Td]
  | _, _, .int _, h, _ => by simpa [Td] using h
  | _, _, .str _, h, _ => by simpa [Td] using h
  | n + 1, m, .tuple xs, h, l => by
    obtain ⟨m, rfl⟩ : ∃ k, m = k + 1 := ⟨m - 1, by omega⟩
    exact fun x hx => td_mono (h x hx) (by omega)
  | 0, _, .tuple xs, h, _ => by simp [Td] at h
  | _, _, .list xs, h, _ => by simp [Td] at h
  | _, _, .dict xs, h, _ => by simp [Td] at h
/-! ### weights: what bounds lengths -/
theorem weight_in {xs : List D} {x : D} (h : x ∈ xs) : x.weight + 1 ≤ PyData.weightAll xs := by
  induction xs with
  | nil => cases h
  | cons y ys ih =>
    simp only [PyData.weightAll]
    rcases List.mem_cons.mp h with rfl | h
    · omega
    · have := ih h; omega
theorem weight_len (xs : List D) : xs.length ≤ PyData.weightAll xs := by
  induction xs with
  | nil => simp [PyData.weightAll]
  | cons y ys ih => simp only [PyData.weightAll, List.length_cons]; omega
theorem weight_tuple (xs : List D) : (PyData.tuple xs).weight = PyData.weightAll xs := by simp only [PyData.weight]
def Wt (d : D) : Prop := d.weight ≤ 2 ^ 20
theorem wt_in {xs : List D} {x : D} (h : Wt (.tuple xs)) (hx : x ∈ xs) : Wt x := by
  unfold Wt at *
  rw [weight_tuple] at h
  have := weight_in hx
  omega
theorem wt_len {xs : List D} (h : Wt (.tuple xs)) : xs.length ≤ 2 ^ 20 := by
  unfold Wt at h
  rw [weight_tuple] at h
  have := weight_len xs
  omega
theorem wt_str {x : Str} (h : Wt (.str x)) : x.length ≤ 2 ^ 20 := by
  unfold Wt at h
  simp only [PyData.weight] at h
  exact h
theorem line : sizeLine = 16777216 := sizeLine_eq
/-! ### texts -/
theorem strOk_list {x : Str} : PyData.strOk x = true ↔ ∀ c ∈ x.cps.toList, c < 0x110000 := by
  unfold PyData.strOk
  rw [Array.all_eq_true']
  simp [Array.mem_toList_iff]
theorem strOk_of (s : String) : PyData.strOk (Str.ofString s) = true := by
  rw [strOk_list, Str.ofString_eq_toList]
  intro c hc
  obtain ⟨k, _, rfl⟩ := List.mem_map.mp (by simpa using hc)
  rcases k.valid with h | ⟨_, h⟩
  · exact Nat.lt_trans h (by decide)
  · exact h
theorem strOk_app {x y : Str} (h : PyData.strOk x = true) (h' : PyData.strOk y = true) : PyData.strOk (x ++ y) = true := by
  rw [strOk_list] at *
  intro c hc
  have : (x ++ y).cps.toList = x.cps.toList ++ y.cps.toList := by
    show (x.cps ++ y.cps).toList = _
    simp
  rw [this] at hc
  rcases List.mem_append.mp hc with hc | hc
  · exact h c hc
  · exact h' c hc
theorem strOk_cut {x : Str} {lo hi : Option Int} (h : PyData.strOk x = true) : PyData.strOk (cutS x lo hi) = true := by
  rw [strOk_list] at *
  intro c hc
  exact h c (List.mem_of_mem_drop (List.mem_of_mem_take (by simpa [cutS] using hc)))
theorem strOk_rev {x : Str} (h : PyData.strOk x = true) : PyData.strOk (revS x) = true := by
  rw [strOk_list] at *
  intro c hc
  exact h c (by simpa [revS] using hc)
theorem strOk_sgn {x : Str} (h : PyData.strOk x = true) : ∀ y ∈ sgn x, PyData.strOk y = true := by
  intro y hy
  obtain ⟨c, hc, rfl⟩ := List.mem_map.mp hy
  rw [strOk_list] at *
  intro z hz
  have : z = c := by simpa using hz
  subst this
  exact h z hc
end Cw
namespace Cw
open PySem PySem.Spec PyProof.Rows L2
variable {α β γ δ S : Type}
/-! ## parts of tuples and texts -/
def Tp (n L : Nat) (d : D) : Prop := ∃ ys, d = .tuple ys ∧ (∀ y ∈ ys, Ad n y) ∧ ys.length ≤ L
def Sp' (L : Nat) (d : D) : Prop := ∃ x, d = .str x ∧ PyData.strOk x = true ∧ x.length ≤ L
theorem tp_ad {n L : Nat} {d : D} (h : Tp n L d) : Ad (n + 1) d := by
  obtain ⟨ys, rfl, h, _⟩ := h
  exact ad_tuple h
theorem tp_mono {n m L K : Nat} {d : D} (h : Tp n L d) (l : n ≤ m) (k : L ≤ K) : Tp m K d := by
  obtain ⟨ys, e, h, z⟩ := h
  exact ⟨ys, e, fun y hy => ad_mono (h y hy) l, Nat.le_trans z k⟩
theorem sp_ad {n L : Nat} {d : D} (h : Sp' L d) : Ad n d := by
  obtain ⟨x, rfl, h, _⟩ := h
  exact ad_str h
theorem hs_cut {n L : Nat} {d : D} {lo hi : Option Int} (h : Tp n L d) : Hs (cutD d lo hi) (Tp n L) := by
  obtain ⟨ys, rfl, h, z⟩ := h
  exact ⟨_, rfl, fun y hy => h y (mem_cut hy), Nat.le_trans (cut_len _ _ _) z⟩
theorem hs_add {n L K : Nat} {a b : D} (h : Tp n L a) (k : Tp n K b) (z : L + K ≤ 16777216) : Hs (addD a b) (Tp n (L + K)) := by
  obtain ⟨xs, rfl, h, zx⟩ := h
  obtain ⟨ys, rfl, k, zy⟩ := k
  show Hs ((catR xs ys).map PyData.tuple) _
  unfold catR
  rw [if_pos (by rw [line]; omega)]
  refine ⟨_, rfl, fun y hy => ?_, by rw [List.length_append]; omega⟩
  rcases List.mem_append.mp hy with hy | hy
  · exact h y hy
  · exact k y hy
theorem hs_rev {n L : Nat} {d : D} (h : Tp n L d) : Hs (revD d) (Tp n L) := by
  obtain ⟨ys, rfl, h, z⟩ := h
  exact ⟨_, rfl, fun y hy => h y (by simpa using hy), by simpa using z⟩
theorem hs_cutS' {L : Nat} {d : D} {lo hi : Option Int} (h : Sp' L d) (z : L ≤ 16777216) : Hs (cutD d lo hi) (Sp' L) := by
  obtain ⟨x, rfl, h, zx⟩ := h
  show Hs (if x.length ≤ sizeLine then R.ok (PyData.str (cutS x lo hi)) else .bad) _
  rw [if_pos (by rw [line]; omega)]
  exact ⟨_, rfl, strOk_cut h, Nat.le_trans (cutS_length _ _ _) zx⟩
theorem hs_addS' {L K : Nat} {a b : D} (h : Sp' L a) (k : Sp' K b) (z : L + K ≤ 16777216) : Hs (addD a b) (Sp' (L + K)) := by
  obtain ⟨x, rfl, h, zx⟩ := h
  obtain ⟨y, rfl, k, zy⟩ := k
  show Hs ((addS x y).map PyData.str) _
  unfold addS
  rw [if_pos (by rw [line]; omega)]
  refine ⟨_, rfl, strOk_app h k, ?_⟩
  have : (x ++ y).length = x.length + y.length := by
    show (x.cps ++ y.cps).size = _
    rw [Array.size_append]
    rfl
  omega
theorem hs_revS' {L : Nat} {d : D} (h : Sp' L d) (z : L ≤ 16777216) : Hs (revD d) (Sp' L) := by
  obtain ⟨x, rfl, h, zx⟩ := h
  show Hs (if x.length ≤ sizeLine then R.ok (PyData.str (revS x)) else .bad) _
  rw [if_pos (by rw [line]; omega)]
  refine ⟨_, rfl, strOk_rev h, ?_⟩
  have : (revS x).length = x.length := by
    show x.cps.toList.reverse.toArray.size = x.cps.size
    simp
  omega
theorem eq_ok {n m : Nat} {a b : D} (ha : Ad n a) (hb : Ad m b) (hn : n ≤ 64 := by omega) (hm : m ≤ 64 := by omega) : eqR a b = .ok (PyData.eqv a b) := by
  unfold eqR
  rw [ad_shaped ha hn, ad_shaped hb hm]
  rfl
theorem ne_ok {n m : Nat} {a b : D} (ha : Ad n a) (hb : Ad m b) (hn : n ≤ 64 := by omega) (hm : m ≤ 64 := by omega) : neR a b = .ok (!PyData.eqv a b) := by
  unfold neR
  rw [eq_ok ha hb hn hm]
  rfl
theorem dec_tuple (xs : List D) : (dT dD).dec (.tuple xs) = some xs := (dT dD).full xs ▸ by
  show allM some xs = allM some (xs.map id)
  simp
theorem dec_list (xs : List D) : (dL dD).dec (.list xs) = some xs := by
  show allM some xs = some xs
  have := allM_full (e := (id : D → D)) (f := some) (fun a => rfl) xs
  simpa using this
theorem eT_id (xs : List D) : eT eD xs = .tuple xs := by simp [eT, eD]
theorem eL_id (xs : List D) : eL eD xs = .list xs := by simp [eL, eD]
theorem td_tp {n : Nat} {xs : List D} (h : Td n (.tuple xs)) (w : Wt (.tuple xs)) : ∃ k, n = k + 1 ∧ (∀ x ∈ xs, Td k x) ∧ Tp k (2 ^ 20) (.tuple xs) := by
  cases n with
  | zero => simp [Td] at h
  | succ k => exact ⟨k, rfl, h, xs, rfl, fun x hx => td_ad (h x hx), wt_len w⟩
theorem strOk_toString (i : Int) : PyData.strOk (toString i : Str) = true := strOk_of (toString i)
/-- a list by a draw -/
theorem pick2 {xs : List D} {s : Sta} {P : D → Prop} {k : Int} (hk : k = xs.length) (hn : 0 < xs.length) (hl : xs.length ≤ 2 ^ 30) (hp : ∀ x ∈ xs, P x) (hs : Good s) : Hs ((M_law_next k s).bind fun t => (idx xs t.1).bind fun c => R.ok (c, t.2)) fun t => P t.1 ∧ Good t.2 := by
  subst hk
  refine hs_bind (next_ok (by omega) (by omega) hs) fun t ⟨⟨a, b⟩, g⟩ => hs_bind (hs_idx a b) fun c hc => ⟨hp c hc.1, g⟩
theorem pickS {ms : List (R D)} {s : Sta} {P : D → Prop} {k : Int} (hk : k = ms.length) (hn : 0 < ms.length) (hl : ms.length ≤ 2 ^ 30) (hp : ∀ m ∈ ms, Hs m P) (hs : Good s) :
    Hs ((((R.seq ms).bind fun a => R.ok (a, s)).bind fun (t : List D × Sta) => (M_law_next k t.2).bind fun (t' : Int × Sta) => (idx t.1 t'.1).bind fun c => R.ok (c, t'.2)).cb fun t => R.ok t) fun t => P t.1 ∧ Good t.2 :=
  hs_cb (hs_bind (P := fun t => (t.1.length = ms.length ∧ ∀ x ∈ t.1, P x) ∧ t.2 = s) (hs_bind (hs_seq hp) fun xs h => ⟨h, rfl⟩) fun t ⟨⟨e, h⟩, es⟩ => by
    rw [es]
    exact pick2 (by rw [hk, e]) (by omega) (by omega) h hs) fun t h => h
theorem all_nil {P : α → Prop} : ∀ x ∈ ([] : List α), P x := fun x h => by cases h
theorem all_cons {P : α → Prop} {a : α} {as : List α} (h : P a) (t : ∀ x ∈ as, P x) : ∀ x ∈ a :: as, P x := fun x hx => by
  rcases List.mem_cons.mp hx with rfl | hx
  · exact h
  · exact t x hx
end Cw
set_option maxHeartbeats 1000000
namespace Cw
open PySem PySem.Spec PyProof.Rows L2
theorem orI (i k : Int) : Hs ((truD (.int i)).bind fun t => if t then R.ok (PyData.int i) else R.ok (eI k)) fun d => ∃ j, d = .int j := by
  show Hs (if (i != 0) = true then R.ok (PyData.int i) else R.ok (eI k)) _
  split
  · exact ⟨i, rfl⟩
  · exact ⟨k, rfl⟩
theorem log_small {i : Int} (h : i.natAbs < 2 ^ 200) : i.natAbs.log2 < 1920 := by
  by_cases z : i.natAbs = 0
  · rw [z]; decide
  · have := (Nat.log2_lt (n := i.natAbs) (k := 200) z).mpr h
    omega
theorem str_int {n : Nat} {i : Int} (h : i.natAbs < 2 ^ 200) : Hs (strD (.int i)) (Ad n) := by
  show Hs (if i.natAbs.log2 < 1920 then R.ok (PyData.str (toString i)) else .bad) _
  rw [if_pos (log_small h)]
  exact ad_str (strOk_toString i)
theorem tpOne {n : Nat} {d : D} (h : Ad n d) : Tp n 1 (.tuple [d]) := ⟨[d], rfl, all_cons h all_nil, Nat.le_refl _⟩
theorem tpOne' {n : Nat} {d : D} (h : Ad n d) : Tp n 1 ((eT eD) [d]) := by rw [eT_id]; exact tpOne h
theorem changed_ok : ∀ (f n : Nat) (d : D) (s : Sta), n < f → n ≤ 20 → Td n d → Wt d → Good s → Hs (M_law_changed f d s) fun t => Ad (n + 1) t.1 ∧ Good t.2
  | 0, _, _, _, h, _, _, _, _ => absurd h (by omega)
  | f + 1, n, d, s, hf, hn, ht, hw, hs => by
    show Hs (M_law_changed_step (M_law_changed f) d s) _
    unfold M_law_changed_step
    cases d with
    | list xs => simp [Td] at ht
    | dict xs => simp [Td] at ht
    | bool b =>
      refine hs_yes rfl ?_
      exact hs_cb (pick2 (xs := [PyData.bool (!b), .int (if b then 1 else 0)]) (k := 2) rfl (by show 0 < 2; decide) (by show 2 ≤ _; decide) (all_cons ad_bool (all_cons ad_int all_nil)) hs) fun t h => h
    | none =>
      refine hs_no Bool.false_ne_true (hs_yes rfl ?_)
      refine pickS rfl (by show 0 < 7; decide) (by show 7 ≤ _; decide) ?_ hs
      exact all_cons ad_int <| all_cons ad_int <| all_cons ad_int <| all_cons ad_none <| all_cons (by rw [eq_ok (n := 0) (m := 0) ad_none ad_int]; exact ad_bool) <| all_cons (ad_str (strOk_of "None")) <| all_cons ad_int all_nil
    | int i =>
      have hi : i.natAbs < 2 ^ 200 := by simpa [Td] using ht
      refine hs_no Bool.false_ne_true (hs_yes rfl ?_)
      refine pickS rfl (by show 0 < 7; decide) (by show 7 ≤ _; decide) ?_ hs
      refine all_cons ?_ <| all_cons ?_ <| all_cons ad_int <| all_cons ad_none <| all_cons (by rw [eq_ok (n := 0) (m := 0) ad_int ad_int]; exact ad_bool) <| all_cons (str_int hi) <| all_cons ?_ all_nil
      · exact hs_bind (P := fun _ => True) (hs_bind (P := fun _ => True) (hs_bind (orI i 0) fun d ⟨j, e⟩ => by subst e; exact True.intro) fun _ _ => True.intro) fun a _ => ad_int
      · exact hs_bind (P := fun _ => True) (hs_bind (P := fun _ => True) (hs_bind (orI i 0) fun d ⟨j, e⟩ => by subst e; exact True.intro) fun _ _ => True.intro) fun a _ => ad_int
      · exact hs_bind (P := fun _ => True) (hs_bind (P := fun _ => True) (hs_bind (orI i 1) fun d ⟨j, e⟩ => by subst e; exact True.intro) fun _ _ => True.intro) fun a _ => ad_int
    | str x =>
      have hx : Sp' (2 ^ 20) (.str x) := ⟨x, rfl, by simpa [Td] using ht, wt_str hw⟩
      have so : ∀ (y : String), Sp' y.length (.str (Str.ofString y)) → True := fun _ _ => trivial
      have s1 : Sp' 1 (.str "a") := ⟨_, rfl, strOk_of _, by decide⟩
      have s2 : Sp' 1 (.str "b") := ⟨_, rfl, strOk_of _, by decide⟩
      refine hs_no Bool.false_ne_true (hs_no Bool.false_ne_true (hs_yes rfl ?_))
      refine hs_bind (P := fun xs => xs.length = 9 ∧ ∀ x ∈ xs, Ad (n + 1) x) (hs_seq ?_) fun xs ⟨e, h⟩ => hs_cb (pick2 rfl (by omega) (by omega) h hs) fun t h => h
      refine all_cons (hs_mono (hs_cutS' hx (by decide)) fun _ h => sp_ad h) <| all_cons (hs_mono (hs_addS' hx s1 (by decide)) fun _ h => sp_ad h) <| all_cons (hs_mono (hs_revS' hx (by decide)) fun _ h => sp_ad h) <| all_cons (hs_mono (hs_addS' s2 hx (by decide)) fun _ h => sp_ad h) <|
        all_cons (ad_str (strOk_of "")) <| all_cons (hs_mono (hs_cutS' hx (by decide)) fun _ h => sp_ad h) <| all_cons (ad_str (strOk_of "left")) <| all_cons ad_int <| all_cons (ad_str (strOk_of "in")) all_nil
    | tuple xs =>
      obtain ⟨k, rfl, hk, hx⟩ := td_tp ht hw
      have wl := wt_len hw
      have ax : Ad (k + 1) (.tuple xs) := tp_ad hx
      have hx' : Tp (k + 1) (2 ^ 20) (.tuple xs) := tp_mono hx (by omega) (Nat.le_refl _)
      refine hs_no Bool.false_ne_true (hs_no Bool.false_ne_true (hs_no Bool.false_ne_true ?_))
      refine hs_cbIf (P := fun t => Good t.2 ∧ (t.1 = true → xs ≠ [])) (hs_yes rfl ?_) (fun s ⟨g, ne⟩ => ?_) fun s ⟨g, _⟩ => ?_
      · rw [eT_id, ne_ok ax (ad_tuple (n := 0) (fun x hx => by cases hx))]
        show Hs (if (!PyData.eqv (.tuple xs) (.tuple [])) = true then _ else _) _
        refine hs_ite (fun h => ?_) fun _ => ⟨hs, fun h => by cases h⟩
        refine hs_bind (next_ok (by decide) (by decide) hs) fun t ⟨_, g⟩ => ⟨g, fun _ e => ?_⟩
        subst e
        simp [PyData.eqv, PyData.eqvAll] at h
      · have ne := ne rfl
        have pos : 0 < xs.length := List.length_pos_iff.mpr ne
        show Hs ((M_law_next (xs.length : Int) s).cb _) _
        refine hs_cb (next_ok (by omega) (by omega) g) fun t ⟨⟨a, b⟩, g⟩ => ?_
        refine hs_cb (P := fun (t : D × Sta) => Ad (k + 1 + 1) t.1 ∧ Good t.2) ?_ fun t h => h
        refine hs_bind (P := fun t => Tp (k + 1) (2 ^ 20 + 1) t.1 ∧ Good t.2) ?_ fun u ⟨h, g⟩ => ?_
        · refine hs_bind (P := fun t' => Tp (k + 1) (2 ^ 20) t'.1 ∧ t'.2 = t.2) (hs_bind (hs_cut hx') fun d h => ⟨h, rfl⟩) fun u ⟨h, e⟩ => ?_
          refine hs_bind (P := fun t' => Tp (k + 1) 1 t'.1 ∧ Good t'.2) ?_ fun w ⟨h2, g2⟩ => hs_bind (hs_add h h2 (by decide)) fun c hc => ⟨hc, g2⟩
          refine hs_bind (P := fun t' => (∃ d, t'.1 = [d] ∧ Ad (k + 1) d) ∧ Good t'.2) ?_ fun w ⟨⟨d, e2, h2⟩, g2⟩ => ⟨by show Tp _ _ (eT eD w.1); rw [e2]; exact tpOne' h2, g2⟩
          refine hs_bind (P := fun t' => Ad (k + 1) t'.1.1 ∧ Good t'.2) ?_ fun w ⟨h2, g2⟩ => ⟨⟨_, rfl, h2⟩, g2⟩
          refine hs_bind (P := fun t' => Ad (k + 1) t'.1 ∧ Good t'.2) (hs_bind (hs_idxT a b) fun d ⟨hd, _⟩ => ?_) fun w h2 => h2
          rw [e]
          exact changed_ok f k d t.2 (by omega) (by omega) (hk d hd) (wt_in hw hd) g
        · refine hs_bind (P := fun t' => Tp (k + 1) (2 ^ 20) t'.1 ∧ t'.2 = u.2) (hs_bind (hs_cut hx') fun d h => ⟨h, rfl⟩) fun w ⟨h2, e⟩ => hs_bind (hs_add h h2 (by decide)) fun c hc => ⟨tp_ad hc, by rw [e]; exact g⟩
      · refine hs_no (by simp [isA]) ?_
        show Hs ((M_law_next ((xs.length : Int) + 1) s).cb _) _
        refine hs_cb (next_ok (by omega) (by omega) g) fun t ⟨⟨a, b⟩, g⟩ => ?_
        show Hs ((M_law_next ((xs.length : Int) + 1) t.2).cb _) _
        refine hs_cb (next_ok (by omega) (by omega) g) fun j ⟨_, g⟩ => ?_
        have two : Hs (addD (.tuple xs) ((eT eI) [0])) (Ad (k + 2)) := hs_mono (hs_add hx' (K := 1) ⟨[.int 0], rfl, all_cons ad_int all_nil, Nat.le_refl _⟩ (by decide)) fun _ h => tp_ad h
        refine hs_bind (P := fun xs => (0 < xs.length ∧ xs.length ≤ 100) ∧ ∀ x ∈ xs, Ad (k + 2) x) (hs_mono (hs_seq (P := Ad (k + 2)) ?_) fun _ ⟨e, h⟩ => ⟨by rw [e]; show 0 < 8 ∧ 8 ≤ 100; decide, h⟩) fun more ⟨hl, hm⟩ => ?_
        · refine all_cons (hs_bind (hs_cut hx') fun d h => hs_bind (hs_cut hx') fun d2 h2 => hs_mono (hs_add h h2 (by decide)) fun _ h => tp_ad h) <| all_cons (hs_bind (hs_cut hx') fun d h => hs_mono (hs_add hx' h (by decide)) fun _ h => tp_ad h) <| all_cons (hs_mono (hs_rev hx') fun _ h => tp_ad h) <|
            all_cons (hs_bind (hs_cut hx') fun d h => hs_bind (hs_cut hx') fun d2 h2 => hs_mono (hs_add h h2 (by decide)) fun _ h => tp_ad h) <| all_cons ?_ <| all_cons (hs_mono (hs_cut hx') fun _ h => tp_ad h) <| all_cons (ad_mono (n := 1) (ad_tuple (n := 0) (fun x hx => by cases hx)) (by omega)) <| all_cons two all_nil
          rw [dec_tuple]
          show Ad (k + 2) (eL eD xs)
          rw [eL_id]
          exact ad_list fun x hx => ad_mono (td_ad (hk x hx)) (by omega)
        · refine hs_bind (P := fun xs => (0 < xs.length ∧ xs.length ≤ 200) ∧ ∀ x ∈ xs, Ad (k + 2) x) ?_ fun ys ⟨hl, hm⟩ => hs_cb (pick2 rfl hl.1 (by omega) hm g) fun t h => h
          refine hs_bind (P := fun _ => True) ?_ fun c _ => hs_ite (fun _ => ?_) fun _ => ⟨⟨hl.1, by omega⟩, hm⟩
          · exact hs_ite (fun _ => trivial) fun _ => trivial
          · refine hs_bind (hs_bind (hs_mapM (P := fun _ => True) (Q := Ad (k + 2)) fun x hx => ?_) fun ys ⟨e, h⟩ => ?_) fun zs h => h
            · refine hs_bind (hs_bind (hs_bind (hs_bind (hs_cut hx') fun d h => hs_bind (hs_cut hx') fun d2 h2 => hs_add h h2 (by decide)) fun d h => hs_bind (hs_cut hx') fun d2 h2 => hs_add h h2 (by decide)) fun d h => hs_bind (hs_cut hx') fun d2 h2 => hs_add h h2 (by decide)) fun d h => hs_bind (hs_cut hx') fun d2 h2 => hs_mono (hs_add h h2 (by decide)) fun _ h => tp_ad h
            · have e3 : ys.length = 3 := by rw [e]; decide
              unfold catR
              rw [if_pos (by rw [line]; omega)]
              refine ⟨by rw [List.length_append]; omega, fun x hx => ?_⟩
              rcases List.mem_append.mp hx with hx | hx
              · exact hm x hx
              · exact h x hx
end Cw
namespace Cw
open PySem PySem.Spec PyProof.Rows L2
theorem ints_ok : ∀ (f n : Nat) (d : D), n < f → n ≤ 20 → Td n d → Wt d → Hs (M_law_ints f d) fun l => l.length ≤ d.weight + 1
  | 0, _, _, h, _, _, _ => absurd h (by omega)
  | f + 1, n, d, hf, hn, ht, hw => by
    show Hs (M_law_ints_step (M_law_ints f) d) _
    unfold M_law_ints_step
    cases d with
    | list xs => simp [Td] at ht
    | dict xs => simp [Td] at ht
    | bool b => exact hs_yes rfl (Nat.zero_le _)
    | none => exact hs_yes rfl (Nat.zero_le _)
    | str x => exact hs_yes rfl (Nat.zero_le _)
    | int i => exact hs_no Bool.false_ne_true (hs_yes rfl (by show 1 ≤ _; omega))
    | tuple xs =>
      obtain ⟨k, rfl, hk, hx⟩ := td_tp ht hw
      refine hs_no Bool.false_ne_true (hs_no Bool.false_ne_true ?_)
      rw [dec_tuple, R.bind_ok]
      have hwA : PyData.weightAll xs ≤ 2 ^ 20 := by rw [← weight_tuple]; exact hw
      rw [weight_tuple]
      refine hs_bind (P := fun l : List Int => l.length ≤ PyData.weightAll xs) ?_ fun l h => Nat.le_succ_of_le h
      rw [show (R.ofOpt (some xs)).bind _ = forR _ xs [] from rfl]
      have key : ∀ (ys : List D) (t : List Int), (∀ y ∈ ys, Td k y ∧ Wt y) → t.length + PyData.weightAll ys ≤ 2 ^ 20 →
          Hs (forR (fun (part_5 : D) (t_4 : (List Int)) => ((((M_law_ints f (part_5)).bind fun (y_7 : (List Int)) => R.ok (List.map (fun (number_6 : Int) => number_6) (List.filter (fun (number_6 : Int) => (!decide ((number_6) ∈ (t_4)))) y_7))).bind fun (y_8 : (List Int)) => (catR (t_4) y_8)).bind fun (found_9 : (List Int)) => R.ok found_9)) ys t) fun u => u.length ≤ t.length + PyData.weightAll ys := by
        intro ys
        induction ys with
        | nil => intro t _ _; exact Nat.le_add_right _ _
        | cons y ys ih =>
          intro t hy hl
          simp only [PyData.weightAll] at hl ⊢
          refine hs_bind (P := fun u : List Int => u.length ≤ t.length + (y.weight + 1)) ?_ fun u hu => hs_mono (ih u (fun z hz => hy z (List.mem_cons_of_mem _ hz)) (by omega)) fun w hw => by omega
          refine hs_bind (P := fun u : List Int => u.length ≤ t.length + (y.weight + 1)) ?_ fun u hu => hu
          refine hs_bind (P := fun u : List Int => u.length ≤ y.weight + 1) (hs_bind (ints_ok f k y (by omega) (by omega) (hy y List.mem_cons_self).1 (hy y List.mem_cons_self).2) fun l h => ?_) fun u hu => ?_
          · show (List.map _ (List.filter _ l)).length ≤ _
            rw [List.length_map]
            exact Nat.le_trans (List.length_filter_le _ _) h
          · unfold catR
            rw [if_pos (by rw [line]; omega)]
            show (t ++ u).length ≤ _
            rw [List.length_append]
            omega
      have := key xs [] (fun y hy => ⟨hk y hy, wt_in hw hy⟩) (by simpa using hwA)
      simpa using this
theorem exchanged_ok : ∀ (f n : Nat) (d : D) (a b : Int), n < f → n ≤ 20 → Td n d → Wt d → Hs (M_law_exchanged f d a b) (Ad n)
  | 0, _, _, _, _, h, _, _, _ => absurd h (by omega)
  | f + 1, n, d, a, b, hf, hn, ht, hw => by
    show Hs (M_law_exchanged_step (M_law_exchanged f) d a b) _
    unfold M_law_exchanged_step
    cases d with
    | list xs => simp [Td] at ht
    | dict xs => simp [Td] at ht
    | bool b => exact hs_yes rfl ad_bool
    | none => exact hs_yes rfl ad_none
    | str x => exact hs_yes rfl (td_ad ht)
    | int i =>
      refine hs_no Bool.false_ne_true (hs_yes rfl ?_)
      rw [eq_ok (n := 0) (m := 0) ad_int ad_int, eq_ok (n := 0) (m := 0) ad_int ad_int]
      exact hs_ite (fun _ => ad_int) fun _ => hs_ite (fun _ => ad_int) fun _ => ad_int
    | tuple xs =>
      obtain ⟨k, rfl, hk, hx⟩ := td_tp ht hw
      refine hs_no Bool.false_ne_true (hs_no Bool.false_ne_true ?_)
      rw [dec_tuple]
      refine hs_bind (P := fun ys : List D => ∀ y ∈ ys, Ad k y) ?_ fun ys h => by show Ad _ (eT eD ys); rw [eT_id]; exact ad_tuple h
      refine hs_bind (P := fun ys : List D => ∀ y ∈ ys, Ad k y) ?_ fun ys h => h
      exact hs_mono (hs_mapM (P := fun _ => True) (Q := Ad k) fun x hx => exchanged_ok f k x a b (by omega) (by omega) (hk x hx) (wt_in hw hx)) fun ys ⟨_, h⟩ => h
theorem filter_strs {xs : List D} (h : List.filter (fun (part_3 : D) => (!(isA .str (part_3)))) xs = []) : ∃ ss : List Str, xs = ss.map PyData.str := by
  induction xs with
  | nil => exact ⟨[], rfl⟩
  | cons x xs ih =>
    cases x with
    | str s =>
      have : List.filter (fun (part_3 : D) => (!(isA .str (part_3)))) xs = [] := by simpa [List.filter_cons, isA] using h
      obtain ⟨ss, rfl⟩ := ih this
      exact ⟨s :: ss, rfl⟩
    | _ => simp [List.filter_cons, isA] at h
theorem eqv_nil {xs : List D} (h : PyData.eqv (.list xs) (.list []) = true) : xs = [] := by
  cases xs with
  | nil => rfl
  | cons x xs => simp [PyData.eqv, PyData.eqvAll] at h
theorem eqvT_nil {xs : List D} (h : PyData.eqv (.tuple xs) (.tuple []) = true) : xs = [] := by
  cases xs with
  | nil => rfl
  | cons x xs => simp [PyData.eqv, PyData.eqvAll] at h
end Cw
namespace Cw
open PySem PySem.Spec PyProof.Rows L2
theorem strOk_join {sep : Str} (hs : PyData.strOk sep = true) : ∀ ts : List Str, (∀ t ∈ ts, PyData.strOk t = true) → PyData.strOk (Str.join sep ts) = true
  | [], _ => by rw [strOk_list]; intro c hc; simp [Str.join, Str.empty] at hc
  | [x], h => h x List.mem_cons_self
  | x :: y :: r, h => strOk_app (strOk_app (h x List.mem_cons_self) hs) (strOk_join hs (y :: r) fun t ht => h t (List.mem_cons_of_mem _ ht))
theorem weight_strs : ∀ ss : List Str, (ss.map (·.length)).sum + ss.length ≤ PyData.weightAll (ss.map PyData.str)
  | [] => by simp [PyData.weightAll]
  | x :: r => by
    have := weight_strs r
    simp only [List.map_cons, List.sum_cons, PyData.weightAll, PyData.weight, List.length_cons]
    have e : x.length = x.cps.size := rfl
    omega
/-- texts put together -/
theorem hs_join {ss : List Str} (h : ∀ t ∈ ss, PyData.strOk t = true) (w : (ss.map (·.length)).sum ≤ 2 ^ 20) : Hs (joinR "" ss) fun x => PyData.strOk x = true ∧ x.length ≤ 2 ^ 20 := by
  unfold joinR
  have e : (Str.ofString "").length = 0 := by decide
  rw [if_pos (by rw [e]; omega)]
  have ej : Txt.join "" ss = Str.join "" ss := PySem.StrLaws.glued_eq_join _ _
  show PyData.strOk (Txt.join _ ss) = true ∧ _
  rw [ej]
  refine ⟨strOk_join (strOk_of "") ss h, ?_⟩
  have := StrLaws.join_length_le "" ss
  rw [e] at this
  exact Nat.le_trans this (by omega)
theorem td_strs {k : Nat} {ss : List Str} (h : ∀ x ∈ ss.map PyData.str, Td k x) : ∀ t ∈ ss, PyData.strOk t = true := fun t ht => by
  have := h (.str t) (List.mem_map.mpr ⟨t, ht, rfl⟩)
  simpa [Td] using this
theorem sum_cut (ss : List Str) (lo hi : Option Int) : ((cut ss lo hi).map (·.length)).sum ≤ (ss.map (·.length)).sum := by
  have h1 : ∀ (l : List Str) (n : Nat), ((l.drop n).map (·.length)).sum ≤ (l.map (·.length)).sum := by
    intro l
    induction l with
    | nil => intro n; simp
    | cons x l ih =>
      intro n
      cases n with
      | zero => simp
      | succ n => simp only [List.drop_succ_cons, List.map_cons, List.sum_cons]; have := ih n; omega
  have h2 : ∀ (l : List Str) (n : Nat), ((l.take n).map (·.length)).sum ≤ (l.map (·.length)).sum := by
    intro l
    induction l with
    | nil => intro n; simp
    | cons x l ih =>
      intro n
      cases n with
      | zero => simp
      | succ n => simp only [List.take_succ_cons, List.map_cons, List.sum_cons]; have := ih n; omega
  unfold cut
  exact Nat.le_trans (h2 _ _) (h1 _ _)
theorem cut_ok : ∀ (f n : Nat) (d : D) (s : Sta), n < f → n ≤ 20 → Td n d → Wt d → Good s → Hs (M_law_cut f d s) fun t => Ad (n + 1) t.1 ∧ Good t.2 ∧ (∀ k, n = k + 1 → (∃ ys, d = .tuple ys) → Tp (k + 1) (2 ^ 22) t.1)
  | 0, _, _, _, h, _, _, _, _ => absurd h (by omega)
  | f + 1, n, d, s, hf, hn, ht, hw, hs => by
    have same : ∀ {d : D}, Td n d → (∀ ys, d ≠ .tuple ys) → Hs (R.ok (d, s)) fun t => Ad (n + 1) t.1 ∧ Good t.2 ∧ (∀ k, n = k + 1 → (∃ ys, d = .tuple ys) → Tp (k + 1) (2 ^ 22) t.1) :=
      fun {d} h no => ⟨ad_mono (td_ad h) (by omega), hs, fun k _ ⟨ys, e⟩ => absurd e (no ys)⟩
    show Hs (M_law_cut_step (M_law_cut f) d s) _
    unfold M_law_cut_step
    cases d with
    | list xs => simp [Td] at ht
    | dict xs => simp [Td] at ht
    | bool b => exact same ht nofun
    | none => exact same ht nofun
    | str x => exact same ht nofun
    | int i => exact same ht nofun
    | tuple xs =>
      obtain ⟨k, rfl, hk, hx⟩ := td_tp ht hw
      have wl := wt_len hw
      have ax : Ad (k + 1) (.tuple xs) := tp_ad hx
      have hx' : Tp (k + 1) (2 ^ 20) (.tuple xs) := tp_mono hx (by omega) (Nat.le_refl _)
      have up : ∀ {m : R (D × Sta)}, Hs m (fun t => Tp (k + 1) (2 ^ 22) t.1 ∧ Good t.2) → Hs m fun t => Ad (k + 1 + 1) t.1 ∧ Good t.2 ∧ (∀ k', k + 1 = k' + 1 → (∃ ys, (PyData.tuple xs) = .tuple ys) → Tp (k' + 1) (2 ^ 22) t.1) :=
        fun {m} h => hs_mono h fun t ⟨a, g⟩ => ⟨tp_ad a, g, fun k' e _ => by cases e; exact a⟩
      refine up ?_
      refine hs_bind (P := fun b => b = true ∨ xs ≠ []) (hs_no (by simp [isA]) ?_) fun b hb => ?_
      · rw [eT_id, eq_ok ax (ad_tuple (n := 0) (fun x hx => by cases hx))]
        show _ ∨ _
        cases q : PyData.eqv (.tuple xs) (.tuple []) with
        | true => exact .inl rfl
        | false => exact .inr fun e => by subst e; simp [PyData.eqv, PyData.eqvAll] at q
      refine hs_ite (fun _ => ⟨tp_mono hx' (Nat.le_refl _) (by decide), hs⟩) fun nb => ?_
      have ne : xs ≠ [] := hb.resolve_left nb
      have pos : 0 < xs.length := List.length_pos_iff.mpr ne
      rw [dec_tuple]
      have fl : Ad (k + 2) (.list (List.map (fun (part_3 : D) => part_3) (List.filter (fun (part_3 : D) => (!(isA .str (part_3)))) xs))) := ad_list fun x hx => by
        rw [List.map_id'] at hx
        exact ad_mono (td_ad (hk x (List.mem_filter.mp hx).1)) (by omega)
      refine hs_bind (P := fun b => b = true ∨ ∃ ss : List Str, xs = ss.map PyData.str) ?_ fun b hb => ?_
      · show Hs (neR (eL eD (List.map (fun (part_3 : D) => part_3) (List.filter (fun (part_3 : D) => (!(isA .str (part_3)))) xs))) (eL eD [])) _
        rw [eL_id, eL_id, ne_ok fl (ad_list (n := 0) (fun x hx => by cases hx))]
        show _ ∨ _
        cases q : PyData.eqv (.list (List.map (fun (part_3 : D) => part_3) (List.filter (fun (part_3 : D) => (!(isA .str (part_3)))) xs))) (.list []) with
        | false => exact .inl rfl
        | true =>
          have := eqv_nil q
          rw [List.map_id'] at this
          exact .inr (filter_strs this)
      refine hs_ite (fun _ => ?_) fun nb => ?_
      · show Hs ((M_law_next (xs.length : Int) s).cb _) _
        refine hs_cb (next_ok (by omega) (by omega) hs) fun t ⟨⟨a, b⟩, g⟩ => ?_
        refine hs_cb (P := fun (t : D × Sta) => Tp (k + 1) (2 ^ 22) t.1 ∧ Good t.2) ?_ fun t h => h
        refine hs_bind (P := fun t => Tp (k + 1) (2 ^ 20 + 1) t.1 ∧ Good t.2) ?_ fun u ⟨h, g⟩ => ?_
        · refine hs_bind (P := fun t' => Tp (k + 1) (2 ^ 20) t'.1 ∧ t'.2 = t.2) (hs_bind (hs_cut hx') fun d h => ⟨h, rfl⟩) fun u ⟨h, e⟩ => ?_
          refine hs_bind (P := fun t' => Tp (k + 1) 1 t'.1 ∧ Good t'.2) ?_ fun w ⟨h2, g2⟩ => hs_bind (hs_add h h2 (by decide)) fun c hc => ⟨hc, g2⟩
          refine hs_bind (P := fun t' => (∃ d, t'.1 = [d] ∧ Ad (k + 1) d) ∧ Good t'.2) ?_ fun w ⟨⟨d, e2, h2⟩, g2⟩ => ⟨by show Tp _ _ (eT eD w.1); rw [e2]; exact tpOne' h2, g2⟩
          refine hs_bind (P := fun t' => Ad (k + 1) t'.1.1 ∧ Good t'.2) ?_ fun w ⟨h2, g2⟩ => ⟨⟨_, rfl, h2⟩, g2⟩
          refine hs_bind (P := fun t' => Ad (k + 1) t'.1 ∧ Good t'.2) (hs_bind (hs_idxT a b) fun d ⟨hd, _⟩ => ?_) fun w h2 => h2
          rw [e]
          exact hs_mono (cut_ok f k d t.2 (by omega) (by omega) (hk d hd) (wt_in hw hd) g) fun t h => ⟨h.1, h.2.1⟩
        · refine hs_bind (P := fun t' => Tp (k + 1) (2 ^ 20) t'.1 ∧ t'.2 = u.2) (hs_bind (hs_cut hx') fun d h => ⟨h, rfl⟩) fun w ⟨h2, e⟩ => hs_bind (hs_add h h2 (by decide)) fun c hc => ⟨tp_mono hc (Nat.le_refl _) (by decide), by rw [e]; exact g⟩
      · obtain ⟨ss, rfl⟩ := hb.resolve_left nb
        have okS := td_strs hk
        have wS : (ss.map (·.length)).sum ≤ 2 ^ 20 := by
          have := weight_strs ss
          have : PyData.weightAll (ss.map PyData.str) ≤ 2 ^ 20 := by rw [← weight_tuple]; exact hw
          omega
        have part : ∀ {i : Int}, 0 ≤ i → i < (ss.map PyData.str).length → Hs (idxD (.tuple (ss.map PyData.str)) i) (Sp' (2 ^ 20)) := fun h0 h1 => hs_mono (hs_idxT h0 h1) fun d ⟨hd, _⟩ => by
          obtain ⟨x, hx, rfl⟩ := List.mem_map.mp hd
          exact ⟨x, rfl, okS x hx, wt_str (wt_in hw hd)⟩
        have decS : ∀ zs : List Str, (dT dS).dec (.tuple (zs.map PyData.str)) = some zs := fun zs => (dT dS).full zs
        have joinC : ∀ lo hi, Hs (((cutD (.tuple (ss.map PyData.str)) lo hi).bind fun a => R.ofOpt ((dT dS).dec a)).bind fun y => joinR "" y) fun x => PyData.strOk x = true ∧ x.length ≤ 2 ^ 20 := fun lo hi => by
          show Hs ((R.ofOpt ((dT dS).dec (.tuple (cut (ss.map PyData.str) lo hi)))).bind _) _
          rw [cut_map, decS]
          exact hs_join (fun t ht => okS t (mem_cut ht)) (Nat.le_trans (sum_cut ss lo hi) wS)
        have joinA : Hs ((R.ofOpt ((dT dS).dec (.tuple (ss.map PyData.str)))).bind fun y => joinR "" y) fun x => PyData.strOk x = true ∧ x.length ≤ 2 ^ 20 := by
          rw [decS]
          exact hs_join okS wS
        have oneS : ∀ {x : Str}, PyData.strOk x = true → Tp (k + 1) 1 ((eT eS) [x]) := fun {x} h => ⟨[.str x], rfl, all_cons (ad_str h) all_nil, Nat.le_refl _⟩
        show Hs ((M_law_next ((ss.map PyData.str).length : Int) s).cb _) _
        refine hs_cb (next_ok (by omega) (by omega) hs) fun t ⟨⟨a, b⟩, g⟩ => ?_
        refine hs_cb (P := fun (t : Int × Sta) => Good t.2) (hs_bind (P := fun i => 0 < i ∧ i ≤ 2 ^ 20 + 1) (hs_bind (P := fun i => 0 ≤ i ∧ i ≤ 2 ^ 20) (hs_bind (part a b) fun d ⟨x, e, _, hl⟩ => ?_) fun i h => ⟨by omega, by omega⟩) fun i ⟨h0, h1⟩ => hs_mono (next_ok h0 (by omega) g) fun t h => h.2) fun at_ g => ?_
        · subst e
          show Hs (if x.length ≤ sizeLine then R.ok (x.length : Int) else .bad) _
          rw [if_pos (by rw [line]; omega)]
          exact ⟨by omega, by omega⟩
        have cS : ∀ {lo hi}, Hs ((idxD (.tuple (ss.map PyData.str)) t.1).bind fun y => cutD y lo hi) (Sp' (2 ^ 20)) := fun {lo hi} => hs_bind (part a b) fun d h => hs_cutS' h (by decide)
        refine hs_bind (P := fun ws : List D => ws.length = 2 ∧ ∀ w ∈ ws, Tp (k + 1) (2 ^ 22) w) ?_ fun ws ⟨e, hws⟩ => ?_
        · refine hs_bind (P := Tp (k + 1) (2 ^ 22)) ?_ fun y h => hs_bind (P := Tp (k + 1) (2 ^ 22)) ?_ fun y2 h2 => ⟨rfl, all_cons h (all_cons h2 all_nil)⟩
          · refine hs_bind (hs_bind (hs_cut hx') fun d h => hs_bind (P := Tp (k + 1) 2) ?_ fun d2 h2 => hs_add h h2 (by decide)) fun d h => hs_bind (hs_cut hx') fun d2 h2 => hs_mono (hs_add h h2 (by decide)) fun _ h => tp_mono h (Nat.le_refl _) (by decide)
            refine hs_bind (P := fun ws : List D => ws.length = 2 ∧ ∀ w ∈ ws, Ad (k + 1) w) (hs_bind cS fun d h => hs_bind cS fun d2 h2 => ⟨rfl, all_cons (sp_ad h) (all_cons (sp_ad h2) all_nil)⟩) fun ws ⟨e, h⟩ => ?_
            show Tp _ _ (eT eD ws)
            rw [eT_id]
            exact ⟨ws, rfl, h, by omega⟩
          · refine hs_bind (hs_bind (hs_cut hx') fun d h => hs_bind (P := Tp (k + 1) 1) ?_ fun d2 h2 => hs_add h h2 (by decide)) fun d h => hs_bind (hs_cut hx') fun d2 h2 => hs_mono (hs_add h h2 (by decide)) fun _ h => tp_mono h (Nat.le_refl _) (by decide)
            exact hs_bind (P := fun xs : List Str => ∃ x, xs = [x] ∧ PyData.strOk x = true) (hs_bind (joinC _ _) fun x h => ⟨x, rfl, h.1⟩) fun xs ⟨x, e, h⟩ => by subst e; exact oneS h
        · refine hs_bind (P := fun ws : List D => ws.length = 6 ∧ ∀ w ∈ ws, Tp (k + 1) (2 ^ 22) w) (hs_bind (hs_seq (P := Tp (k + 1) (2 ^ 22)) ?_) fun ys ⟨e2, h⟩ => ?_) fun ys ⟨e2, h⟩ => hs_cb (pick2 rfl (by omega) (by omega) h g) fun t h => h
          · refine all_cons ?_ <| all_cons ?_ <| all_cons ?_ <| all_cons ?_ all_nil
            · exact hs_bind (P := fun xs : List Str => ∃ x, xs = [x] ∧ PyData.strOk x = true) (hs_bind joinA fun x h => ⟨x, rfl, h.1⟩) fun xs ⟨x, e, h⟩ => by subst e; exact tp_mono (oneS h) (Nat.le_refl _) (by decide)
            · refine hs_bind (P := fun xs : List Str => (∀ x ∈ xs, PyData.strOk x = true) ∧ xs.length ≤ 2 ^ 20) (hs_bind joinA fun x h => ?_) fun xs h => ⟨xs.map PyData.str, rfl, fun y hy => ?_, by rw [List.length_map]; omega⟩
              · unfold sgnR
                rw [if_pos (by rw [line]; omega)]
                refine ⟨strOk_sgn h.1, ?_⟩
                simp only [sgn, List.length_map, Array.length_toList]
                exact h.2
              · obtain ⟨x, hx, rfl⟩ := List.mem_map.mp hy
                exact ad_str (h.1 x hx)
            · exact hs_bind (hs_bind (hs_cut hx') fun d h => hs_add h (oneS (strOk_of "")) (by decide)) fun d h => hs_bind (hs_cut hx') fun d2 h2 => hs_mono (hs_add h h2 (by decide)) fun _ h => tp_mono h (Nat.le_refl _) (by decide)
            · exact hs_bind (hs_bind (hs_cut hx') fun d h => hs_bind (hs_bind (hs_cut hx') fun d h => hs_rev h) fun d2 h2 => hs_add h h2 (by decide)) fun d h => hs_bind (hs_cut hx') fun d2 h2 => hs_mono (hs_add h h2 (by decide)) fun _ h => tp_mono h (Nat.le_refl _) (by decide)
          · have e4 : ys.length = 4 := e2
            unfold catR
            rw [if_pos (by rw [line]; omega)]
            refine ⟨by rw [List.length_append]; omega, fun x hx => ?_⟩
            rcases List.mem_append.mp hx with hx | hx
            · exact hws x hx
            · exact h x hx
end Cw
namespace Cw
open PySem PySem.Spec PyProof.Rows L2
theorem weight_drop : ∀ (xs : List D) (n : Nat), PyData.weightAll (xs.drop n) ≤ PyData.weightAll xs
  | [], n => by simp
  | x :: xs, 0 => by simp
  | x :: xs, n + 1 => by
    have := weight_drop xs n
    simp only [List.drop_succ_cons, PyData.weightAll]
    omega
theorem weight_take : ∀ (xs : List D) (n : Nat), PyData.weightAll (xs.take n) ≤ PyData.weightAll xs
  | [], n => by simp
  | x :: xs, 0 => by simp [PyData.weightAll]
  | x :: xs, n + 1 => by
    have := weight_take xs n
    simp only [List.take_succ_cons, PyData.weightAll]
    omega
theorem wt_cut {xs : List D} (h : Wt (.tuple xs)) (lo hi : Option Int) : Wt (.tuple (cut xs lo hi)) := by
  unfold Wt at *
  rw [weight_tuple] at *
  exact Nat.le_trans (weight_take _ _) (Nat.le_trans (weight_drop _ _) h)
theorem td_cut {n : Nat} {xs : List D} (h : Td (n + 1) (.tuple xs)) (lo hi : Option Int) : Td (n + 1) (.tuple (cut xs lo hi)) := fun x hx => h x (mem_cut hx)
theorem pickI {xs : List Int} {s : Sta} (hn : 0 < xs.length) (hl : xs.length ≤ 2 ^ 30) (hs : Good s) : Hs ((M_law_next (xs.length : Int) s).bind fun (t : Int × Sta) => (idx xs t.1).bind fun c => R.ok (c, t.2)) fun t => Good t.2 :=
  hs_bind (next_ok (by omega) (by omega) hs) fun t ⟨⟨a, b⟩, g⟩ => hs_bind (hs_idx a b) fun c hc => g
theorem two_next {m1 : R Int} {m2 : R Int} {s : Sta} {n1 n2 : Nat} (h1 : m1 = .ok (n1 : Int)) (h2 : m2 = .ok (n2 : Int)) (p1 : 0 < n1) (p2 : 0 < n2) (l1 : n1 ≤ 2 ^ 30) (l2 : n2 ≤ 2 ^ 30) (hs : Good s) :
    Hs ((m1.bind fun (y_26 : Int) => M_law_next y_26 s).bind fun (t_24 : Int × Sta) => ((m2.bind fun (y_29 : Int) => M_law_next y_29 t_24.2).bind fun (t_27 : Int × Sta) => (R.ok ((), t_27.2)).bind fun (u_28 : Unit × Sta) => R.ok ((t_27.1, u_28.1), u_28.2)).bind fun (u_25 : (Int × Unit) × Sta) => R.ok ((t_24.1, u_25.1), u_25.2))
      fun t => (0 ≤ t.1.1 ∧ t.1.1 < n1) ∧ (0 ≤ t.1.2.1 ∧ t.1.2.1 < n2) ∧ Good t.2 := by
  subst h1 h2
  exact hs_bind (next_ok (by omega) (by omega) hs) fun t ⟨a, g⟩ => hs_bind (P := fun (t : (Int × Unit) × Sta) => (0 ≤ t.1.1 ∧ t.1.1 < n2) ∧ Good t.2) (hs_bind (next_ok (by omega) (by omega) g) fun u h => (show Hs (R.ok ((u.1, ()), u.2)) _ from h)) fun u ⟨b, g⟩ => ⟨a, b, g⟩
theorem turned_ok (n : Nat) (xs : List D) (s : Sta) (hn : n ≤ 5) (ht : Td (n + 1) (.tuple xs)) (hw : Wt (.tuple xs)) (ne : xs ≠ []) (hs : Good s) : Hs (M_law_turned_about (.tuple xs) s) fun t => Ad (n + 3) t.1 ∧ Good t.2 := by
  obtain ⟨k, e, hk, hx⟩ := td_tp ht hw
  cases e
  have wl := wt_len hw
  have pos : 0 < xs.length := List.length_pos_iff.mpr ne
  have ax : Ad (n + 1) (.tuple xs) := tp_ad hx
  have hx' : Tp (n + 1) (2 ^ 20) (.tuple xs) := tp_mono hx (by omega) (Nat.le_refl _)
  unfold M_law_turned_about
  refine hs_bind (ints_ok 8 (n + 1) _ (by omega) (by omega) ht hw) fun numbers hnum => ?_
  have hnum : numbers.length ≤ 2 ^ 20 + 1 := by unfold Wt at hw; omega
  refine hs_cb (next_ok (by decide) (by decide) hs) fun t ⟨_, g⟩ => ?_
  refine hs_ite (fun c => ?_) fun _ => hs_ite (fun _ => ?_) fun _ => ?_
  · simp only [Bool.and_eq_true, Bool.not_eq_true', decide_eq_false_iff_not] at c
    have np : 0 < numbers.length := List.length_pos_iff.mpr c.2
    refine hs_cb (pickI np (by omega) g) fun t5 g => hs_cb (P := fun (t : Int × Sta) => Good t.2) (hs_ite (fun _ => g) fun _ => pickI np (by omega) g) fun t8 g => ?_
    exact hs_bind (exchanged_ok 8 (n + 1) _ _ _ (by omega) (by omega) ht hw) fun a ha => ⟨ad_mono ha (by omega), g⟩
  · refine hs_cb (P := fun (t : D × Sta) => Ad (n + 3) t.1 ∧ Good t.2) ?_ fun t h => h
    refine hs_bind (P := fun (t' : D × Sta) => Tp (n + 1) (2 ^ 20) t'.1 ∧ Good t'.2) (hs_bind (hs_cut hx') fun d h => ⟨h, g⟩) fun u ⟨h, g⟩ => ?_
    refine hs_bind (P := fun (t' : D × Sta) => Tp (n + 2) (2 ^ 22) t'.1 ∧ Good t'.2) ?_ fun w ⟨h2, g⟩ => hs_bind (hs_add (tp_mono h (by omega) (Nat.le_refl _)) h2 (by decide)) fun c hc => ⟨tp_ad hc, g⟩
    refine hs_bind (P := fun (t : Bool × Sta) => Good t.2) g fun t g => hs_ite (fun _ => ?_) fun _ => ?_
    · exact hs_mono (cut_ok 8 (n + 1) (.tuple (cut xs (some 1) none)) t.2 (by omega) (by omega) (td_cut ht _ _) (wt_cut hw _ _) g) fun t ⟨_, g, h⟩ => ⟨tp_mono (h n rfl ⟨_, rfl⟩) (by omega) (Nat.le_refl _), g⟩
    · refine hs_bind (P := fun (t : List D × Sta) => (t.1.length ≤ 2 ^ 20 ∧ ∀ d ∈ t.1, Ad (n + 1) d) ∧ Good t.2) ?_ fun u ⟨⟨hl, h⟩, g⟩ => ⟨by show Tp _ _ (eT eD u.1); rw [eT_id]; exact ⟨u.1, rfl, fun y hy => ad_mono (h y hy) (by omega), by omega⟩, g⟩
      show Hs (((((R.ofOpt ((dT dD).dec (.tuple (cut xs (some 1) none)))).bind fun a => R.ok (a, t.2)).bind _).bind _)) _
      rw [dec_tuple]
      refine hs_bind (P := fun (t : List D × Sta) => (t.1.length ≤ 2 ^ 20 ∧ ∀ d ∈ t.1, Ad (n + 1) d) ∧ Good t.2) ?_ fun u h => h
      refine hs_mono (hs_mapMS (I := Good) (Q := Ad (n + 1)) (fun x hx s g => hs_mono (cut_ok 8 n x s (by omega) (by omega) (hk x (mem_cut hx)) (wt_in hw (mem_cut hx)) g) fun t h => ⟨h.1, h.2.1⟩) g) fun t ⟨e, h, g⟩ => ⟨⟨?_, h⟩, g⟩
      rw [e]
      exact Nat.le_trans (cut_len _ _ _) wl
  · refine hs_cb (two_next (n1 := xs.length) (n2 := xs.length) rfl rfl pos pos (by omega) (by omega) g) fun t ⟨_, _, g⟩ => ?_
    have nxt : ∀ {d : D}, Ad n d → Hs (neR d ((eT eD) [])) fun b => b = true → ∀ ys, d = .tuple ys → ys ≠ [] := fun {d} h => by
      rw [eT_id, ne_ok h (ad_tuple (n := 0) (fun x hx => by cases hx))]
      intro hb ys e z
      subst e z
      simp [PyData.eqv, PyData.eqvAll] at hb
    refine hs_bind (P := fun b => b = true → ∃ w ys, xs = [w, .tuple ys] ∧ ys ≠ []) ?_ fun b hb => hs_ite (fun c => ?_) fun _ => ?_
    · show Hs (if decide ((xs.length : Int) = 2) = true then _ else R.ok false) _
      refine hs_ite (fun c => ?_) fun _ => fun h => by cases h
      have c2 : xs.length = 2 := by have := of_decide_eq_true c; omega
      obtain ⟨w, z, rfl⟩ : ∃ w z, xs = [w, z] := by
        match xs, c2 with
        | [w, z], _ => exact ⟨w, z, rfl⟩
      show Hs (if isA .tuple z = true then neR z ((eT eD) []) else R.ok false) _
      refine hs_ite (fun c => ?_) fun _ => fun h => by cases h
      obtain ⟨ys, rfl⟩ : ∃ ys, z = .tuple ys := by
        cases z with
        | tuple ys => exact ⟨ys, rfl⟩
        | _ => cases c
      exact hs_mono (nxt (td_ad (hk _ (by simp)))) fun b h hb => ⟨w, ys, rfl, h hb ys rfl⟩
    · obtain ⟨w, ys, rfl, yne⟩ := hb c
      have hy : Td n (.tuple ys) := hk _ (by simp)
      have wy : Wt (.tuple ys) := wt_in hw (by simp)
      obtain ⟨k, rfl, hk', hyt⟩ := td_tp hy wy
      have yl := wt_len wy
      have ypos : 0 < ys.length := List.length_pos_iff.mpr yne
      refine hs_cb (two_next (n1 := ys.length) (n2 := ys.length) rfl rfl ypos ypos (by omega) (by omega) g) fun t ⟨_, _, g⟩ => ?_
      refine hs_bind (P := Ad (k + 2)) (hs_bind (P := fun ws : List D => ∀ w ∈ ws, Ad (k + 1) w) ?_ fun ws h => by show Ad _ (eT eD ws); rw [eT_id]; exact ad_tuple h) fun a h => ⟨ad_mono h (by omega), g⟩
      refine hs_bind (P := Ad (k + 1)) (show Ad (k + 1) w from td_ad (hk w (by simp))) fun a ha => hs_bind (P := Ad (k + 1)) ?_ fun b hb => all_cons ha (all_cons hb all_nil)
      exact hs_bind (hs_bind (P := Tp k (2 ^ 20)) (hs_cut hyt) fun d h => hs_bind (P := Tp k (2 ^ 20)) (hs_cut hyt) fun d2 h2 => hs_add h h2 (by decide)) fun d h => hs_bind (P := Tp k (2 ^ 20)) (hs_cut hyt) fun d2 h2 => hs_mono (hs_add h h2 (by decide)) fun _ h => tp_ad h
    · refine hs_bind (P := Ad (n + 2)) (hs_ite (fun _ => ?_) fun _ => ad_mono ax (by omega)) fun a h => ⟨ad_mono h (by omega), g⟩
      exact hs_bind (hs_bind (hs_cut hx') fun d h => hs_bind (hs_cut hx') fun d2 h2 => hs_add h h2 (by decide)) fun d h => hs_bind (hs_cut hx') fun d2 h2 => hs_mono (hs_add h h2 (by decide)) fun _ h => tp_ad h
/-- what is asked: {} or what can be compared -/
def Asked (n : Nat) (d : D) : Prop := d = .dict [] ∨ Ad n d
theorem odd_ok (n : Nat) (xs : List D) (s : Sta) (hn : n ≤ 5) (ht : Td (n + 1) (.tuple xs)) (hw : Wt (.tuple xs)) (ne : xs ≠ []) (hs : Good s) : Hs (M_law_odd (.tuple xs) s) fun t => Asked (n + 3) t.1 ∧ Good t.2 := by
  obtain ⟨k, e, hk, hx⟩ := td_tp ht hw
  cases e
  have wl := wt_len hw
  have pos : 0 < xs.length := List.length_pos_iff.mpr ne
  have hx' : Tp (n + 1) (2 ^ 20) (.tuple xs) := tp_mono hx (by omega) (Nat.le_refl _)
  have up : ∀ {L d}, Tp (n + 1) L d → Asked (n + 3) d := fun {L d} h => .inr (ad_mono (tp_ad h) (by omega))
  unfold M_law_odd
  refine hs_bind (P := fun ys : List D => ys.length = 11 ∧ ∀ y ∈ ys, Asked (n + 3) y) (hs_seq ?_) fun ys ⟨e, h⟩ => ?_
  · refine all_cons (.inr ad_none) <| all_cons (.inr (ad_str (strOk_of ""))) <| all_cons (.inr (ad_str (strOk_of "yes"))) <| all_cons (.inl rfl) <| all_cons ?_ <| all_cons (hs_mono (hs_cut hx') fun _ h => up h) <| all_cons ?_ <| all_cons ?_ <| all_cons ?_ <| all_cons ?_ <| all_cons (.inr ad_int) all_nil
    · show Asked _ (eT eD [])
      rw [eT_id]
      exact .inr (ad_mono (ad_tuple (n := 0) (fun x hx => by cases hx)) (by omega))
    · rw [dec_tuple]
      show Asked _ (eL eD xs)
      rw [eL_id]
      exact .inr (ad_mono (ad_list fun x hx => td_ad (hk x hx)) (by omega))
    · exact hs_mono (hs_add hx' (K := 1) ⟨[.int 0], rfl, all_cons ad_int all_nil, Nat.le_refl _⟩ (by decide)) fun _ h => up h
    · refine hs_bind (P := Tp (n + 1) 1) (hs_bind (P := fun (a : List (List D)) => ∃ d, a = [[d]] ∧ Ad n d) (hs_bind (P := fun (a : List D) => ∃ d, a = [d] ∧ Ad n d) (hs_bind (hs_idxT (by decide) (by omega)) fun d ⟨hd, _⟩ => ⟨d, rfl, td_ad (hk d hd)⟩) fun a ⟨d, e, h⟩ => ⟨d, by rw [e], h⟩) fun a ⟨d, e, h⟩ => ?_) fun d h => hs_bind (hs_cut hx') fun d2 h2 => hs_mono (hs_add h h2 (by decide)) fun _ h => up h
      subst e
      exact ⟨[.list [d]], by simp [eT, eL, eD], all_cons (ad_list (all_cons h all_nil)) all_nil, Nat.le_refl _⟩
    · exact hs_bind (hs_cut hx') fun d h => hs_mono (hs_add (K := 2 ^ 20) (L := 1) ⟨[.str "none such"], rfl, all_cons (ad_str (strOk_of _)) all_nil, Nat.le_refl _⟩ h (by decide)) fun _ h => up h
  · refine hs_cb (next_ok (by decide) (by decide) hs) fun t ⟨_, g⟩ => hs_ite (fun _ => ?_) fun _ => ?_
    · exact hs_cb (turned_ok n xs t.2 hn ht hw ne g) fun t h => ⟨.inr h.1, h.2⟩
    · refine hs_cb (P := fun (t : D × Sta) => Asked (n + 3) t.1 ∧ Good t.2) (hs_ite (fun _ => pick2 rfl (by omega) (by omega) h g) fun _ => ?_) fun t h => h
      exact hs_mono (changed_ok 8 (n + 1) _ t.2 (by omega) (by omega) ht hw g) fun t h => ⟨.inr (ad_mono h.1 (by omega)), h.2⟩
end Cw
namespace Cw
open PySem PySem.Spec PyProof.Rows L2
variable {α β : Type}
theorem forK_all {f : α → Unit → (Unit → R Bool) → R Bool} {P : α → Prop} : ∀ {ks : List α}, (∀ k ∈ ks, ∃ c : Bool, (∀ nx, f k () nx = if c then nx () else R.ok false) ∧ (c = true ↔ P k)) → Hs (forK f (fun _ => R.ok true) ks ()) fun b => b = true ↔ ∀ k ∈ ks, P k
  | [], _ => ⟨fun _ k hk => (nomatch hk), fun _ => rfl⟩
  | k :: ks, h => by
    obtain ⟨c, h1, h2⟩ := h k List.mem_cons_self
    show Hs (f k () (forK f (fun _ => R.ok true) ks)) _
    rw [h1]
    cases c with
    | false => exact ⟨fun z => (nomatch z), fun z => absurd (h2.mpr (z k List.mem_cons_self)) (by simp)⟩
    | true =>
      refine hs_mono (forK_all fun z hz => h z (List.mem_cons_of_mem _ hz)) fun b hb => hb.trans ⟨fun q z hz => ?_, fun q z hz => q z (List.mem_cons_of_mem _ hz)⟩
      rcases List.mem_cons.mp hz with rfl | hz
      · exact h2.mp rfl
      · exact q z hz
theorem rng1_is {n : Nat} (h : n ≤ 16777216) : rng1 (n : Int) = .ok (rng 0 n) := by
  unfold rng1
  rw [if_pos]
  simp only [small, Bool.and_eq_true, decide_eq_true_eq]
  omega
theorem mem_rng {n : Nat} {k : Int} : k ∈ rng 0 n ↔ 0 ≤ k ∧ k < n := by
  unfold rng
  rw [List.mem_map]
  constructor
  · rintro ⟨i, hi, rfl⟩
    have := List.mem_range.mp hi
    omega
  · intro h
    exact ⟨k.toNat, List.mem_range.mpr (by omega), by omega⟩
theorem idx_is {xs : List D} {i : Nat} (h : i < xs.length) : idxD (.tuple xs) (i : Int) = .ok xs[i] := by
  obtain ⟨x, e, _, e2⟩ := atI_in (xs := xs) (i := (i : Int)) (by omega) (by omega)
  show R.ofOpt (atI xs i) = _
  rw [e]
  rw [Int.toNat_natCast, List.getElem?_eq_getElem h] at e2
  cases e2
  rfl
/-- what is expected: no list, no dict in it -/
theorem same_ok : ∀ (f n m : Nat) (a e : D), n < f → n ≤ 60 → m ≤ 60 → Td n e → Wt e → Asked m a → Hs (M_law_same f a e) fun b => b = true ↔ a = e
  | 0, _, _, _, _, h, _, _, _, _, _ => absurd h (by omega)
  | f + 1, n, m, a, e, hf, hn, hm, ht, hw, ha => by
    show Hs (M_law_same_step (M_law_same f) a e) _
    unfold M_law_same_step
    cases e with
    | list xs => simp [Td] at ht
    | dict xs => simp [Td] at ht
    | none =>
      refine hs_yes rfl ?_
      show isNon a = true ↔ a = .none
      cases a <;> simp [isNon]
    | bool b =>
      refine hs_no Bool.false_ne_true (hs_yes rfl (hs_ite (fun c => ?_) fun c => ?_))
      · cases a with
        | bool a =>
          rw [eq_ok (n := 0) (m := 0) ad_bool ad_bool]
          show PyData.eqv (.bool a) (.bool b) = true ↔ _
          simp [PyData.eqv]
        | _ => cases c
      · show false = true ↔ _
        cases a <;> simp_all [isA]
    | int b =>
      refine hs_no Bool.false_ne_true (hs_no Bool.false_ne_true (hs_yes rfl (hs_ite (fun c => hs_ite (fun c2 => ?_) fun c2 => ?_) fun c => ?_)))
      · cases a with
        | int a =>
          rw [eq_ok (n := 0) (m := 0) ad_int ad_int]
          show PyData.eqv (.int a) (.int b) = true ↔ _
          simp [PyData.eqv]
        | bool a => simp [isA] at c2
        | _ => cases c
      · show false = true ↔ _
        cases a <;> simp_all [isA]
      · show false = true ↔ _
        cases a <;> simp_all [isA]
    | str b =>
      refine hs_no Bool.false_ne_true (hs_no Bool.false_ne_true (hs_no Bool.false_ne_true (hs_yes rfl (hs_ite (fun c => ?_) fun c => ?_))))
      · cases a with
        | str a =>
          rcases ha with ha | ha
          · cases ha
          rw [eq_ok (n := m) (m := 0) ha (td_ad (n := 0) (by simpa [Td] using ht))]
          show PyData.eqv (.str a) (.str b) = true ↔ _
          simp [PyData.eqv]
        | _ => cases c
      · show false = true ↔ _
        cases a <;> simp_all [isA]
    | tuple es =>
      obtain ⟨k, rfl, hk, hx⟩ := td_tp ht hw
      refine hs_no Bool.false_ne_true (hs_no Bool.false_ne_true (hs_no Bool.false_ne_true (hs_no Bool.false_ne_true (hs_ite (fun c => ?_) fun c => hs_no Bool.false_ne_true ?_))))
      · show false = true ↔ _
        cases a <;> simp_all [isA]
      · obtain ⟨as, rfl⟩ : ∃ as, a = .tuple as := by
          cases a <;> simp_all [isA]
        rcases ha with ha | ha
        · cases ha
        obtain ⟨m', rfl⟩ : ∃ k, m = k + 1 := ⟨m - 1, by have := ha.2; simp only [PyData.depth] at this; omega⟩
        show Hs (if (!decide ((as.length : Int) = (es.length : Int))) = true then R.ok false else _) _
        refine hs_ite (fun c => ?_) fun c => ?_
        · refine ⟨fun z => (nomatch z), fun z => ?_⟩
          cases z
          simp at c
        · have le : as.length = es.length := by
            simp only [Bool.not_eq_true, Bool.not_eq_false', decide_eq_true_eq] at c
            omega
          rw [show lenD (PyData.tuple es) = .ok (es.length : Int) from rfl, R.bind_ok, rng1_is (by have := wt_len hw; omega), R.bind_ok]
          refine hs_mono (forK_all (P := fun k => as[k.toNat]? = es[k.toNat]?) fun k hk0 => ?_) fun b hb => hb.trans ⟨fun q => ?_, fun q k _ => ?_⟩
          · obtain ⟨h0, h1⟩ := mem_rng.mp hk0
            obtain ⟨i, rfl⟩ : ∃ i : Nat, k = i := ⟨k.toNat, by omega⟩
            have hi : i < es.length := by omega
            have hi' : i < as.length := by omega
            have mem := List.getElem_mem hi
            have := same_ok f _ m' as[i] es[i] (by omega) (by omega) (by omega) (hk _ mem) (wt_in hw mem) (.inr (ad_in ha (List.getElem_mem hi')))
            obtain ⟨c, e1, e2⟩ := hs_iff.mp this
            refine ⟨c, fun nx => ?_, ?_⟩
            · rw [idx_is hi, idx_is hi', R.bind_ok, R.bind_ok, e1]
              cases c <;> rfl
            · rw [e2, Int.toNat_natCast, List.getElem?_eq_getElem hi, List.getElem?_eq_getElem hi']
              simp
          · congr 1
            apply List.ext_getElem?
            intro i
            by_cases hi : i < es.length
            · have := q i (mem_rng.mpr ⟨by omega, by omega⟩)
              simpa using this
            · rw [List.getElem?_eq_none (by omega), List.getElem?_eq_none (by omega)]
          · cases q
            rfl
theorem same_bool (a b : Bool) : M_law_same 8 (.bool a) (.bool b) = .ok (a == b) := by
  obtain ⟨c, e1, e2⟩ := hs_iff.mp (same_ok 8 0 0 (.bool a) (.bool b) (by omega) (by omega) (by omega) (by simp [Td]) (by simp [Wt, PyData.weight]) (.inr ad_bool))
  rw [e1]
  congr 1
  cases c <;> cases a <;> cases b <;> simp_all
end Cw
namespace Cw
open PySem PySem.Spec PyProof.Rows L2
/-! ## what the judges look at -/
def isW (d : D) : Bool := isA .int d && !isA .bool d
theorem isW_iff {d : D} : isW d = true ↔ ∃ i, d = .int i := by
  cases d <;> simp [isW, isA]
theorem whole_ok (d : D) : M_is_whole d = .ok (isW d) := rfl
/-- is_told -/
def toldB (d : D) (w : Str) (n : Nat) : Bool := match d with
  | .tuple (.str x :: r) => decide (r.length + 1 = n) && decide (x = w)
  | _ => false
theorem told_ok {m : Nat} {d : D} {w : Str} {n : Nat} (ha : Asked m d) (hm : m ≤ 60) (hw : PyData.strOk w = true) (hn : 0 < n) : M_is_told d w (n : Int) = .ok (toldB d w n) := by
  unfold M_is_told
  cases d with
  | tuple xs =>
    rcases ha with ha | ha
    · cases ha
    obtain ⟨k, rfl⟩ : ∃ k, m = k + 1 := ⟨m - 1, by have := ha.2; simp only [PyData.depth] at this; omega⟩
    show ((if (!true) = true then R.ok true else R.ok (!decide ((xs.length : Int) = (n : Int)))).bind _) = _
    rw [if_neg (by decide), R.bind_ok]
    by_cases e : xs.length = n
    · rw [if_neg (by simp [e])]
      cases xs with
      | nil => simp at e; omega
      | cons x r =>
        have h0 : idxD (.tuple (x :: r)) 0 = .ok x := idx_is (xs := x :: r) (i := 0) (by simp)
        rw [h0, R.bind_ok, R.bind_ok, R.bind_ok]
        cases x with
        | str y =>
          show eqR (.str y) (.str w) = _
          rw [eq_ok (ad_in ha (x := .str y) List.mem_cons_self) (ad_str (n := 0) hw)]
          simp only [List.length_cons] at e
          have q : (y == w) = decide (y = w) := by rw [Bool.eq_iff_iff]; simp
          simp [toldB, e, PyData.eqv, q]
        | _ => rfl
    · rw [if_pos (by simp; omega)]
      cases xs with
      | nil => rfl
      | cons x r =>
        cases x with
        | str y =>
          have : ¬ (r.length + 1 = n) := by simpa using e
          simp [toldB, this]
        | _ => rfl
  | _ => rfl
/-- are_wholes -/
def wholesB (d : D) (n : Int) : Bool := match d with
  | .tuple xs => decide ((xs.length : Int) = n) && xs.all isW
  | _ => false
theorem wholes_ok (d : D) (n : Int) : M_are_wholes d n = .ok (wholesB d n) := by
  unfold M_are_wholes
  cases d with
  | tuple xs =>
    show (if decide ((xs.length : Int) = n) = true then _ else R.ok false) = _
    by_cases e : (xs.length : Int) = n
    · rw [if_pos (by simpa using e)]
      rw [dec_tuple]
      show ((R.mapM (fun (part_4 : D) => (M_is_whole (part_4))) xs).bind _) = _
      have : (fun (part_4 : D) => (M_is_whole (part_4))) = fun x => .ok (isW x) := rfl
      rw [this, R.mapM_ok, R.bind_ok]
      congr 1
      simp only [wholesB, e, decide_true, Bool.true_and]
      rw [Bool.eq_iff_iff]
      simp only [Bool.not_eq_true', decide_eq_false_iff_not, List.mem_map, List.all_eq_true, not_exists, not_and]
      exact ⟨fun h x hx => by cases q : isW x with
        | true => rfl
        | false => exact absurd q (h x hx), fun h x hx q => by rw [h x hx] at q; cases q⟩
    · rw [if_neg (by simpa using e)]
      simp [wholesB, e]
  | _ => rfl
theorem all_ints : ∀ {xs : List D}, xs.all isW = true → ∃ ns : List Int, xs = ns.map PyData.int
  | [], _ => ⟨[], rfl⟩
  | x :: xs, h => by
    simp only [List.all_cons, Bool.and_eq_true] at h
    obtain ⟨i, rfl⟩ := isW_iff.mp h.1
    obtain ⟨ns, rfl⟩ := all_ints h.2
    exact ⟨i :: ns, rfl⟩
theorem eqv_ints (xs ys : List Int) : PyData.eqvAll (xs.map PyData.int) (ys.map PyData.int) = decide (xs = ys) := eqvAll_map eqq_int.eq xs ys
end Cw
namespace Cw
open PySem PySem.Spec PyProof.Rows L2
variable {α β τ : Type}
/-! ## the end of each question's part of a turn -/
theorem rng1_cast {n : Nat} {i : Int} (e : i = n) (h : n ≤ 16777216) : rng1 i = .ok (rng 0 n) := by subst e; exact rng1_is h
/-- what is asked of a judge, and of the law's own look -/
theorem look_ok {n c : Nat} {told : D} {seen : List D} {J A : D → R Bool} {P : D → Prop} {K : Sta → R Bool} {s : Sta} (hc : c ≤ 1000) (ho : ∀ s, Good s → Hs (M_law_odd told s) fun t => Asked n t.1 ∧ Good t.2)
    (hl : seen.length ≤ 100) (hd : ∀ d ∈ seen, Asked n d) (hJ : ∀ d, Asked n d → Hs (J d) fun b => b = true ↔ P d) (hA : ∀ d, Asked n d → Hs (A d) fun b => b = true ↔ P d) (hs : Good s) (hK : ∀ s, Good s → Hs (K s) fun b => b = true) :
    Hs ((rng1 ((c : Int) + (seen.length : Int))).bind fun (y_25 : (List Int)) => (forK (fun (k_18 : Int) (t_17 : Sta) (nx_20 : Sta → R Bool) => ((if (decide ((k_18) < (c : Int))) then (M_law_odd told (t_17)) else ((idx (seen) ((k_18) - (c : Int))).bind fun a => R.ok (a, (t_17)))).cb fun (t_22 : (D × Sta)) => (((((J (t_22.1)).bind fun a => R.ok (eB a)).bind fun (y_23 : D) => ((A (t_22.1)).bind fun a => R.ok (eB a)).bind fun (y_24 : D) => (M_law_same 8 y_23 y_24)).bind fun c => R.ok (!c)).bind fun t => if t then R.ok (false) else nx_20 t_22.2))) (fun (t_19 : Sta) => K t_19) y_25 s)) fun b => b = true := by
  rw [rng1_cast (n := c + seen.length) (by omega) (by omega), R.bind_ok]
  refine hs_forK (I := Good) (fun k hk t nx g hn => ?_) hK hs
  obtain ⟨k0, k1⟩ := mem_rng.mp hk
  refine hs_cb (P := fun (t : D × Sta) => Asked n t.1 ∧ Good t.2) (hs_ite (fun _ => ho t g) fun h => ?_) fun u ⟨a, g⟩ => ?_
  · have : ¬ k < c := by simpa using h
    exact hs_bind (hs_idx (by omega) (by omega)) fun d hd2 => ⟨hd d hd2.1, g⟩
  · obtain ⟨b1, q1, r1⟩ := hs_iff.mp (hJ u.1 a)
    obtain ⟨b2, q2, r2⟩ := hs_iff.mp (hA u.1 a)
    have e : b1 = b2 := by
      rw [Bool.eq_iff_iff, r1, r2]
    rw [q1, q2, R.bind_ok, R.bind_ok, R.bind_ok, R.bind_ok, show M_law_same 8 (eB b1) (eB b2) = .ok (b1 == b2) from same_bool b1 b2, R.bind_ok, R.bind_ok, e]
    refine hs_no (by cases b2 <;> decide) (hn _ g)
/-- the rows that were seen -/
theorem seen_ok {n : Nat} {seen : List D} {told near : D} {f : List D → R Bool} (hl : seen.length ≤ 5) (hd : ∀ d ∈ seen, Asked n d) (ht : Asked n told) (hn : Asked n near) (k : ∀ xs : List D, xs.length ≤ 5 → (∀ d ∈ xs, Asked n d) → Hs (f xs) fun b => b = true) :
    Hs ((catR (cut (seen) (some (-(3 : Int))) none) ([told, near])).bind f) fun b => b = true := by
  have h3 : (cut seen (some (-(3 : Int))) none).length ≤ 3 := by
    unfold cut
    rw [List.length_take, List.length_drop]
    have e : HT.sIx seen.length 0 (some (-3)) = seen.length - 3 := by
      unfold HT.sIx
      dsimp only
      rw [if_pos (by decide)]
      omega
    rw [HT.sIx_none, e]
    omega
  unfold catR
  rw [if_pos (by rw [line]; simp only [List.length_cons, List.length_nil]; omega), R.bind_ok]
  refine k _ (by simp only [List.length_append, List.length_cons, List.length_nil]; omega) fun d h => ?_
  rcases List.mem_append.mp h with h | h
  · exact hd d (mem_cut h)
  · rcases List.mem_cons.mp h with rfl | h
    · exact ht
    · rw [List.mem_singleton.mp h]; exact hn
theorem asked_td {n m : Nat} {d : D} (h : Td n d) (l : n ≤ m) : Asked m d := .inr (ad_mono (td_ad h) l)
/-- what is told -/
structure Told (d : D) : Prop where
  td : Td 6 d
  wt : Wt d
  ne : ∃ x xs, d = .tuple (x :: xs)
/-- what was seen -/
abbrev Seen (xs : List D) : Prop := xs.length ≤ 5 ∧ ∀ d ∈ xs, Asked 8 d
theorem Told.odd {d : D} (h : Told d) (s : Sta) (g : Good s) : Hs (M_law_odd d s) fun t => Asked 8 t.1 ∧ Good t.2 := by
  obtain ⟨td, wt, x, xs, rfl⟩ := h
  exact odd_ok 5 _ s (by omega) td wt (by simp) g
theorem Told.asked {d : D} (h : Told d) : Asked 8 d := asked_td h.td (by omega)
/-- J and A look for P -/
structure Both (J A : D → R Bool) (P : D → Prop) : Prop where
  j : ∀ d, Asked 8 d → Hs (J d) fun b => b = true ↔ P d
  a : ∀ d, Asked 8 d → Hs (A d) fun b => b = true ↔ P d
theorem Both.one {J A : D → R Bool} {P : D → Prop} (h : Both J A P) {d : D} (hd : Asked 8 d) (p : P d) : J d = .ok true ∧ A d = .ok true := by
  obtain ⟨c1, q1, r1⟩ := hs_iff.mp (h.j d hd)
  obtain ⟨c2, q2, r2⟩ := hs_iff.mp (h.a d hd)
  rw [q1, q2, r1.mpr p, r2.mpr p]
  exact ⟨rfl, rfl⟩
theorem tail_ok {c : Nat} {told near : D} {seen : List D} {J A : D → R Bool} {P : D → Prop} {K : Sta → List D → R Bool} {s : Sta} (hc : c ≤ 1000) (ht : Told told) (hn : Asked 8 near) (hs : Seen seen) (hB : Both J A P) (g : Good s)
    (hK : ∀ s xs, Good s → Seen xs → Hs (K s xs) fun b => b = true) :
    Hs ((catR (cut (seen) (some (-(3 : Int))) none) ([told, near])).bind fun (seen_16 : List D) => (rng1 ((c : Int) + (seen_16.length : Int))).bind fun (y_25 : (List Int)) => (forK (fun (k_18 : Int) (t_17 : Sta) (nx_20 : Sta → R Bool) => ((if (decide ((k_18) < (c : Int))) then (M_law_odd told (t_17)) else ((idx (seen_16) ((k_18) - (c : Int))).bind fun a => R.ok (a, (t_17)))).cb fun (t_22 : (D × Sta)) => (((((J (t_22.1)).bind fun a => R.ok (eB a)).bind fun (y_23 : D) => ((A (t_22.1)).bind fun a => R.ok (eB a)).bind fun (y_24 : D) => (M_law_same 8 y_23 y_24)).bind fun c => R.ok (!c)).bind fun t => if t then R.ok (false) else nx_20 t_22.2))) (fun (t_19 : Sta) => K t_19 seen_16) y_25 s)) fun b => b = true :=
  seen_ok (n := 8) hs.1 hs.2 ht.asked hn fun xs xl xd => look_ok (n := 8) (c := c) (told := told) (J := J) (A := A) (P := P) (K := fun s => K s xs) hc (fun s g => ht.odd s g) (by omega) xd hB.j hB.a g fun s g => hK s xs g ⟨xl, xd⟩
/-- one question's part of a turn -/
theorem part_ok {β : Type} {enc : β → D} {m : R β} {t0 : β} {near : Sta → R (D × Sta)} {c : Nat} {seen : List D} {J A : D → R Bool} {P : D → Prop} {U : R Bool} {K : Sta → List D → R Bool} {s : Sta} (hm : m = .ok t0) (hc : c ≤ 1000) (ht : Told (enc t0))
    (hn : ∀ s, Good s → Hs (near s) fun t => Asked 8 t.1 ∧ Good t.2) (hs : Seen seen) (hB : Both J A P) (hp : P (enc t0)) (hU : U = .ok false) (g : Good s) (hK : ∀ s xs, Good s → Seen xs → Hs (K s xs) fun b => b = true) :
    Hs (m.bind fun (told : β) => (near s).cb fun (t_14 : (D × Sta)) => ((((A (enc told)).bind fun c => R.ok (!c)).bind fun c => if c then R.ok true else ((J (enc told)).bind fun (y_15 : Bool) => R.ok (!decide (y_15 = (true))))).bind fun t => if t then R.ok (false) else (U.bind fun t => if t then R.ok (false) else
      ((catR (cut (seen) (some (-(3 : Int))) none) ([enc told, t_14.1])).bind fun (seen_16 : List D) => (rng1 ((c : Int) + (seen_16.length : Int))).bind fun (y_25 : (List Int)) => (forK (fun (k_18 : Int) (t_17 : Sta) (nx_20 : Sta → R Bool) => ((if (decide ((k_18) < (c : Int))) then (M_law_odd (enc told) (t_17)) else ((idx (seen_16) ((k_18) - (c : Int))).bind fun a => R.ok (a, (t_17)))).cb fun (t_22 : (D × Sta)) => (((((J (t_22.1)).bind fun a => R.ok (eB a)).bind fun (y_23 : D) => ((A (t_22.1)).bind fun a => R.ok (eB a)).bind fun (y_24 : D) => (M_law_same 8 y_23 y_24)).bind fun c => R.ok (!c)).bind fun t => if t then R.ok (false) else nx_20 t_22.2))) (fun (t_19 : Sta) => K t_19 seen_16) y_25 t_14.2))))) fun b => b = true := by
  subst hm hU
  rw [R.bind_ok]
  refine hs_cb (hn s g) fun t ⟨a, g⟩ => ?_
  obtain ⟨q1, q2⟩ := hB.one ht.asked hp
  rw [q1, q2]
  exact tail_ok hc ht a hs hB g hK
/-- .. where nothing is refused -/
theorem part_ok' {β : Type} {enc : β → D} {m : R β} {t0 : β} {near : Sta → R (D × Sta)} {c : Nat} {seen : List D} {J A : D → R Bool} {P : D → Prop} {K : Sta → List D → R Bool} {s : Sta} (hm : m = .ok t0) (hc : c ≤ 1000) (ht : Told (enc t0))
    (hn : ∀ s, Good s → Hs (near s) fun t => Asked 8 t.1 ∧ Good t.2) (hs : Seen seen) (hB : Both J A P) (hp : P (enc t0)) (g : Good s) (hK : ∀ s xs, Good s → Seen xs → Hs (K s xs) fun b => b = true) :
    Hs (m.bind fun (told : β) => (near s).cb fun (t_14 : (D × Sta)) => ((((A (enc told)).bind fun c => R.ok (!c)).bind fun c => if c then R.ok true else ((J (enc told)).bind fun (y_15 : Bool) => R.ok (!decide (y_15 = (true))))).bind fun t => if t then R.ok (false) else 
      ((catR (cut (seen) (some (-(3 : Int))) none) ([enc told, t_14.1])).bind fun (seen_16 : List D) => (rng1 ((c : Int) + (seen_16.length : Int))).bind fun (y_25 : (List Int)) => (forK (fun (k_18 : Int) (t_17 : Sta) (nx_20 : Sta → R Bool) => ((if (decide ((k_18) < (c : Int))) then (M_law_odd (enc told) (t_17)) else ((idx (seen_16) ((k_18) - (c : Int))).bind fun a => R.ok (a, (t_17)))).cb fun (t_22 : (D × Sta)) => (((((J (t_22.1)).bind fun a => R.ok (eB a)).bind fun (y_23 : D) => ((A (t_22.1)).bind fun a => R.ok (eB a)).bind fun (y_24 : D) => (M_law_same 8 y_23 y_24)).bind fun c => R.ok (!c)).bind fun t => if t then R.ok (false) else nx_20 t_22.2))) (fun (t_19 : Sta) => K t_19 seen_16) y_25 t_14.2)))) fun b => b = true := by
  subst hm
  rw [R.bind_ok]
  refine hs_cb (hn s g) fun t ⟨a, g⟩ => ?_
  obtain ⟨q1, q2⟩ := hB.one ht.asked hp
  rw [q1, q2]
  exact tail_ok hc ht a hs hB g hK
/-- one, two .. things that are refused -/
theorem un1 {a : R Bool} (h : a = .ok true) : (a.bind fun c => R.ok (!c)) = .ok false := by rw [h]; rfl
theorem un2 {a : R Bool} {b : R Bool} (h : a = .ok true) (k : b = .ok false) : ((a.bind fun c => R.ok (!c)).bind fun c => if c then R.ok true else b) = .ok false := by rw [h, k]; rfl
end Cw
namespace Cw
open PySem PySem.Spec PyProof.Rows L2
variable {α β γ S : Type}
/-! ## draws -/
theorem next_ok' {limit : Int} {s : Sta} {n : Nat} (e : limit = n) (h0 : 0 < n) (h1 : n < 2 ^ 60) (hs : Good s) : Hs (M_law_next limit s) fun t => (0 ≤ t.1 ∧ t.1 < n) ∧ Good t.2 := by
  subst e
  exact next_ok (by omega) (by omega) hs
theorem ixN_nat {n k : Nat} (h : k < n) : ixN n (k : Int) = some k := by
  unfold ixN
  rw [if_pos (by omega), if_pos (by omega), Int.toNat_natCast]
theorem erase_perm' : ∀ (xs : List α) (k : Nat) (h : k < xs.length), (xs[k] :: xs.eraseIdx k).Perm xs
  | [], k, h => absurd h (by simp)
  | x :: xs, 0, h => .refl _
  | x :: xs, k + 1, h => by
    have ih := erase_perm' xs k (by simpa using h)
    simp only [List.getElem_cons_succ, List.eraseIdx_cons_succ]
    exact (List.Perm.swap x _ _).trans (ih.cons x)
theorem hs_popR {xs : List α} {i : Int} (h0 : 0 ≤ i) (h1 : i < xs.length) (hl : xs.length ≤ 2 ^ 30) : Hs (popR xs i) fun u => (u.1 :: u.2).Perm xs ∧ u.2.length + 1 = xs.length := by
  obtain ⟨k, rfl⟩ : ∃ k : Nat, i = k := ⟨i.toNat, by omega⟩
  have hk : k < xs.length := by omega
  have e : ixN xs.length (k : Int) = some k := ixN_nat hk
  have e2 : xs[k]? = some xs[k] := List.getElem?_eq_getElem hk
  unfold popR
  rw [if_pos (by omega), e]
  dsimp only
  rw [e2]
  refine ⟨?_, by simp [List.length_eraseIdx, hk]; omega⟩
  exact erase_perm' xs k hk
theorem mix_go : ∀ (ks : List Int) (left : List Int) (s : Sta), ks.length ≤ left.length → left.length ≤ 2 ^ 30 → Good s →
    Hs (R.mapMS (fun (k_4 : Int) (s_5 : ((List Int) × Sta)) => (((M_law_next ((s_5.1).length : Int) s_5.2).bind fun t => R.ok (t.1, (s_5.1, t.2))).bind fun (t : Int × ((List Int) × Sta)) => (popR t.2.1 t.1).bind fun u => R.ok (u.1, (u.2, t.2.2)))) ks (left, s)) fun t => (t.1 ++ t.2.1).Perm left ∧ t.1.length = ks.length ∧ Good t.2.2
  | [], left, s, _, _, g => ⟨.refl _, rfl, g⟩
  | k :: ks, left, s, h, hl, g => by
    simp only [List.length_cons] at h
    refine hs_bind (P := fun (t : Int × (List Int × Sta)) => (t.1 :: t.2.1).Perm left ∧ t.2.1.length + 1 = left.length ∧ Good t.2.2) ?_ fun t ⟨p, e, g⟩ => ?_
    · refine hs_bind (P := fun (t : Int × (List Int × Sta)) => (0 ≤ t.1 ∧ t.1 < left.length) ∧ t.2.1 = left ∧ Good t.2.2) (hs_bind (next_ok (limit := (left.length : Int)) (by omega) (by omega) g) fun t ⟨a, g⟩ => ⟨a, rfl, g⟩) fun t ⟨⟨a, b⟩, e, g⟩ => ?_
      rw [e]
      exact hs_bind (hs_popR a b hl) fun u ⟨p, q⟩ => ⟨p, q, g⟩
    · refine hs_bind (mix_go ks t.2.1 t.2.2 (by omega) (by omega) g) fun u ⟨p2, e2, g2⟩ => ⟨?_, by simp [e2], g2⟩
      show (t.1 :: (u.1 ++ u.2.1)).Perm left
      exact (p2.cons t.1).trans p
theorem rng_len (n : Nat) : (rng 0 n).length = n := by rw [rng_length]; omega
theorem mixed_ok {row : List Int} {s : Sta} (hl : row.length ≤ 100000) (g : Good s) : Hs (M_law_mixed row s) fun t => t.1.Perm row ∧ Good t.2 := by
  unfold M_law_mixed
  rw [R.bind_ok]
  refine hs_cb (P := fun (t : List Int × (List Int × Sta)) => t.1.Perm row ∧ Good t.2.2) (hs_bind (P := fun (t : List Int × (List Int × Sta)) => t.1.Perm row ∧ Good t.2.2) ?_ fun t h => h) fun t h => h
  rw [rng1_is (by omega), R.bind_ok, R.bind_ok]
  refine hs_mono (mix_go (rng 0 row.length) row s (by rw [rng_len]; exact Nat.le_refl _) (by omega) g) fun t ⟨p, e, g⟩ => ⟨?_, g⟩
  rw [rng_len] at e
  have : t.2.1 = [] := by
    have := p.length_eq
    rw [List.length_append] at this
    exact List.length_eq_zero_iff.mp (by omega)
  rw [this, List.append_nil] at p
  exact p
theorem rng_nodup (a b : Int) : (rng a b).Nodup := by
  unfold rng
  refine List.pairwise_map.mpr (List.Pairwise.imp (fun {x y} h => ?_) List.nodup_range)
  omega
theorem cut_hi (xs : List α) {n : Nat} : cut xs none (some (n : Int)) = xs.take n := by
  unfold cut
  rw [HT.sIx_none, HT.sIx_nat, Nat.sub_zero, List.drop_zero]
  exact List.take_eq_take_min.symm
theorem cut_lo (xs : List α) {n : Nat} : cut xs (some (n : Int)) none = xs.drop n := by
  unfold cut
  rw [HT.sIx_none, HT.sIx_nat]
  by_cases h : n ≤ xs.length
  · rw [Nat.min_eq_left h]
    exact List.take_of_length_le (by rw [List.length_drop]; omega)
  · rw [Nat.min_eq_right (by omega), List.drop_of_length_le (Nat.le_refl _), List.drop_of_length_le (by omega), List.take_nil]
theorem cut_lh (xs : List α) {a b : Nat} (h : a ≤ b) : cut xs (some (a : Int)) (some (b : Int)) = (xs.drop a).take (b - a) := by
  unfold cut
  rw [HT.sIx_nat, HT.sIx_nat]
  by_cases h1 : a ≤ xs.length
  · rw [Nat.min_eq_left h1]
    by_cases h2 : b ≤ xs.length
    · rw [Nat.min_eq_left h2]
    · rw [Nat.min_eq_right (by omega), List.take_of_length_le (by rw [List.length_drop]; omega), List.take_of_length_le (by rw [List.length_drop]; omega)]
  · rw [Nat.min_eq_right (a := a) (b := xs.length) (by omega), List.drop_of_length_le (Nat.le_refl _), List.drop_of_length_le (by omega), List.take_nil, List.take_nil]
theorem cut_int {lo hi : Option Int} (xs : List α) : cut xs none none = xs := by
  unfold cut
  rw [HT.sIx_none, HT.sIx_none, List.drop_zero, Nat.sub_zero, List.take_length]
/-- drawn cards -/
structure Cards (low high most : Nat) (row : List Int) : Prop where
  nd : row.Nodup
  bd : ∀ c ∈ row, 0 ≤ c ∧ c < most
  lo : low ≤ row.length
  hi : row.length ≤ high
theorem cards_ok {low high most : Nat} {s : Sta} (h1 : low ≤ high) (h2 : high ≤ most) (h3 : most ≤ 100000) (g : Good s) : Hs (M_law_cards (low : Int) (high : Int) (most : Int) s) fun t => Cards low high most t.1 ∧ Good t.2 := by
  unfold M_law_cards
  refine hs_cb (P := fun (t : List Int × Sta) => Cards low high most t.1 ∧ Good t.2) ?_ fun t h => h
  refine hs_bind (P := fun (t : List Int × Sta) => t.1.Perm (rng 0 most) ∧ Good t.2) ?_ fun t ⟨p, g⟩ => ?_
  · rw [rng1_is (by omega), R.bind_ok]
    exact mixed_ok (by rw [rng_len]; exact h3) g
  · refine hs_bind (P := fun (t : Int × Sta) => (∃ n : Nat, t.1 = n ∧ low ≤ n ∧ n ≤ high) ∧ Good t.2) ?_ fun u ⟨⟨n, e, a, b⟩, g⟩ => ?_
    · refine hs_bind (next_ok' (n := high - low + 1) (by omega) (by omega) (by omega) g) fun u ⟨⟨a, b⟩, g⟩ => ⟨⟨low + u.1.toNat, ?_, by omega, by omega⟩, g⟩
      show (low : Int) + u.1 = _
      omega
    · refine ⟨?_, g⟩
      show Cards low high most (cut t.1 none (some u.1))
      rw [e, cut_hi]
      have hl : t.1.length = most := by rw [p.length_eq, rng_len]
      refine ⟨(List.take_sublist _ _).nodup (p.nodup_iff.mpr (rng_nodup _ _)), fun c hc => ?_, by rw [List.length_take]; omega, by rw [List.length_take]; omega⟩
      exact mem_rng.mp (p.mem_iff.mp (List.mem_of_mem_take hc))
/-- drawn numbers -/
structure Nums (low high : Nat) (least most : Int) (row : List Int) : Prop where
  bd : ∀ c ∈ row, least ≤ c ∧ c ≤ most
  lo : low ≤ row.length
  hi : row.length ≤ high
theorem numbers_ok {low high : Nat} {least most : Int} {s : Sta} (h1 : low ≤ high) (h2 : least ≤ most) (h3 : high ≤ 100000) (h4 : most - least < 2 ^ 60) (g : Good s) : Hs (M_law_numbers (low : Int) (high : Int) least most s) fun t => Nums low high least most t.1 ∧ Good t.2 := by
  unfold M_law_numbers
  refine hs_cb (P := fun (t : List Int × Sta) => Nums low high least most t.1 ∧ Good t.2) (hs_bind (P := fun (t : List Int × Sta) => Nums low high least most t.1 ∧ Good t.2) ?_ fun t h => h) fun t h => h
  refine hs_bind (P := fun (t : List Int × Sta) => (low ≤ t.1.length ∧ t.1.length ≤ high) ∧ Good t.2) ?_ fun t ⟨⟨a, b⟩, g⟩ => ?_
  · refine hs_bind (P := fun (t : Int × Sta) => (∃ n : Nat, t.1 = n ∧ low ≤ n ∧ n ≤ high) ∧ Good t.2) ?_ fun u ⟨⟨n, e, a, b⟩, g⟩ => ?_
    · refine hs_bind (next_ok' (n := high - low + 1) (by omega) (by omega) (by omega) g) fun u ⟨⟨a, b⟩, g⟩ => ⟨⟨low + u.1.toNat, ?_, by omega, by omega⟩, g⟩
      show (low : Int) + u.1 = _
      omega
    · rw [e, rng1_is (by omega), R.bind_ok]
      exact ⟨by rw [rng_len]; exact ⟨a, b⟩, g⟩
  · refine hs_mono (hs_mapMS (I := Good) (Q := fun c : Int => least ≤ c ∧ c ≤ most) (fun k _ s g => ?_) g) fun t ⟨e, h, g⟩ => ⟨⟨h, by omega, by omega⟩, g⟩
    refine hs_bind (next_ok (limit := most - least + 1) (by omega) (by omega) g) fun u ⟨⟨a, b⟩, g⟩ => ⟨?_, g⟩
    show least ≤ least + u.1 ∧ least + u.1 ≤ most
    omega
/-! ## cards that fit -/
theorem foldl_dd_len : ∀ (ns acc : List Int), (ns.foldl step_dedup acc).length ≤ acc.length + ns.length
  | [], acc => by simp
  | n :: ns, acc => by
    rw [List.foldl_cons]
    refine Nat.le_trans (foldl_dd_len ns _) ?_
    unfold step_dedup
    split
    · simp only [List.length_cons]; omega
    · simp only [List.length_append, List.length_cons, List.length_nil]; omega
theorem foldl_dd_all : ∀ (ns acc : List Int), (ns.foldl step_dedup acc).length = acc.length + ns.length → (∀ n ∈ ns, n ∉ acc) ∧ ns.Nodup
  | [], acc, _ => ⟨fun n h => (nomatch h), .nil⟩
  | n :: ns, acc, h => by
    rw [List.foldl_cons] at h
    have le := foldl_dd_len ns (step_dedup acc n)
    simp only [List.length_cons] at h
    by_cases c : acc.any (· == n) = true
    · have e : step_dedup acc n = acc := by unfold step_dedup; rw [if_pos c]
      rw [e] at h le
      omega
    · have e : step_dedup acc n = acc ++ [n] := by unfold step_dedup; rw [if_neg c]
      rw [e] at h
      obtain ⟨h1, h2⟩ := foldl_dd_all ns _ (by rw [h]; simp only [List.length_append, List.length_cons, List.length_nil]; omega)
      refine ⟨fun m hm => ?_, List.nodup_cons.mpr ⟨fun z => h1 n z (by simp), h2⟩⟩
      rcases List.mem_cons.mp hm with rfl | hm
      · exact fun z => c (List.any_eq_true.mpr ⟨m, z, by simp⟩)
      · exact fun z => h1 m hm (List.mem_append_left _ z)
theorem ddup_le (ns : List Int) : (ddup ns).length ≤ ns.length := by
  have := foldl_dd_len ns []
  simpa [ddup] using this
theorem ddup_lt {ns : List Int} : (ddup ns).length < ns.length ↔ ¬ ns.Nodup := by
  constructor
  · intro h n
    have := same_len (ddup_nd ns) n fun x => mem_ddup
    omega
  · intro h
    refine Nat.lt_of_le_of_ne (ddup_le ns) fun e => h (foldl_dd_all ns [] (by simpa [ddup] using e)).2
theorem lenSet_ok {ns : List Int} (h : ns.length ≤ 4000) : lenSet ns = .ok ((ddup ns).length : Int) := by
  unfold lenSet
  rw [if_pos h]
/-- what check_cards wants -/
def fitC (row : List Int) (low high : Int) : Bool := row.all (fun c => decide (0 ≤ c) && decide (c < 52)) && decide row.Nodup && (decide (low ≤ row.length) && decide ((row.length : Int) ≤ high))
theorem mem_not {p : α → Bool} {xs : List α} : decide (true ∈ xs.map fun x => !p x) = !xs.all p := by
  rw [Bool.eq_iff_iff]
  simp [List.mem_map]
theorem mem_true {p : α → Bool} {xs : List α} : decide (true ∈ xs.map p) = xs.any p := by
  rw [Bool.eq_iff_iff]
  simp [List.mem_map, List.any_eq_true]
theorem mem_false {p : α → Bool} {xs : List α} : decide (false ∈ xs.map p) = !xs.all p := by
  rw [Bool.eq_iff_iff]
  simp [List.mem_map]
theorem check_ok {row : List Int} {low high : Int} (h : row.length ≤ 4000) : M_check_cards row low high = if fitC row low high then .ok () else .exc .unfit := by
  unfold M_check_cards fitC
  rw [mem_not, lenSet_ok h, R.bind_ok]
  have e : decide (((ddup row).length : Int) < (row.length : Int)) = !decide row.Nodup := by
    rw [Bool.eq_iff_iff]
    have := @ddup_lt row
    simp only [decide_eq_true_eq, Bool.not_eq_true', decide_eq_false_iff_not, ← this]
    omega
  rw [e]
  cases row.all (fun c => decide (0 ≤ c) && decide (c < 52)) <;> cases decide row.Nodup <;> cases (decide (low ≤ (row.length : Int)) && decide ((row.length : Int) ≤ high)) <;> rfl
/-! ## what is near -/
/-- a row with one number one more or less, or one left out -/
def NearRow (xs ys : List Int) : Prop := (ys.length ≤ xs.length ∧ xs.length ≤ ys.length + 1) ∧ ∀ y ∈ ys, ∃ x ∈ xs, x - 1 ≤ y ∧ y ≤ x + 1
theorem neigh_step {s : Sta} (hs : Good s) : Hs ((M_law_next (2 : Int) s).bind fun (t_5 : Int × Sta) => (idx ([(1 : Int), (-(1 : Int))]) t_5.1).bind fun c => R.ok (c, t_5.2)) fun t => (t.1 = 1 ∨ t.1 = -1) ∧ Good t.2 :=
  hs_bind (next_ok (by decide) (by decide) hs) fun t ⟨⟨a, b⟩, g⟩ => hs_bind (hs_idx a b) fun c hc => ⟨by simpa using hc.1, g⟩
theorem neigh_int' {f : Nat} {i : Int} {s : Sta} (hs : Good s) : Hs (M_law_neighbour (f + 1) (.int i) s) fun t => (∃ j, t.1 = .int j ∧ i - 1 ≤ j ∧ j ≤ i + 1) ∧ Good t.2 := by
  show Hs (M_law_neighbour_step (M_law_neighbour f) (.int i) s) _
  unfold M_law_neighbour_step
  refine hs_cb (neigh_step hs) fun t ⟨h, g⟩ => ?_
  refine hs_no Bool.false_ne_true (hs_yes rfl ?_)
  refine ⟨⟨i + t.1, rfl, ?_⟩, g⟩
  rcases h with h | h <;> omega
end Cw
namespace Cw
open PySem PySem.Spec PyProof.Rows L2
variable {α β γ S : Type}
/-! ## what may raise, but comes to something -/
def Nb (m : R α) (P : α → Prop) : Prop := match m with
  | .ok a => P a
  | .exc _ => True
  | .bad => False
theorem nb_ok {a : α} {P : α → Prop} (h : P a) : Nb (R.ok a) P := h
theorem nb_exc {x : Ex} {P : α → Prop} : Nb (R.exc x : R α) P := trivial
theorem nb_bind {m : R α} {f : α → R β} {P : α → Prop} {Q : β → Prop} (h : Nb m P) (k : ∀ a, P a → Nb (f a) Q) : Nb (m.bind f) Q := by
  cases m with
  | ok a => exact k a h
  | exc x => trivial
  | bad => exact h.elim
theorem nb_hs {m : R α} {P : α → Prop} (h : Hs m P) : Nb m P := by
  cases m with
  | ok a => exact h
  | exc x => trivial
  | bad => exact h.elim
theorem nb_mono {m : R α} {P Q : α → Prop} (h : Nb m P) (k : ∀ a, P a → Q a) : Nb m Q := by
  cases m with
  | ok a => exact k a h
  | exc x => trivial
  | bad => exact h.elim
theorem nb_ite {c : Prop} [Decidable c] {m n : R α} {P : α → Prop} (h1 : c → Nb m P) (h2 : ¬ c → Nb n P) : Nb (if c then m else n) P := by
  split
  · exact h1 ‹_›
  · exact h2 ‹_›
theorem nb_forR {g : α → S → R S} {I : S → Prop} : ∀ {xs : List α} {s : S}, (∀ x ∈ xs, ∀ s, I s → Nb (g x s) I) → I s → Nb (forR g xs s) I
  | [], s, _, hs => hs
  | x :: xs, s, h, hs => nb_bind (h x List.mem_cons_self s hs) fun t i => nb_forR (fun z hz => h z (List.mem_cons_of_mem _ hz)) i
theorem nb_forK {f : α → S → (S → R β) → R β} {K : S → R β} {I : S → Prop} {Q : β → Prop} : ∀ {xs : List α} {s : S}, (∀ x ∈ xs, ∀ s nx, I s → (∀ t, I t → Nb (nx t) Q) → Nb (f x s nx) Q) → (∀ t, I t → Nb (K t) Q) → I s → Nb (forK f K xs s) Q
  | [], s, _, k, hs => k s hs
  | x :: xs, s, h, k, hs => h x List.mem_cons_self s _ hs fun t i => nb_forK (fun z hz => h z (List.mem_cons_of_mem _ hz)) k i
/-! ## near things -/
/-- what a neighbour reads as -/
def Ngb (f : Nat) (e : α → D) (P : α → Prop) (r : α → α → Prop) : Prop := ∀ a s, P a → Good s → Hs (M_law_neighbour f (e a) s) fun t => (∃ b, t.1 = e b ∧ r a b) ∧ Good t.2
def NearI (i j : Int) : Prop := i - 1 ≤ j ∧ j ≤ i + 1
theorem ngb_I {f : Nat} {P : Int → Prop} : Ngb (f + 1) eI P NearI := fun i s _ hs => hs_mono (neigh_int' hs) fun t ⟨⟨j, e, h⟩, g⟩ => ⟨⟨j, e, h⟩, g⟩
def NearT (r : α → α → Prop) (as bs : List α) : Prop := (as = [] ∧ bs = []) ∨ (∃ k, k < as.length ∧ bs = as.eraseIdx k) ∨ ∃ k a b, as[k]? = some a ∧ r a b ∧ bs = as.set k b
theorem cut_map' (f : α → β) (xs : List α) (lo hi : Option Int) : cut (xs.map f) lo hi = (cut xs lo hi).map f := cut_map f xs lo hi
theorem erase_cat (xs : List α) (k : Nat) : xs.take k ++ xs.drop (k + 1) = xs.eraseIdx k := (List.eraseIdx_eq_take_drop_succ xs k).symm
theorem set_cat : ∀ (xs : List α) (k : Nat) (x : α), k < xs.length → xs.take k ++ [x] ++ xs.drop (k + 1) = xs.set k x
  | [], k, x, h => absurd h (by simp)
  | y :: ys, 0, x, h => by simp
  | y :: ys, k + 1, x, h => by
    have ih := set_cat ys k x (by simpa using h)
    simpa using ih
theorem ngb_T {f : Nat} {e : α → D} {P : α → Prop} {r : α → α → Prop} (h : Ngb f e P r) (hs : ∀ a, isA .str (e a) = false) (hd : ∀ a, P a → Ad 30 (e a)) : Ngb (f + 1) (eT e) (fun as => as.length ≤ 2 ^ 20 ∧ ∀ a ∈ as, P a) (NearT r) := by
  intro as s ⟨hl, hp⟩ g
  show Hs (M_law_neighbour_step (M_law_neighbour f) (.tuple (as.map e)) s) _
  unfold M_law_neighbour_step
  refine hs_cb (neigh_step g) fun t ⟨_, g⟩ => ?_
  refine hs_no Bool.false_ne_true (hs_no Bool.false_ne_true ?_)
  have ad : Ad 31 (.tuple (as.map e)) := ad_tuple fun x hx => by
    obtain ⟨a, ha, rfl⟩ := List.mem_map.mp hx
    exact hd a (hp a ha)
  rw [eT_id, eq_ok ad (ad_tuple (n := 0) (fun x hx => by cases hx)), R.bind_ok]
  refine hs_ite (fun c => ?_) fun c => ?_
  · have : as.map e = [] := eqvT_nil c
    have : as = [] := by simpa using this
    subst this
    exact ⟨⟨[], rfl, .inl ⟨rfl, rfl⟩⟩, g⟩
  · have ne : 0 < as.length := by
      rcases Nat.eq_zero_or_pos as.length with z | z
      · exfalso
        have : as = [] := List.length_eq_zero_iff.mp z
        subst this
        exact c (by simp [PyData.eqv, PyData.eqvAll])
      · exact z
    have nl : (as.map e).length = as.length := List.length_map ..
    refine hs_bind (P := fun b => b = false) (hs_bind (hs_idxT (by decide) (by omega)) fun d ⟨hd2, _⟩ => ?_) fun b hb => ?_
    · obtain ⟨a, _, rfl⟩ := List.mem_map.mp hd2
      exact hs a
    · rw [hb]
      refine hs_no Bool.false_ne_true ?_
      refine hs_cb (P := fun (t : Int × Sta) => (0 ≤ t.1 ∧ t.1 < as.length) ∧ Good t.2) (hs_bind (P := fun n : Int => n = as.length) (by show ((as.map e).length : Int) = _; rw [nl]) fun n hn => by rw [hn]; exact next_ok' (n := as.length) rfl ne (by omega) g) fun t ⟨⟨a0, a1⟩, g⟩ => ?_
      obtain ⟨k, ek⟩ : ∃ k : Nat, t.1 = k := ⟨t.1.toNat, by omega⟩
      rw [ek]
      have hk : k < as.length := by omega
      have e1 : ((k : Int) + 1) = ((k + 1 : Nat) : Int) := by omega
      rw [e1]
      refine hs_cbIf (P := fun u => Good u.2) ?_ (fun s g => ?_) fun s g => ?_
      · refine hs_bind (P := fun (u : Bool × Sta) => Good u.2) (hs_bind (next_ok (by decide) (by decide) g) fun u ⟨_, g⟩ => g) fun u g => hs_ite (fun _ => ?_) fun _ => g
        exact g
      · refine hs_bind (P := fun d => d = eT e (as.eraseIdx k)) ?_ fun d hd => ⟨⟨_, hd, .inr (.inl ⟨k, hk, rfl⟩)⟩, g⟩
        show Hs (((catR (cut (as.map e) none (some (k : Int))) (cut (as.map e) (some ((k + 1 : Nat) : Int)) none)).map PyData.tuple)) _
        rw [cut_hi, cut_lo]
        unfold catR
        rw [if_pos (by rw [line, List.length_take, List.length_drop]; omega), erase_cat]
        show PyData.tuple _ = _
        show PyData.tuple ((as.map e).eraseIdx k) = PyData.tuple ((as.eraseIdx k).map e)
        rw [map_erase]
      · refine hs_cb (P := fun (u : D × Sta) => (∃ b, u.1 = eT e b ∧ NearT r as b) ∧ Good u.2) ?_ fun t h => h
        refine hs_bind (P := fun (u : D × Sta) => (∃ b, u.1 = .tuple (((as.map e).take k) ++ [e b]) ∧ r as[k] b) ∧ Good u.2) ?_ fun u ⟨⟨b, hb, hr⟩, g⟩ => ?_
        · refine hs_bind (P := fun (u : D × Sta) => u.1 = .tuple ((as.map e).take k) ∧ Good u.2) (hs_bind (P := fun d => d = .tuple ((as.map e).take k)) (by show PyData.tuple (cut _ _ _) = _; rw [cut_hi]) fun d hd => ⟨hd, g⟩) fun u ⟨hu, g⟩ => ?_
          refine hs_bind (P := fun (w : D × Sta) => (∃ b, w.1 = .tuple [e b] ∧ r as[k] b) ∧ Good w.2) ?_ fun w ⟨⟨b, hw, hr⟩, g⟩ => ?_
          · refine hs_bind (P := fun (w : List D × Sta) => (∃ b, w.1 = [e b] ∧ r as[k] b) ∧ Good w.2) ?_ fun w ⟨⟨b, hw, hr⟩, g⟩ => ⟨⟨b, by rw [eT_id]; exact congrArg PyData.tuple hw, hr⟩, g⟩
            refine hs_bind (P := fun (w : (D × Unit) × Sta) => (∃ b, w.1.1 = e b ∧ r as[k] b) ∧ Good w.2) ?_ fun w ⟨⟨b, hw, hr⟩, g⟩ => ⟨⟨b, by rw [← hw], hr⟩, g⟩
            refine hs_bind (P := fun (w : D × Sta) => (∃ b, w.1 = e b ∧ r as[k] b) ∧ Good w.2) ?_ fun w h => h
            refine hs_bind (P := fun d => d = e as[k]) ?_ fun d hd => by rw [hd]; exact h _ _ (hp _ (List.getElem_mem hk)) g
            refine hs_mono (hs_idxT (by omega) (by omega)) fun d ⟨_, q⟩ => ?_
            rw [Int.toNat_natCast, List.getElem?_map, List.getElem?_eq_getElem hk] at q
            cases q
            rfl
          · refine hs_bind (P := fun d => d = .tuple ((as.map e).take k ++ [e b])) ?_ fun d hd => ⟨⟨b, hd, hr⟩, g⟩
            rw [hu, hw]
            show Hs ((catR _ _).map PyData.tuple) _
            unfold catR
            rw [if_pos (by rw [line, List.length_take]; simp only [List.length_cons, List.length_nil]; omega)]
            rfl
        · refine hs_bind (P := fun (w : D × Sta) => w.1 = .tuple ((as.map e).drop (k + 1)) ∧ Good w.2) (hs_bind (P := fun d => d = .tuple ((as.map e).drop (k + 1))) (by show PyData.tuple (cut _ _ _) = _; rw [cut_lo]) fun d hd => ⟨hd, g⟩) fun w ⟨hw, g⟩ => ?_
          refine hs_bind (P := fun d => d = eT e (as.set k b)) ?_ fun d hd => ⟨⟨_, hd, .inr (.inr ⟨k, as[k], b, List.getElem?_eq_getElem hk, hr, rfl⟩)⟩, g⟩
          rw [hb, hw]
          show Hs ((catR _ _).map PyData.tuple) _
          unfold catR
          rw [if_pos (by rw [line]; simp only [List.length_append, List.length_take, List.length_drop, List.length_cons, List.length_nil]; omega)]
          show PyData.tuple _ = PyData.tuple _
          rw [set_cat _ _ _ (by omega), List.map_set]
/-- a row with one number turned -/
theorem near_len {r : α → α → Prop} {as bs : List α} (h : NearT r as bs) : bs.length ≤ as.length := by
  rcases h with ⟨rfl, rfl⟩ | ⟨k, hk, rfl⟩ | ⟨k, a, b, _, _, rfl⟩
  · exact Nat.le_refl _
  · rw [List.length_eraseIdx, if_pos hk]; omega
  · rw [List.length_set]; omega
theorem near_all {r : α → α → Prop} {as bs : List α} {Q : α → Prop} (h : NearT r as bs) (h1 : ∀ a ∈ as, Q a) (h2 : ∀ a ∈ as, ∀ b, r a b → Q b) : ∀ b ∈ bs, Q b := by
  rcases h with ⟨rfl, rfl⟩ | ⟨k, hk, rfl⟩ | ⟨k, a, b, e, hr, rfl⟩
  · exact h1
  · exact fun b hb => h1 b (List.mem_of_mem_eraseIdx hb)
  · intro x hx
    rcases List.mem_or_eq_of_mem_set hx with hx | rfl
    · exact h1 x hx
    · exact h2 a (List.mem_of_getElem? e) x hr
/-! ### one thing of a list is turned -/
theorem near_at {things : List D} {s : Sta} {n : Nat} {Rl : Nat → D → D → Prop} (e : things.length = n) (h0 : 0 < n) (h1 : n ≤ 1000) (g : Good s) (h : ∀ k d s, things[k]? = some d → Good s → Hs (M_law_neighbour 8 d s) fun t => Rl k d t.1 ∧ Good t.2)
    {K : List D × Sta → R β} {Q : β → Prop} (hK : ∀ k d d' s, things[k]? = some d → Rl k d d' → Good s → Hs (K (things.set k d', s)) Q) :
    Hs ((M_law_next (n : Int) s).cb fun (t_5 : (Int × Sta)) => ((((idx things (t_5.1)).bind fun (y_8 : D) => (M_law_neighbour 8 y_8 (t_5.2))).bind fun (u_7 : D × Sta) => (setR things (t_5.1) u_7.1).bind fun ys => R.ok (ys, u_7.2)).cb K)) Q := by
  refine hs_cb (next_ok' (n := n) rfl h0 (by omega) g) fun t ⟨⟨a, b⟩, g⟩ => ?_
  obtain ⟨k, ek⟩ : ∃ k : Nat, t.1 = k := ⟨t.1.toNat, by omega⟩
  have hk : k < things.length := by omega
  rw [ek]
  refine hs_cb (P := fun (u : List D × Sta) => (∃ d', u.1 = things.set k d' ∧ Rl k things[k] d') ∧ Good u.2) ?_ fun u ⟨⟨d', e1, e2⟩, g⟩ => by
    obtain ⟨x, y⟩ := u
    dsimp only at e1
    subst e1
    exact hK k _ d' y (List.getElem?_eq_getElem hk) e2 g
  refine hs_bind (P := fun (u : D × Sta) => Rl k things[k] u.1 ∧ Good u.2) ?_ fun u ⟨hr, g⟩ => ?_
  · refine hs_bind (P := fun d => d = things[k]) (hs_mono (hs_idx (by omega) (by omega)) fun d ⟨_, q⟩ => ?_) fun d hd => by rw [hd]; exact h k _ _ (List.getElem?_eq_getElem hk) g
    rw [Int.toNat_natCast, List.getElem?_eq_getElem hk] at q
    cases q
    rfl
  · unfold setR
    rw [ixN_nat hk]
    exact ⟨⟨u.1, rfl, hr⟩, g⟩
theorem near_end {m : R D} {s : Sta} (h : Nb m (Asked 8)) (g : Good s) : Hs (R.caught (m.bind fun a => R.ok (a, s)) (R.ok (PyData.tuple [], s))) fun t => Asked 8 t.1 ∧ Good t.2 := by
  cases m with
  | ok d => exact ⟨h, g⟩
  | exc x => exact ⟨.inr (ad_tuple (n := 7) fun x hx => (nomatch hx)), g⟩
  | bad => exact h.elim
/-! ## == of what is due -/
mutual
/-- no truth value where a number stands -/
def nobl : D → Bool
  | .bool _ => false
  | .tuple xs => noblAll xs
  | _ => true
def noblAll : List D → Bool
  | [] => true
  | x :: xs => nobl x && noblAll xs
end
mutual
/-- numbers, texts, None and tuples of them -/
def dueD : D → Bool
  | .none => true
  | .int _ => true
  | .str _ => true
  | .tuple xs => dueAll xs
  | _ => false
def dueAll : List D → Bool
  | [] => true
  | x :: xs => dueD x && dueAll xs
end
mutual
theorem eqv_due : ∀ {d e : D}, dueD e = true → nobl d = true → PyData.eqv d e = true → d = e
  | d, .none, _, _, h => by cases d <;> simp_all [PyData.eqv]
  | d, .int i, _, n, h => by
    cases d with
    | int j => simp [PyData.eqv] at h; rw [h]
    | bool b => cases n
    | _ => simp [PyData.eqv] at h
  | d, .str i, _, n, h => by
    cases d with
    | str j => simp [PyData.eqv] at h; rw [h]
    | _ => simp [PyData.eqv] at h
  | d, .tuple es, k, n, h => by
    cases d with
    | tuple ds =>
      simp only [PyData.eqv] at h
      rw [eqv_dueAll (by simpa [dueD] using k) (by simpa [nobl] using n) h]
    | _ => simp [PyData.eqv] at h
  | _, .bool _, k, _, _ => by cases k
  | _, .list _, k, _, _ => by cases k
  | _, .dict _, k, _, _ => by cases k
theorem eqv_dueAll : ∀ {ds es : List D}, dueAll es = true → noblAll ds = true → PyData.eqvAll ds es = true → ds = es
  | [], [], _, _, _ => rfl
  | [], _ :: _, _, _, h => by simp [PyData.eqvAll] at h
  | _ :: _, [], _, _, h => by simp [PyData.eqvAll] at h
  | d :: ds, e :: es, k, n, h => by
    simp only [PyData.eqvAll, Bool.and_eq_true] at h
    simp only [dueAll, Bool.and_eq_true] at k
    simp only [noblAll, Bool.and_eq_true] at n
    rw [eqv_due k.1 n.1 h.1, eqv_dueAll k.2 n.2 h.2]
end
mutual
theorem eqv_rfl : ∀ {e : D}, dueD e = true → PyData.eqv e e = true
  | .none, _ => by simp [PyData.eqv]
  | .int i, _ => by simp [PyData.eqv]
  | .str i, _ => by simp [PyData.eqv]
  | .tuple es, k => by
    simp only [PyData.eqv]
    exact eqv_rflAll (by simpa [dueD] using k)
  | .bool _, k => by cases k
  | .list _, k => by cases k
  | .dict _, k => by cases k
theorem eqv_rflAll : ∀ {es : List D}, dueAll es = true → PyData.eqvAll es es = true
  | [], _ => by simp [PyData.eqvAll]
  | e :: es, k => by
    simp only [dueAll, Bool.and_eq_true] at k
    simp only [PyData.eqvAll, eqv_rfl k.1, eqv_rflAll k.2, Bool.and_true]
end
theorem due_ints : ∀ ns : List Int, dueAll (ns.map PyData.int) = true
  | [] => rfl
  | _ :: ns => by simp [dueAll, dueD, due_ints ns]
theorem nobl_ints : ∀ ns : List Int, noblAll (ns.map PyData.int) = true
  | [] => rfl
  | _ :: ns => by simp [noblAll, nobl, nobl_ints ns]
theorem eqR_due {d e : D} {n m : Nat} (ha : Ad n d) (hb : Ad m e) (hn : n ≤ 60) (hm : m ≤ 60) (k : dueD e = true) (nb : nobl d = true) : Hs (eqR d e) fun b => b = true ↔ d = e := by
  rw [eq_ok ha hb (by omega) (by omega)]
  exact ⟨fun h => eqv_due k nb h, fun h => by rw [h]; exact eqv_rfl k⟩
theorem wholesB_iff {d : D} {n : Int} : wholesB d n = true ↔ ∃ ns : List Int, d = .tuple (ns.map .int) ∧ (ns.length : Int) = n := by
  constructor
  · intro h
    cases d with
    | tuple xs =>
      simp only [wholesB, Bool.and_eq_true, decide_eq_true_eq] at h
      obtain ⟨ns, rfl⟩ := all_ints h.2
      exact ⟨ns, rfl, by simpa using h.1⟩
    | _ => cases h
  · rintro ⟨ns, rfl, h⟩
    simp [wholesB, h, isW, isA]
theorem toldB_iff {d : D} {w : Str} {n : Nat} : toldB d w n = true ↔ ∃ r, d = .tuple (.str w :: r) ∧ r.length + 1 = n := by
  constructor
  · intro h
    unfold toldB at h
    split at h
    · rename_i x r
      simp only [Bool.and_eq_true, decide_eq_true_eq] at h
      exact ⟨r, by rw [h.2], h.1⟩
    · cases h
  · rintro ⟨r, rfl, h⟩
    simp [toldB, h]
end Cw
namespace Cw
open PySem PySem.Spec PyProof.Rows L2
variable {α β γ S : Type}
/-! ## closed forms -/
theorem filtM_ok (c : α → Bool) (f : α → β) (xs : List α) : filtM (fun x => .ok (c x)) (fun x => .ok (f x)) xs = .ok ((xs.filter c).map f) := by
  unfold filtM
  rw [show (fun x => (R.ok (c x)).bind fun t => if t then (R.ok (f x)).bind fun y => R.ok (some y) else R.ok none) = (fun x => if c x then (R.ok (f x)).bind fun y => .ok (some y) else .ok none) from rfl, R.fmapM_filter, R.mapM_ok]
theorem idx_get {xs : List α} {k : Nat} (h : k < xs.length) : idx xs (k : Int) = .ok xs[k] := by
  obtain ⟨x, e, _, e2⟩ := atI_in (xs := xs) (i := (k : Int)) (by omega) (by omega)
  rw [Int.toNat_natCast, List.getElem?_eq_getElem h] at e2
  cases e2
  unfold idx
  rw [e]
  rfl
theorem idx_int {xs : List α} {i : Int} (h0 : 0 ≤ i) (h1 : i < xs.length) : idx xs i = .ok (xs[i.toNat]'(by omega)) := by
  obtain ⟨k, rfl⟩ : ∃ k : Nat, i = k := ⟨i.toNat, by omega⟩
  rw [idx_get (by omega)]
  simp
theorem appR_ok {xs : List α} {x : α} (h : xs.length < 16777216) : appR xs x = .ok (xs ++ [x]) := by
  unfold appR
  rw [if_pos h]
theorem catR_ok {xs ys : List α} (h : xs.length + ys.length ≤ 16777216) : catR xs ys = .ok (xs ++ ys) := by
  unfold catR
  rw [if_pos (by rw [line]; exact h)]
theorem forR_push {g : α → List β → R (List β)} {f : α → β} : ∀ {xs : List α} {acc : List β} (N : Nat), (∀ x ∈ xs, ∀ acc, acc.length < N → g x acc = .ok (acc ++ [f x])) → acc.length + xs.length ≤ N → forR g xs acc = .ok (acc ++ xs.map f)
  | [], acc, N, _, _ => by simp [forR]
  | x :: xs, acc, N, h, hl => by
    simp only [List.length_cons] at hl
    show (g x acc).bind _ = _
    rw [h x List.mem_cons_self acc (by omega), R.bind_ok, forR_push N (fun y hy => h y (List.mem_cons_of_mem _ hy)) (by simp; omega)]
    simp
theorem mapM_eq {f : α → R β} {g : α → β} : ∀ {xs : List α}, (∀ x ∈ xs, f x = .ok (g x)) → R.mapM f xs = .ok (xs.map g)
  | [], _ => rfl
  | x :: xs, h => by
    unfold R.mapM
    rw [h x List.mem_cons_self]
    dsimp only
    rw [mapM_eq fun y hy => h y (List.mem_cons_of_mem _ hy)]
    rfl
theorem rng_mem {a b k : Int} : k ∈ rng a b ↔ a ≤ k ∧ k < b := by
  unfold rng
  rw [List.mem_map]
  constructor
  · rintro ⟨i, hi, rfl⟩
    have := List.mem_range.mp hi
    omega
  · intro h
    exact ⟨(k - a).toNat, List.mem_range.mpr (by omega), by omega⟩
theorem rng2_is {a b : Int} (h1 : -(2 ^ 62) ≤ a) (h2 : a < 2 ^ 62) (h3 : -(2 ^ 62) ≤ b) (h4 : b < 2 ^ 62) (h5 : b - a ≤ 16777216) : rng2 a b = .ok (rng a b) := by
  unfold rng2
  rw [if_pos]
  simp only [small, Bool.and_eq_true, decide_eq_true_eq]
  omega
theorem rng1_ok' {b : Int} (h3 : -(2 ^ 62) ≤ b) (h5 : b ≤ 16777216) : rng1 b = .ok (rng 0 b) := by
  unfold rng1
  rw [if_pos]
  simp only [small, Bool.and_eq_true, decide_eq_true_eq]
  omega
/-! ## judges -/
theorem ad_at {n : Nat} {x : D} {xs : List D} (h : Ad (n + 1) (.tuple (x :: xs))) : Ad n x := ad_in h List.mem_cons_self
theorem hs_of {m : R α} {a : α} {P : α → Prop} (e : m = .ok a) (h : P a) : Hs m P := by rw [e]; exact h
theorem false_iff {P : Prop} (h : ¬ P) : (false = true ↔ P) := ⟨fun z => (nomatch z), fun z => absurd z h⟩
/-- what the law takes: just this -/
theorem same_due {d e : D} (ha : Asked 8 d) (ht : Td 6 e) (hw : Wt e) : Hs (M_law_same 8 d e) fun b => b = true ↔ d = e := same_ok 8 6 8 d e (by omega) (by omega) (by omega) ht hw ha
/-! ### small numbers -/
theorem weight_int' {i : Int} (h : i.natAbs < 2 ^ 200) : (PyData.int i).weight ≤ 200 := by
  simp only [PyData.weight]
  split
  · omega
  · rename_i z
    have z : i.natAbs ≠ 0 := by simpa using z
    have := (Nat.log2_lt (n := i.natAbs) (k := 200) z).mpr h
    omega
theorem weight_all {f : α → D} {B : Nat} : ∀ {xs : List α}, (∀ x ∈ xs, (f x).weight ≤ B) → PyData.weightAll (xs.map f) ≤ xs.length * (B + 1)
  | [], _ => by simp [PyData.weightAll]
  | x :: xs, h => by
    have ih := weight_all fun y hy => h y (List.mem_cons_of_mem _ hy)
    have h1 := h x List.mem_cons_self
    simp only [List.map_cons, PyData.weightAll, List.length_cons, Nat.add_mul]
    omega
/-- rows of small numbers -/
def Sm (i : Int) : Prop := i.natAbs < 2 ^ 200
theorem td_row {n : Nat} {ns : List Int} (h : ∀ i ∈ ns, Sm i) : Td (n + 1) (.tuple (ns.map PyData.int)) := fun x hx => by
  obtain ⟨i, hi, rfl⟩ := List.mem_map.mp hx
  have := h i hi
  unfold Sm at this
  simpa [Td] using this
theorem wt_row {ns : List Int} (h : ∀ i ∈ ns, Sm i) : (PyData.tuple (ns.map PyData.int)).weight ≤ ns.length * 201 := by
  rw [weight_tuple]
  exact weight_all (B := 200) fun i hi => weight_int' (h i hi)
theorem td_rows {n : Nat} {rs : List (List Int)} (h : ∀ r ∈ rs, ∀ i ∈ r, Sm i) : Td (n + 2) (.tuple (rs.map (eT eI))) := fun x hx => by
  obtain ⟨r, hr, rfl⟩ := List.mem_map.mp hx
  exact td_row (h r hr)
theorem wt_rows {rs : List (List Int)} {L : Nat} (h : ∀ r ∈ rs, ∀ i ∈ r, Sm i) (hl : ∀ r ∈ rs, r.length ≤ L) : (PyData.tuple (rs.map (eT eI))).weight ≤ rs.length * (L * 201 + 1) := by
  rw [weight_tuple]
  exact weight_all (B := L * 201) fun r hr => Nat.le_trans (wt_row (h r hr)) (Nat.mul_le_mul_right _ (hl r hr))
theorem strLen (s : Str) : (PyData.str s).weight = s.cps.size := by simp only [PyData.weight]
/-- refused, by both -/
theorem unfit_of {f : R α} {j : R Bool} (h1 : f = .exc .unfit) (h2 : j = .exc .unfit) : forK (fun (judged_4 : Bool) (t_3 : Unit) (nx_6 : Unit → R Bool) => (R.caughtU ((if judged_4 then (j.bind fun (u_8 : Bool) => R.ok ()) else (f.bind fun (u_9 : α) => R.ok ())).bind fun (t_10 : Unit) => R.ok (false)) (nx_6 ()))) (fun (t_5 : Unit) => R.ok (true)) ([(false), (true)]) () = .ok true := by
  rw [h1, h2]
  rfl
/-- a judge that looks for just one answer -/
theorem one_judge {J : R Bool} {d e : D} {sh : D → Bool} (hJ : J = if sh d then eqR d e else .ok false) (he : sh e = true) (hn : sh d = true → nobl d = true) (hd : dueD e = true) (ht : Td 6 e) (ha : Asked 8 d) (hx : sh d = true → d ≠ .dict [] := by intro h e; subst e; cases h) : Hs J fun b => b = true ↔ d = e := by
  rw [hJ]
  cases c : sh d with
  | false => exact false_iff fun z => by rw [z, he] at c; cases c
  | true =>
    rw [if_pos rfl]
    rcases ha with ha | ha
    · exact absurd ha (hx c)
    · exact eqR_due ha (td_ad ht) (by omega) (by omega) hd (hn c)
/-- .. and the law's look -/
theorem both_one {J A : D → R Bool} {e : D} {sh : D → Bool} (T : Told e) (hJ : ∀ d, Asked 8 d → J d = if sh d then eqR d e else .ok false) (hA : ∀ d, A d = M_law_same 8 d e) (he : sh e = true) (hn : ∀ d, sh d = true → nobl d = true) (hd : dueD e = true) (hx : ∀ d, sh d = true → d ≠ .dict [] := by intro d h e; subst e; cases h) : Both J A fun d => d = e :=
  ⟨fun d a => one_judge (hJ d a) he (hn d) hd T.td a (hx d), fun d a => by rw [hA]; exact same_due a T.td T.wt⟩
theorem told_at {d : D} {w : Str} {n : Nat} (h : toldB d w (n + 1) = true) : ∃ r, d = .tuple (.str w :: r) ∧ r.length = n := by
  obtain ⟨r, e, h⟩ := toldB_iff.mp h
  exact ⟨r, e, by omega⟩
theorem is_told_ok {d : D} {w : Str} {n : Nat} (ha : Asked 8 d) (hw : PyData.strOk w = true) (hn : 0 < n) {i : Int} (hi : i = n) : M_is_told d w i = .ok (toldB d w n) := by
  subst hi
  exact told_ok ha (by omega) hw hn
theorem at1 {x y : D} {r : List D} : idxD (.tuple (x :: y :: r)) 1 = .ok y := idx_is (xs := x :: y :: r) (i := 1) (by simp)
theorem at2 {x y z : D} {r : List D} : idxD (.tuple (x :: y :: z :: r)) 2 = .ok z := idx_is (xs := x :: y :: z :: r) (i := 2) (by simp)
theorem at3 {x y z w : D} {r : List D} : idxD (.tuple (x :: y :: z :: w :: r)) 3 = .ok w := idx_is (xs := x :: y :: z :: w :: r) (i := 3) (by simp)
theorem nobl_wholes {y : D} {n : Int} (h : wholesB y n = true) : nobl y = true := by
  obtain ⟨ns, rfl, _⟩ := wholesB_iff.mp h
  exact nobl_ints ns
theorem nobl_whole {y : D} (h : isW y = true) : nobl y = true := by
  obtain ⟨i, rfl⟩ := isW_iff.mp h
  rfl
theorem due_tup {xs : List D} (h : dueAll xs = true) : dueD (.tuple xs) = true := h
theorem idx_getD {xs : List Int} {i : Int} (h0 : 0 ≤ i) (h1 : i < xs.length) : idx xs i = .ok (xs.getD i.toNat 0) := by
  rw [idx_int h0 h1]
  congr 1
  exact List.getElem_eq_getD 0
theorem getD_mem {xs : List Int} {P : Int → Prop} {k : Nat} (h0 : P 0) (h : ∀ x ∈ xs, P x) : P (xs.getD k 0) := by
  rw [List.getD_eq_getElem?_getD]
  cases e : xs[k]? with
  | none => exact h0
  | some x => exact h x (List.mem_of_getElem? e)
/-! ## rows that are turned -/
def RelT (d d' : D) : Prop := ∃ ns ms, d = eT eI ns ∧ d' = eT eI ms ∧ NearT NearI ns ms
def RelI (d d' : D) : Prop := ∃ i j, d = eI i ∧ d' = eI j ∧ NearI i j
def RelTT (d d' : D) : Prop := ∃ ns ms, d = eT (eT eI) ns ∧ d' = eT (eT eI) ms ∧ NearT (NearT NearI) ns ms
theorem ngb_row {ns : List Int} {s : Sta} (hl : ns.length ≤ 2 ^ 20) (g : Good s) : Hs (M_law_neighbour 8 (eT eI ns) s) fun t => RelT (eT eI ns) t.1 ∧ Good t.2 :=
  hs_mono (ngb_T (f := 7) (e := eI) (P := fun _ => True) (r := NearI) (ngb_I (f := 6)) (fun _ => rfl) (fun _ _ => ad_int) ns s ⟨hl, fun _ _ => trivial⟩ g) fun t ⟨⟨b, e, h⟩, g⟩ => ⟨⟨ns, b, rfl, e, h⟩, g⟩
theorem ngb_num {i : Int} {s : Sta} (g : Good s) : Hs (M_law_neighbour 8 (eI i) s) fun t => RelI (eI i) t.1 ∧ Good t.2 :=
  hs_mono (neigh_int' (f := 7) g) fun t ⟨⟨b, e, h⟩, g⟩ => ⟨⟨i, b, rfl, e, h⟩, g⟩
theorem ngb_rows {ns : List (List Int)} {s : Sta} (hl : ns.length ≤ 2 ^ 20) (h : ∀ r ∈ ns, r.length ≤ 2 ^ 20) (g : Good s) : Hs (M_law_neighbour 8 (eT (eT eI) ns) s) fun t => RelTT (eT (eT eI) ns) t.1 ∧ Good t.2 :=
  hs_mono (ngb_T (f := 7) (e := eT eI) (P := fun r => r.length ≤ 2 ^ 20 ∧ ∀ i ∈ r, True) (r := NearT NearI) (ngb_T (f := 6) (e := eI) (P := fun _ => True) (r := NearI) (ngb_I (f := 5)) (fun _ => rfl) (fun _ _ => ad_int)) (fun _ => rfl) (fun r _ => ad_tuple (n := 29) fun x hx => by
    obtain ⟨i, _, rfl⟩ := List.mem_map.mp hx
    exact ad_int) ns s ⟨hl, fun r hr => ⟨h r hr, fun _ _ => trivial⟩⟩ g) fun t ⟨⟨b, e, h⟩, g⟩ => ⟨⟨ns, b, rfl, e, h⟩, g⟩
theorem eTI_inj {ns ms : List Int} (h : eT eI ns = eT eI ms) : ns = ms := by
  have := PyData.tuple.inj h
  exact (List.map_inj_right fun x y e => PyData.int.inj e).mp this
theorem eTTI_inj {ns ms : List (List Int)} (h : eT (eT eI) ns = eT (eT eI) ms) : ns = ms := by
  have := PyData.tuple.inj h
  exact (List.map_inj_right fun x y e => eTI_inj e).mp this
theorem relT {ns : List Int} {d : D} (h : RelT (eT eI ns) d) : ∃ ms, d = eT eI ms ∧ NearT NearI ns ms := by
  obtain ⟨a, b, e1, e2, h⟩ := h
  rw [eTI_inj e1]
  exact ⟨b, e2, h⟩
theorem relI {i : Int} {d : D} (h : RelI (eI i) d) : ∃ j, d = eI j ∧ NearI i j := by
  obtain ⟨a, b, e1, e2, h⟩ := h
  cases e1
  exact ⟨b, e2, h⟩
theorem relTT {ns : List (List Int)} {d : D} (h : RelTT (eT (eT eI) ns) d) : ∃ ms, d = eT (eT eI) ms ∧ NearT (NearT NearI) ns ms := by
  obtain ⟨a, b, e1, e2, h⟩ := h
  rw [eTTI_inj e1]
  exact ⟨b, e2, h⟩
theorem dec_TI (ns : List Int) : (dT dI).dec (eT eI ns) = some ns := (dT dI).full ns
theorem dec_TTI (ns : List (List Int)) : (dT (dT dI)).dec (eT (eT eI) ns) = some ns := (dT (dT dI)).full ns
theorem dec_I (i : Int) : dI.dec (eI i) = some i := dI.full i
theorem cards_fit {low high most : Nat} {row : List Int} (C : Cards low high most row) (hm : most ≤ 52) {a b : Int} (ha : a ≤ low) (hb : high ≤ b) : fitC row a b = true := by
  have := C.lo
  have := C.hi
  unfold fitC
  simp only [Bool.and_eq_true, decide_eq_true_eq, List.all_eq_true]
  refine ⟨⟨fun c hc => ?_, C.nd⟩, by omega, by omega⟩
  have := C.bd c hc
  omega
theorem told_mk {w : Str} {r : List D} (hw : PyData.strOk w = true) (hr : ∀ x ∈ r, Td 5 x) (hs : w.cps.size + PyData.weightAll r ≤ 2 ^ 20 - 1) : Told (.tuple (.str w :: r)) :=
  ⟨all_cons hw hr, by show (PyData.tuple _).weight ≤ _; rw [weight_tuple]; simp only [PyData.weightAll, strLen]; omega, _, _, rfl⟩
theorem td_int {n : Nat} {i : Int} (h : Sm i) : Td n (.int i) := by
  unfold Sm at h
  simpa [Td] using h
theorem sm_of {i : Int} {n : Nat} (h : i.natAbs ≤ n) (hn : n < 2 ^ 200) : Sm i := Nat.lt_of_le_of_lt h hn
theorem forR_acc2 {α β : Type} {g : α → List β × Int → R (List β × Int)} {f : α → β} {h : α → Int} : ∀ {xs : List α} {acc : List β} {r : Int} (N : Nat), (∀ x ∈ xs, ∀ acc r, acc.length < N → g x (acc, r) = .ok (acc ++ [f x], r + h x)) → acc.length + xs.length ≤ N → forR g xs (acc, r) = .ok (acc ++ xs.map f, r + (xs.map h).sum)
  | [], acc, r, N, _, _ => by simp [forR]
  | x :: xs, acc, r, N, h0, hl => by
    simp only [List.length_cons] at hl
    show (g x (acc, r)).bind _ = _
    rw [h0 x List.mem_cons_self acc r (by omega), R.bind_ok, forR_acc2 N (fun y hy => h0 y (List.mem_cons_of_mem _ hy)) (by simp; omega)]
    simp [Int.add_assoc]
theorem idx_last {xs : List Int} (h : xs ≠ []) : idx xs (-1) = .ok (xs.getLast h) := by
  obtain ⟨ys, y, rfl⟩ : ∃ ys y, xs = ys ++ [y] := ⟨xs.dropLast, xs.getLast h, (List.dropLast_concat_getLast h).symm⟩
  unfold idx
  rw [atI_last]
  simp
theorem idx_app {α : Type} {xs : List α} {x : α} : idx (xs ++ [x]) (-1) = .ok x := by
  unfold idx
  rw [atI_last]
  rfl
/-- the shape of what is told: a word, and so many parts for which f holds -/
def shp (w : Str) (n : Nat) (f : List D → Bool) (d : D) : Bool := match d with
  | .tuple (.str v :: r) => decide (v = w) && (decide (r.length + 1 = n) && f r)
  | _ => false
theorem shp_no {d : D} {w : Str} {n : Nat} {f : List D → Bool} (h : toldB d w n = false) : shp w n f d = false := by
  unfold shp
  split
  · rename_i v r
    simp only [toldB] at h
    cases e1 : decide (v = w) <;> cases e2 : decide (r.length + 1 = n) <;> simp_all
  · rfl
theorem shp_yes {w : Str} {n : Nat} {f : List D → Bool} {r : List D} (h : r.length + 1 = n) : shp w n f (.tuple (.str w :: r)) = f r := by
  show (decide (w = w) && (decide (r.length + 1 = n) && f r)) = f r
  simp [h]
theorem shp_nobl {d : D} {w : Str} {n : Nat} {f : List D → Bool} (hf : ∀ r, f r = true → noblAll r = true) (h : shp w n f d = true) : nobl d = true := by
  unfold shp at h
  split at h
  · simp only [Bool.and_eq_true] at h
    simp only [nobl, noblAll, Bool.true_and]
    exact hf _ h.2.2
  · cases h
theorem wholesT_nobl {r : List D} {n : Int} (h : wholesB (.tuple r) n = true) : noblAll r = true := by
  have := nobl_wholes h
  simpa [nobl] using this
/-- two parts, each of its kind -/
def both2p (p q : D → Bool) : List D → Bool
  | [y, z] => p y && q z
  | _ => false
theorem two_nobl {p q : D → Bool} (hp : ∀ y, p y = true → nobl y = true) (hq : ∀ y, q y = true → nobl y = true) {r : List D} (h : both2p p q r = true) : noblAll r = true := by
  unfold both2p at h
  split at h
  · simp only [Bool.and_eq_true] at h
    simp only [noblAll, hp _ h.1, hq _ h.2, Bool.and_true]
  · cases h
def three' (p q s : D → Bool) : List D → Bool
  | [y, z, w] => p y && (q z && s w)
  | _ => false
theorem three_nobl {p q s : D → Bool} (hp : ∀ y, p y = true → nobl y = true) (hq : ∀ y, q y = true → nobl y = true) (hs : ∀ y, s y = true → nobl y = true) {r : List D} (h : three' p q s r = true) : noblAll r = true := by
  unfold three' at h
  split at h
  · simp only [Bool.and_eq_true] at h
    simp only [noblAll, hp _ h.1, hq _ h.2.1, hs _ h.2.2, Bool.and_true]
  · cases h
theorem ite01 (b : Bool) : (if b then (1 : Int) else 0) = 0 ∨ (if b then (1 : Int) else 0) = 1 := by cases b <;> simp
end Cw
namespace Cw
open PySem PySem.Spec PyProof.Rows L2
variable {α β τ : Type}
/-! ## the law's own look at shapes; loops that end early -/
theorem law_is_ok {d : D} {w : Str} {n : Nat} {i : Int} (ha : Asked 8 d) (hw : PyData.strOk w = true) (hn : 0 < n) (hi : i = n) : M_law_is d w i = .ok (toldB d w n) := by
  subst hi
  unfold M_law_is
  cases d with
  | tuple xs =>
    rcases ha with ha | ha
    · cases ha
    show (if true = true then ((R.ok (decide ((xs.length : Int) = (n : Int)))).bind _) else _) = _
    rw [if_pos rfl, R.bind_ok]
    by_cases e : xs.length = n
    · rw [if_pos (by simp [e])]
      cases xs with
      | nil => simp at e; omega
      | cons x r =>
        have h0 : idxD (.tuple (x :: r)) 0 = .ok x := idx_is (xs := x :: r) (i := 0) (by simp)
        rw [h0, R.bind_ok, R.bind_ok, R.bind_ok]
        cases x with
        | str y =>
          show eqR (.str y) (.str w) = _
          rw [eq_ok (ad_at ha) (ad_str (n := 0) hw)]
          simp only [List.length_cons] at e
          have q : (y == w) = decide (y = w) := by rw [Bool.eq_iff_iff]; simp
          simp [toldB, e, PyData.eqv, q]
        | _ => rfl
    · rw [if_neg (by simp; omega)]
      cases xs with
      | nil => rfl
      | cons x r =>
        cases x with
        | str y =>
          have : ¬ (r.length + 1 = n) := by simpa using e
          simp [toldB, this]
        | _ => rfl
  | _ => rfl
theorem law_whole_ok (d : D) : M_law_is_whole d = .ok (isW d) := rfl
theorem filt_not {p : α → Bool} {xs : List α} : (xs.filter fun x => !p x) = [] ↔ xs.all p = true := by
  simp [List.filter_eq_nil_iff]
theorem law_wholes_ok {d : D} (n : Int) (ha : Asked 8 d) : M_law_are_wholes d n = .ok (wholesB d n) := by
  unfold M_law_are_wholes
  cases d with
  | tuple xs =>
    rcases ha with ha | ha
    · cases ha
    show (if true = true then ((R.ok (decide ((xs.length : Int) = n))).bind _) else _) = _
    rw [if_pos rfl, R.bind_ok]
    by_cases e : (xs.length : Int) = n
    · rw [if_pos (by simpa using e), dec_tuple]
      show (((filtM (fun x => .ok (!isW x)) (fun x => .ok x) xs).bind _).bind _) = _
      rw [filtM_ok, R.bind_ok, R.bind_ok]
      have hx : ∀ y ∈ (xs.filter fun x => !isW x).map (fun x => x), Ad 8 y := fun y hy => by
        obtain ⟨z, hz, rfl⟩ := List.mem_map.mp hy
        have := (List.mem_filter.mp hz).1
        exact ad_in (ad_mono ha (by omega) : Ad 9 _) this
      rw [show (eL eD ((xs.filter fun x => !isW x).map fun x => x)) = .list ((xs.filter fun x => !isW x).map fun x => x) from eL_id _, eL_id]
      rw [eq_ok (ad_list hx) (ad_list (n := 8) (xs := []) (fun _ h => nomatch h))]
      congr 1
      simp only [wholesB, e, decide_true, Bool.true_and]
      rw [Bool.eq_iff_iff, ← filt_not]
      cases (xs.filter fun x => !isW x) with
      | nil => simp [PyData.eqv, PyData.eqvAll]
      | cons a as => simp [PyData.eqv, PyData.eqvAll]
    · rw [if_neg (by simpa using e)]
      simp [wholesB, e]
  | _ => rfl
/-! ## five cards, so many different ones -/
def fitN (row : List Int) (n : Nat) : Bool := decide (row.length = n) && (decide row.Nodup && row.all fun c => decide (0 ≤ c) && decide (c < 52))
/-- a loop that ends at the first that fits -/
theorem forK_alt {P : β → Prop} {c : α → Prop} {f : α → Unit → (Unit → R β) → R β} : ∀ {xs : List α}, (∀ x ∈ xs, (∃ d, P d ∧ ∀ nx, f x () nx = .ok d) ∨ (¬ c x ∧ ∀ nx, f x () nx = nx ())) →
    (∃ d, P d ∧ ∀ K, forK f K xs () = .ok d) ∨ ((∀ x ∈ xs, ¬ c x) ∧ ∀ K, forK f K xs () = K ())
  | [], _ => .inr ⟨fun _ h => (nomatch h), fun _ => rfl⟩
  | x :: xs, h => by
    rcases h x List.mem_cons_self with ⟨d, p, e⟩ | ⟨n, e⟩
    · exact .inl ⟨d, p, fun K => e _⟩
    · rcases forK_alt (xs := xs) (fun y hy => h y (List.mem_cons_of_mem _ hy)) with ⟨d, p, e2⟩ | ⟨n2, e2⟩
      · exact .inl ⟨d, p, fun K => (e _).trans (e2 K)⟩
      · exact .inr ⟨fun y hy => by
          rcases List.mem_cons.mp hy with rfl | hy
          · exact n
          · exact n2 y hy, fun K => (e _).trans (e2 K)⟩
theorem filtM_eq {cf : α → R Bool} {c : α → Bool} : ∀ {xs : List α}, (∀ x ∈ xs, cf x = .ok (c x)) → filtM cf (fun x => .ok x) xs = .ok (xs.filter c)
  | [], _ => rfl
  | x :: xs, h => by
    have ih := filtM_eq (xs := xs) fun y hy => h y (List.mem_cons_of_mem _ hy)
    unfold filtM at ih ⊢
    have e := h x List.mem_cons_self
    simp only [R.fmapM, e, R.bind_ok] at ih ⊢
    cases cx : c x
    · simp [ih, cx, List.filter_cons, R.consO]
    · simp [ih, cx, List.filter_cons, R.consO]
/-- one part -/
def one1 (p : D → Bool) : List D → Bool
  | [y] => p y
  | _ => false
theorem one_nobl {p : D → Bool} (hp : ∀ y, p y = true → nobl y = true) {r : List D} (h : one1 p r = true) : noblAll r = true := by
  unfold one1 at h
  split at h
  · simp only [noblAll, hp _ h, Bool.and_true]
  · cases h
/-- drawn cards, perhaps fewer than asked for -/
theorem cards_any {low high most : Nat} {s : Sta} (h1 : low ≤ high) (h3 : most ≤ 100000) (h4 : high ≤ 100000) (g : Good s) : Hs (M_law_cards (low : Int) (high : Int) (most : Int) s) fun t => (t.1.Nodup ∧ (∀ c ∈ t.1, 0 ≤ c ∧ c < most) ∧ t.1.length ≤ high) ∧ Good t.2 := by
  unfold M_law_cards
  refine hs_cb (P := fun (t : List Int × Sta) => (t.1.Nodup ∧ (∀ c ∈ t.1, 0 ≤ c ∧ c < most) ∧ t.1.length ≤ high) ∧ Good t.2) ?_ fun t h => h
  refine hs_bind (P := fun (t : List Int × Sta) => t.1.Perm (rng 0 most) ∧ Good t.2) ?_ fun t ⟨p, g⟩ => ?_
  · rw [rng1_is (by omega), R.bind_ok]
    exact mixed_ok (by rw [rng_len]; exact h3) g
  · refine hs_bind (P := fun (t : Int × Sta) => (∃ n : Nat, t.1 = n ∧ low ≤ n ∧ n ≤ high) ∧ Good t.2) ?_ fun u ⟨⟨n, e, a, b⟩, g⟩ => ?_
    · refine hs_bind (next_ok' (n := high - low + 1) (by omega) (by omega) (by omega) g) fun u ⟨⟨a, b⟩, g⟩ => ⟨⟨low + u.1.toNat, ?_, by omega, by omega⟩, g⟩
      show (low : Int) + u.1 = _
      omega
    · refine ⟨?_, g⟩
      show (cut t.1 none (some u.1)).Nodup ∧ (∀ c ∈ cut t.1 none (some u.1), 0 ≤ c ∧ c < most) ∧ (cut t.1 none (some u.1)).length ≤ high
      rw [e, cut_hi]
      refine ⟨(List.take_sublist _ _).nodup (p.nodup_iff.mpr (rng_nodup _ _)), fun c hc => ?_, by rw [List.length_take]; omega⟩
      exact mem_rng.mp (p.mem_iff.mp (List.mem_of_mem_take hc))
theorem mapMS_ok {S : Type} {f : α → β} : ∀ (xs : List α) (s : S), R.mapMS (fun x s => R.ok (f x, s)) xs s = .ok (xs.map f, s)
  | [], s => rfl
  | x :: xs, s => by simp only [R.mapMS, R.bind_ok, mapMS_ok xs, List.map_cons]
theorem pw_lt {xs : List Int} (h : xs.Pairwise (· ≤ ·)) (n : xs.Nodup) : xs.Pairwise (· < ·) := (List.pairwise_and_iff.mpr ⟨h, n⟩).imp fun ⟨a, b⟩ => by omega
theorem get_of_mem {xs : List α} {x : α} (h : x ∈ xs) : ∃ i, i < xs.length ∧ xs[i]? = some x := by
  obtain ⟨i, hi⟩ := List.getElem?_of_mem h
  exact ⟨i, (List.getElem?_eq_some_iff.mp hi).1, hi⟩
def smi (i : Int) : Bool := decide (i.natAbs ≤ 1000)
theorem smi_sm {i : Int} (h : smi i = true) : Sm i := sm_of (n := 1000) (by simpa [smi] using h) (by decide)
theorem smis {r : List Int} (h : r.all smi = true) : ∀ i ∈ r, Sm i := fun i hi => smi_sm (List.all_eq_true.mp h i hi)
/-- are_places, by the law -/
def isPl (m : Int) (d : D) : Bool := match d with
  | .int i => decide (0 ≤ i) && decide (i < m)
  | _ => false
def placesB (d : D) (m : Int) : Bool := match d with
  | .tuple xs => xs.all (isPl m)
  | _ => false
theorem law_place_ok (d : D) (m : Int) : M_law_is_place d m = .ok (isPl m d) := by
  unfold M_law_is_place
  rw [law_whole_ok, R.bind_ok]
  cases d with
  | int i =>
    rw [show dI.dec (PyData.int i) = some i from dec_I i, if_pos (show isW (PyData.int i) = true from rfl)]
    by_cases h : 0 ≤ i <;> simp [R.ofOpt, R.bind, isPl, h]
  | _ => rfl
theorem pl_ints : ∀ {xs : List D} {m : Int}, xs.all (isPl m) = true → ∃ ns : List Int, xs = ns.map PyData.int ∧ ∀ i ∈ ns, 0 ≤ i ∧ i < m
  | [], _, _ => ⟨[], rfl, fun _ h => (nomatch h)⟩
  | x :: xs, m, h => by
    simp only [List.all_cons, Bool.and_eq_true] at h
    obtain ⟨ns, e, k⟩ := pl_ints h.2
    have h1 := h.1
    unfold isPl at h1
    split at h1
    · rename_i i
      simp only [Bool.and_eq_true, decide_eq_true_eq] at h1
      refine ⟨i :: ns, by rw [e]; rfl, fun j hj => ?_⟩
      rcases List.mem_cons.mp hj with rfl | hj
      · exact h1
      · exact k j hj
    · cases h1
theorem placesB_iff {d : D} {m : Int} : placesB d m = true ↔ ∃ ns : List Int, d = .tuple (ns.map .int) ∧ ∀ i ∈ ns, 0 ≤ i ∧ i < m := by
  constructor
  · intro h
    unfold placesB at h
    split at h
    · obtain ⟨ns, e, k⟩ := pl_ints h
      exact ⟨ns, by rw [e], k⟩
    · cases h
  · rintro ⟨ns, rfl, k⟩
    simp only [placesB, List.all_map, List.all_eq_true]
    intro i hi
    have := k i hi
    simp [isPl, this]
theorem law_places_ok {d : D} (m : Int) (ha : Asked 8 d) : M_law_are_places d m = .ok (placesB d m) := by
  unfold M_law_are_places
  cases d with
  | tuple xs =>
    rcases ha with ha | ha
    · cases ha
    show (if true = true then _ else _) = _
    rw [if_pos rfl, dec_tuple]
    rw [show (fun (part_3 : D) => ((M_law_is_place (part_3) m).bind fun c => R.ok (!c))) = fun x => .ok (!isPl m x) from funext fun x => by rw [law_place_ok]; rfl]
    show (((filtM (fun x => .ok (!isPl m x)) (fun x => .ok x) xs).bind _).bind _) = _
    rw [filtM_ok, R.bind_ok, R.bind_ok]
    have hx : ∀ y ∈ (xs.filter fun x => !isPl m x).map (fun x => x), Ad 8 y := fun y hy => by
      obtain ⟨z, hz, rfl⟩ := List.mem_map.mp hy
      have := (List.mem_filter.mp hz).1
      exact ad_in (ad_mono ha (by omega) : Ad 9 _) this
    rw [show (eL eD ((xs.filter fun x => !isPl m x).map fun x => x)) = .list ((xs.filter fun x => !isPl m x).map fun x => x) from eL_id _, eL_id]
    rw [eq_ok (ad_list hx) (ad_list (n := 8) (xs := []) (fun _ h => nomatch h))]
    congr 1
    simp only [placesB]
    rw [Bool.eq_iff_iff, ← filt_not]
    cases (xs.filter fun x => !isPl m x) with
    | nil => simp [PyData.eqv, PyData.eqvAll]
    | cons a as => simp [PyData.eqv, PyData.eqvAll]
  | _ => rfl
theorem mapM_map (f : β → R τ) (g : α → β) : ∀ xs : List α, R.mapM f (xs.map g) = R.mapM (fun x => f (g x)) xs
  | [] => rfl
  | x :: xs => by simp only [List.map_cons, R.mapM, mapM_map f g xs]
theorem rep_get {xs : List α} {n : Nat} (hn : xs.length = n) (h0 : 0 < n) : ∀ {m i : Nat}, i < m * n → (List.replicate m xs).flatten[i]? = xs[i % n]?
  | 0, i, h => by omega
  | m + 1, i, h => by
    rw [List.replicate_succ, List.flatten_cons]
    by_cases hi : i < n
    · rw [List.getElem?_append_left (by omega), Nat.mod_eq_of_lt hi]
    · rw [List.getElem?_append_right (by omega), hn, rep_get hn h0 (by rw [Nat.add_mul] at h; omega), ← Nat.mod_eq_sub_mod (by omega)]
end Cw
namespace Cw
open PySem PySem.Spec PyProof.Rows L2
variable {α β γ σ : Type}
/-! ## how large things get: what an .ok says -/
def Pc (m : R α) (P : α → Prop) : Prop := ∀ a, m = .ok a → P a
theorem pc_ok {a : α} {P : α → Prop} (h : P a) : Pc (R.ok a) P := fun b e => by cases e; exact h
theorem pc_bad {P : α → Prop} : Pc (R.bad : R α) P := fun b e => by cases e
theorem pc_true {m : R α} : Pc m fun _ => True := fun _ _ => trivial
theorem pc_mono {m : R α} {P Q : α → Prop} (h : Pc m P) (k : ∀ a, P a → Q a) : Pc m Q := fun a e => k a (h a e)
theorem pc_bind {m : R α} {f : α → R β} {P : α → Prop} {Q : β → Prop} (h : Pc m P) (k : ∀ a, P a → Pc (f a) Q) : Pc (m.bind f) Q := fun b e => by
  cases m with
  | ok a => exact k a (h a rfl) b e
  | exc x => cases e
  | bad => cases e
theorem pc_any {m : R α} {f : α → R β} {Q : β → Prop} (k : ∀ a, Pc (f a) Q) : Pc (m.bind f) Q := pc_bind pc_true fun a _ => k a
theorem pc_cb {m : R α} {f : α → R β} {P : α → Prop} {Q : β → Prop} (h : Pc m P) (k : ∀ a, P a → Pc (f a) Q) : Pc (m.cb f) Q := fun b e => by
  cases m with
  | ok a => exact k a (h a rfl) b e
  | exc x => cases e
  | bad => cases e
theorem pc_cbA {m : R α} {f : α → R β} {Q : β → Prop} (k : ∀ a, Pc (f a) Q) : Pc (m.cb f) Q := pc_cb pc_true fun a _ => k a
theorem pc_ite {c : Prop} [Decidable c] {m n : R α} {P : α → Prop} (h1 : c → Pc m P) (h2 : ¬ c → Pc n P) : Pc (if c then m else n) P := by
  split
  · exact h1 ‹_›
  · exact h2 ‹_›
theorem mem_atI {xs : List α} {i : Int} {x : α} (h : atI xs i = some x) : x ∈ xs := by
  unfold atI at h
  obtain ⟨j, _, e⟩ := Option.bind_eq_some_iff.mp h
  exact List.mem_of_getElem? e
theorem pc_idx {xs : List α} {i : Int} {P : α → Prop} (h : ∀ x ∈ xs, P x) : Pc (idx xs i) P := fun a e => by
  unfold idx R.ofOpt at e
  split at e
  · rename_i q
    cases e
    exact h _ (mem_atI q)
  · cases e
theorem pc_seq {P : α → Prop} : ∀ {ms : List (R α)}, (∀ m ∈ ms, Pc m P) → Pc (R.seq ms) fun as => ∀ a ∈ as, P a
  | [], _ => pc_ok fun _ h => (nomatch h)
  | m :: ms, h => pc_bind (h m List.mem_cons_self) fun a pa => pc_bind (pc_seq fun m' hm => h m' (List.mem_cons_of_mem _ hm)) fun as pas => pc_ok (all_cons pa pas)
theorem pc_catR {xs ys : List α} {P : α → Prop} (h1 : ∀ x ∈ xs, P x) (h2 : ∀ x ∈ ys, P x) : Pc (catR xs ys) fun zs => ∀ z ∈ zs, P z := fun a e => by
  unfold catR at e
  split at e
  · cases e
    intro z hz
    rcases List.mem_append.mp hz with h | h
    · exact h1 z h
    · exact h2 z h
  · cases e
theorem pc_mapM {f : α → R β} {P : β → Prop} : ∀ {xs : List α}, (∀ x ∈ xs, Pc (f x) P) → Pc (R.mapM f xs) fun ys => ∀ y ∈ ys, P y
  | [], _ => pc_ok fun _ h => (nomatch h)
  | x :: xs, h => fun a e => by
    unfold R.mapM at e
    cases q : f x with
    | ok y =>
      rw [q] at e
      cases q2 : R.mapM f xs with
      | ok ys =>
        rw [q2] at e
        cases e
        exact all_cons (h x List.mem_cons_self y q) (pc_mapM (fun z hz => h z (List.mem_cons_of_mem _ hz)) ys q2)
      | exc z => rw [q2] at e; cases e
      | bad => rw [q2] at e; cases e
    | exc z => rw [q] at e; cases e
    | bad => rw [q] at e; cases e
/-! ### a size -/
mutual
def sz : D → Nat
  | .int _ => 40
  | .str x => 10 + 20 * x.cps.size
  | .list xs => 10 + szA xs
  | .tuple xs => 10 + szA xs
  | .none => 10
  | .bool _ => 10
  | .dict _ => 10
def szA : List D → Nat
  | [] => 0
  | x :: xs => (sz x + 2) + szA xs
end
mutual
/-- ints of so many bits -/
def ib (b : Nat) : D → Prop
  | .int i => i.natAbs < 2 ^ b
  | .list xs => ibA b xs
  | .tuple xs => ibA b xs
  | .dict kvs => kvs = []
  | _ => True
def ibA (b : Nat) : List D → Prop
  | [] => True
  | x :: xs => ib b x ∧ ibA b xs
end
theorem ibA_iff {b : Nat} : ∀ {xs : List D}, ibA b xs ↔ ∀ x ∈ xs, ib b x
  | [] => by simp [ibA]
  | x :: xs => by simp [ibA, ibA_iff]
theorem szA_app : ∀ (xs ys : List D), szA (xs ++ ys) = szA xs + szA ys
  | [], ys => by simp [szA]
  | x :: xs, ys => by simp only [List.cons_append, szA, szA_app xs ys]; omega
theorem szA_sub {xs ys : List D} (h : xs.Sublist ys) : szA xs ≤ szA ys := by
  induction h with
  | slnil => exact Nat.le_refl _
  | cons a _ ih => simp only [szA]; omega
  | cons_cons a _ ih => simp only [szA]; omega
theorem szA_perm {xs ys : List D} (h : xs.Perm ys) : szA xs = szA ys := by
  induction h with
  | nil => rfl
  | cons x _ ih => simp only [szA, ih]
  | swap x y l => simp only [szA]; omega
  | trans _ _ a b => exact a.trans b
theorem szA_mem {xs : List D} {x : D} (h : x ∈ xs) : sz x + 2 ≤ szA xs := by
  induction xs with
  | nil => cases h
  | cons y ys ih =>
    simp only [szA]
    rcases List.mem_cons.mp h with rfl | h
    · omega
    · have := ih h; omega
theorem sz_pos (d : D) : 10 ≤ sz d := by cases d <;> simp only [sz] <;> omega
mutual
theorem ib_mono {a b : Nat} (h : a ≤ b) : ∀ {d : D}, ib a d → ib b d
  | .int i, k => Nat.lt_of_lt_of_le k (Nat.pow_le_pow_right (by decide) h)
  | .list xs, k => ibA_mono h k
  | .tuple xs, k => ibA_mono h k
  | .dict _, k => k
  | .none, _ => trivial
  | .bool _, _ => trivial
  | .str _, _ => trivial
theorem ibA_mono {a b : Nat} (h : a ≤ b) : ∀ {xs : List D}, ibA a xs → ibA b xs
  | [], _ => trivial
  | x :: xs, k => ⟨ib_mono h k.1, ibA_mono h k.2⟩
end
/-- small: ints of b bits, of a size -/
structure Sb (b B : Nat) (d : D) : Prop where
  ib : ib b d
  sz : sz d ≤ B
/-- .. and no int -/
structure Sq (b B : Nat) (d : D) : Prop extends Sb b B d where
  ni : ∀ i, d ≠ .int i
theorem Sb.mono {b c B C : Nat} {d : D} (h : Sb b B d) (hb : b ≤ c) (hB : B ≤ C) : Sb c C d := ⟨ib_mono hb h.ib, Nat.le_trans h.sz hB⟩
theorem Sq.mono {b c B C : Nat} {d : D} (h : Sq b B d) (hb : b ≤ c) (hB : B ≤ C) : Sq c C d := ⟨h.toSb.mono hb hB, h.ni⟩
theorem cut_sub (xs : List α) (lo hi : Option Int) : (cut xs lo hi).Sublist xs := (List.take_sublist _ _).trans (List.drop_sublist _ _)
theorem pc_cut {b B : Nat} {d : D} {lo hi : Option Int} (h : Sb b B d) : Pc (cutD d lo hi) (Sq b B) := by
  cases d with
  | str x =>
    show Pc (if x.length ≤ sizeLine then R.ok (PyData.str (cutS x lo hi)) else .bad) _
    refine pc_ite (fun _ => pc_ok ⟨⟨trivial, ?_⟩, nofun⟩) fun _ => pc_bad
    have h1 : (cutS x lo hi).cps.size ≤ x.cps.size := cutS_length _ _ _
    have h2 := h.sz
    simp only [sz] at *
    omega
  | tuple xs =>
    refine pc_ok ⟨⟨ibA_iff.mpr fun x hx => ibA_iff.mp h.ib x (mem_cut hx), ?_⟩, nofun⟩
    have h1 := szA_sub (cut_sub xs lo hi)
    have h2 := h.sz
    simp only [sz] at *
    omega
  | _ => exact pc_bad
theorem pc_rev {b B : Nat} {d : D} (h : Sb b B d) : Pc (revD d) (Sq b B) := by
  cases d with
  | str x =>
    show Pc (if x.length ≤ sizeLine then R.ok (PyData.str (revS x)) else .bad) _
    refine pc_ite (fun _ => pc_ok ⟨⟨trivial, ?_⟩, nofun⟩) fun _ => pc_bad
    have h1 : (revS x).cps.size = x.cps.size := by
      show x.cps.toList.reverse.toArray.size = x.cps.size
      simp
    have h2 := h.sz
    simp only [sz] at *
    omega
  | tuple xs =>
    refine pc_ok ⟨⟨ibA_iff.mpr fun x hx => ibA_iff.mp h.ib x (by simpa using hx), ?_⟩, nofun⟩
    have h1 := szA_perm (List.reverse_perm xs)
    have h2 := h.sz
    simp only [sz] at *
    omega
  | _ => exact pc_bad
theorem pc_add {b A B : Nat} {x y : D} (hx : Sq b A x) (hy : Sq b B y) : Pc (addD x y) (Sq b (A + B)) := by
  have h1 := hx.sz
  have h2 := hy.sz
  cases x with
  | int i => exact absurd rfl (hx.ni i)
  | str u =>
    cases y with
    | str w =>
      show Pc ((addS u w).map PyData.str) _
      unfold addS
      split
      · refine pc_ok ⟨⟨trivial, ?_⟩, nofun⟩
        have : (u ++ w).cps.size = u.cps.size + w.cps.size := by
          show (u.cps ++ w.cps).size = _
          rw [Array.size_append]
        simp only [sz] at *
        omega
      · exact pc_bad
    | _ => exact pc_bad
  | tuple us =>
    cases y with
    | tuple ws =>
      show Pc ((catR us ws).map PyData.tuple) _
      unfold catR
      split
      · refine pc_ok ⟨⟨ibA_iff.mpr fun z hz => ?_, ?_⟩, nofun⟩
        · rcases List.mem_append.mp hz with hz | hz
          · exact ibA_iff.mp hx.ib z hz
          · exact ibA_iff.mp hy.ib z hz
        · simp only [sz, szA_app] at *
          omega
      · exact pc_bad
    | _ => exact pc_bad
  | _ => exact pc_bad
theorem pc_idxD {b B : Nat} {d : D} {i : Int} (h : Sb b B d) : Pc (idxD d i) (Sb b B) := by
  have h2 := h.sz
  cases d with
  | list xs =>
    refine pc_idx (xs := xs) fun x hx => ⟨ibA_iff.mp h.ib x hx, ?_⟩
    have := szA_mem hx
    simp only [sz] at h2
    omega
  | tuple xs =>
    refine pc_idx (xs := xs) fun x hx => ⟨ibA_iff.mp h.ib x hx, ?_⟩
    have := szA_mem hx
    simp only [sz] at h2
    omega
  | str x =>
    intro a e
    replace e : (if x.length ≤ sizeLine then (R.ofOpt (atI x.cps.toList i)).map fun c => PyData.str ⟨#[c]⟩ else .bad) = .ok a := e
    split at e
    · cases q : atI x.cps.toList i with
      | none => rw [q] at e; cases e
      | some c =>
        rw [q] at e
        cases e
        have := List.length_pos_of_mem (mem_atI q)
        refine ⟨trivial, ?_⟩
        simp only [Array.length_toList] at this
        simp only [sz] at *
        show 10 + 20 * 1 ≤ B
        omega
    · cases e
  | _ => exact pc_bad
theorem sq_one {b B : Nat} {x : D} (h : Sb b B x) : Sq b (B + 12) (eT eD [x]) := by
  rw [eT_id]
  have := h.sz
  exact ⟨⟨⟨h.ib, trivial⟩, by simp only [sz, szA]; omega⟩, nofun⟩
theorem sq_two {b A B : Nat} {x y : D} (h : Sb b A x) (k : Sb b B y) : Sq b (A + B + 14) (eT eD [x, y]) := by
  rw [eT_id]
  have := h.sz
  have := k.sz
  exact ⟨⟨⟨h.ib, k.ib, trivial⟩, by simp only [sz, szA]; omega⟩, nofun⟩
theorem sq_nil {b : Nat} : Sq b 10 (eT eD ([] : List D)) := by
  rw [eT_id]
  exact ⟨⟨trivial, Nat.le_refl _⟩, nofun⟩
theorem sq_str {b : Nat} (w : Str) : Sq b (10 + 20 * w.cps.size) (.str w) := ⟨⟨trivial, Nat.le_refl _⟩, nofun⟩
theorem pc_lst {b B : Nat} {d : D} (h : Sb b B d) : Pc (((R.ofOpt ((dT dD).dec d)).bind fun (y : List D) => R.ok y).bind fun a => R.ok ((eL eD) a)) (Sb b B) := by
  cases d with
  | tuple xs =>
    rw [dec_tuple]
    refine pc_ok ?_
    rw [eL_id]
    exact ⟨h.ib, h.sz⟩
  | _ => exact pc_bad
theorem pc_decI {b B : Nat} {d : D} (h : Sb b B d) : Pc (R.ofOpt (dI.dec d)) fun i => i.natAbs < 2 ^ b := by
  cases d with
  | int i => exact pc_ok h.ib
  | _ => exact pc_bad
theorem sb_int {b : Nat} {i : Int} (h : i.natAbs < 2 ^ b) : Sb b 40 (eI i) := ⟨h, Nat.le_refl _⟩
theorem sb_bool {b : Nat} {x : Bool} : Sb b 10 (eB x) := ⟨trivial, Nat.le_refl _⟩
theorem sb_non {b : Nat} : Sb b 10 (eN ()) := ⟨trivial, Nat.le_refl _⟩
theorem pc_strD {d : D} (h : ib 64 d) : Pc (strD d) (Sb 80 1000) := by
  cases d with
  | none => exact pc_ok ⟨trivial, by decide⟩
  | int i =>
    show Pc (if i.natAbs.log2 < 1920 then R.ok (PyData.str (toString i)) else .bad) _
    refine pc_ite (fun _ => pc_ok ⟨trivial, ?_⟩) fun _ => pc_bad
    have h1 : i.natAbs < 10 ^ 20 := Nat.lt_of_lt_of_le h (by decide)
    have h2 := int_text_length_le10 (k := 20) (by decide) h1
    have h3 : ((toString i : String) : Str).cps.size = (toString i).length := PySem.ofString_length _
    simp only [sz]
    omega
  | _ => exact pc_bad
theorem pc_forR {g : α → σ → R σ} {I : σ → Prop} : ∀ {xs : List α} {s : σ}, (∀ x ∈ xs, ∀ s, I s → Pc (g x s) I) → I s → Pc (forR g xs s) I
  | [], s, _, h => pc_ok h
  | x :: xs, s, k, h => pc_bind (k x List.mem_cons_self s h) fun t ht => pc_forR (fun y hy => k y (List.mem_cons_of_mem _ hy)) ht
theorem pc_mapSz {f : D → R D} {b C : Nat} : ∀ {xs : List D}, (∀ x ∈ xs, Pc (f x) fun r => ib b r ∧ sz r + 2 ≤ C * (sz x + 2)) → Pc (R.mapM f xs) fun ys => ibA b ys ∧ szA ys ≤ C * szA xs
  | [], _ => pc_ok ⟨trivial, Nat.zero_le _⟩
  | x :: xs, h => fun a e => by
    unfold R.mapM at e
    cases q : f x with
    | ok y =>
      rw [q] at e
      cases q2 : R.mapM f xs with
      | ok ys =>
        rw [q2] at e
        cases e
        have h1 := h x List.mem_cons_self y q
        have h2 := pc_mapSz (fun z hz => h z (List.mem_cons_of_mem _ hz)) ys q2
        refine ⟨⟨h1.1, h2.1⟩, ?_⟩
        simp only [szA, Nat.mul_add] at *
        omega
      | exc z => rw [q2] at e; cases e
      | bad => rw [q2] at e; cases e
    | exc z => rw [q] at e; cases e
    | bad => rw [q] at e; cases e
theorem pc_mapMSz {f : D → Sta → R (D × Sta)} {b C : Nat} : ∀ {xs : List D} {s : Sta}, (∀ x ∈ xs, ∀ s, Pc (f x s) fun r => ib b r.1 ∧ sz r.1 + 2 ≤ C * (sz x + 2)) → Pc (R.mapMS f xs s) fun ys => ibA b ys.1 ∧ szA ys.1 ≤ C * szA xs
  | [], s, _ => pc_ok ⟨trivial, Nat.zero_le _⟩
  | x :: xs, s, h => pc_bind (h x List.mem_cons_self s) fun t ht => pc_bind (pc_mapMSz fun z hz => h z (List.mem_cons_of_mem _ hz)) fun u hu => pc_ok ⟨⟨ht.1, hu.1⟩, by
    have h1 := ht.2
    have h2 := hu.2
    simp only [szA, Nat.mul_add] at *
    omega⟩
/-! ### the law's things -/
theorem pc_exch {b : Nat} : ∀ (n : Nat) (d : D) (x y : Int), ib b d → x.natAbs < 2 ^ b → y.natAbs < 2 ^ b → Pc (M_law_exchanged n d x y) fun r => ib b r ∧ sz r ≤ sz d
  | 0, _, _, _, _, _, _ => pc_bad
  | n + 1, d, x, y, h, hx, hy => by
    show Pc (M_law_exchanged_step (M_law_exchanged n) d x y) _
    unfold M_law_exchanged_step
    refine pc_ite (fun _ => pc_ok ⟨h, Nat.le_refl _⟩) fun c => pc_ite (fun c2 => ?_) fun _ => ?_
    · have : isA .bool d = false := by
        cases e : isA .bool d with
        | false => rfl
        | true => rw [e] at c; simp at c
      obtain ⟨i, rfl⟩ := isW_iff.mp (show isW d = true by simp [isW, c2, this])
      exact pc_any fun t => pc_ite (fun _ => pc_ok ⟨hy, Nat.le_refl _⟩) fun _ => pc_any fun t => pc_ite (fun _ => pc_ok ⟨hx, Nat.le_refl _⟩) fun _ => pc_ok ⟨h, Nat.le_refl _⟩
    · cases d with
      | tuple xs =>
        rw [dec_tuple]
        refine pc_bind (P := fun ys : List D => ibA b ys ∧ szA ys ≤ 1 * szA xs) (pc_bind (P := fun ys : List D => ibA b ys ∧ szA ys ≤ 1 * szA xs) (pc_bind (P := fun ys => ys = xs) (pc_ok rfl) fun ys e => ?_) fun ys h => pc_ok h) fun ys ⟨h1, h2⟩ => pc_ok ?_
        · subst e
          exact pc_mapSz fun z hz => pc_mono (pc_exch n z x y (ibA_iff.mp h z hz) hx hy) fun r ⟨a, b⟩ => ⟨a, by omega⟩
        · rw [eT_id]
          exact ⟨h1, by simp only [sz]; omega⟩
      | _ => exact pc_bad
theorem pc_ints {b : Nat} : ∀ (n : Nat) (d : D), ib b d → Pc (M_law_ints n d) fun ns => ∀ i ∈ ns, i.natAbs < 2 ^ b
  | 0, _, _ => pc_bad
  | n + 1, d, h => by
    show Pc (M_law_ints_step (M_law_ints n) d) _
    unfold M_law_ints_step
    refine pc_ite (fun _ => pc_ok fun i hi => (nomatch hi)) fun c => pc_ite (fun c2 => ?_) fun _ => ?_
    · refine pc_bind (pc_decI ⟨h, Nat.le_refl _⟩) fun i hi => pc_ok (all_cons hi all_nil)
    · refine pc_bind (P := fun l => l = []) (pc_ok rfl) fun found e0 => pc_bind (P := fun l : List Int => ∀ i ∈ l, i.natAbs < 2 ^ b) ?_ fun t ht => pc_ok ht
      cases d with
      | tuple xs =>
        rw [dec_tuple]
        refine pc_bind (P := fun ys => ys = xs) (pc_ok rfl) fun ys e => pc_forR (I := fun l : List Int => ∀ i ∈ l, i.natAbs < 2 ^ b) (fun x hx t ht => ?_) (by rw [e0]; exact fun i hi => (nomatch hi))
        subst e
        refine pc_bind (P := fun l : List Int => ∀ i ∈ l, i.natAbs < 2 ^ b) (pc_bind (P := fun l : List Int => ∀ i ∈ l, i.natAbs < 2 ^ b) (pc_bind (pc_ints n x (ibA_iff.mp h x hx)) fun y hy => pc_ok fun i hi => ?_) fun z hz => pc_catR ht hz) fun w hw => pc_ok hw
        rw [List.map_id'] at hi
        exact hy i (List.mem_filter.mp hi).1
      | _ => exact pc_bad
/-- texts beside one another -/
theorem dec_strs {b B : Nat} {d : D} (h : Sb b B d) : Pc (R.ofOpt ((dT dS).dec d)) fun ss => 10 + 20 * (ss.map (·.length)).sum + 12 * ss.length ≤ B := by
  intro ss e
  cases q : (dT dS).dec d with
  | none => rw [q] at e; cases e
  | some zs =>
    rw [q] at e
    cases e
    have k := (dT dS).ok d ss q
    have h2 := h.sz
    rw [← k] at h2
    have : ∀ zs : List Str, szA (zs.map eS) = 20 * (zs.map (·.length)).sum + 12 * zs.length := by
      intro zs
      induction zs with
      | nil => rfl
      | cons z zs ih =>
        simp only [List.map_cons, szA, ih, List.sum_cons, List.length_cons]
        show 10 + 20 * z.cps.size + 2 + _ = _
        have : z.length = z.cps.size := rfl
        omega
    simp only [eT, sz, this] at h2
    omega
theorem pc_join {ss : List Str} : Pc (joinR "" ss) fun x => x.cps.size ≤ (ss.map (·.length)).sum := by
  unfold joinR
  refine pc_ite (fun _ => pc_ok ?_) fun _ => pc_bad
  have ej : Txt.join "" ss = Str.join "" ss := PySem.StrLaws.glued_eq_join _ _
  show (Txt.join _ ss).cps.size ≤ _
  rw [ej]
  have := StrLaws.join_length_le "" ss
  have e : (Str.ofString "").length = 0 := by decide
  rw [e] at this
  have k : (Str.join "" ss).length = (Str.join "" ss).cps.size := rfl
  omega
theorem pc_joined {b B : Nat} {m : R D} (h : Pc m (Sb b B)) : Pc ((((m.bind fun a => R.ofOpt ((dT dS).dec a)).bind fun (y : List Str) => joinR ("" : Str) y).bind fun (z : Str) => R.ok ([z])).bind fun a => R.ok ((eT eS) a)) (Sq b (B + 12)) :=
  pc_bind (P := fun zs : List Str => ∃ z, zs = [z] ∧ 10 + 20 * z.cps.size ≤ B) (pc_bind (P := fun z : Str => 10 + 20 * z.cps.size ≤ B) (pc_bind (pc_bind h fun a ha => dec_strs ha) fun ss hs => pc_mono pc_join fun x hx => by omega) fun z hz => pc_ok ⟨z, rfl, hz⟩) fun zs ⟨z, e, hz⟩ => pc_ok (by
    subst e
    refine ⟨⟨⟨trivial, trivial⟩, ?_⟩, nofun⟩
    show 10 + (10 + 20 * z.cps.size + 2 + 0) ≤ B + 12
    omega)
theorem pc_joinedS {b B : Nat} {d : D} (h : Sb b B d) : Pc ((((R.ofOpt ((dT dS).dec d)).bind fun (y : List Str) => joinR ("" : Str) y).bind fun (z : Str) => (sgnR z)).bind fun a => R.ok ((eT eS) a)) (Sq b (2 * B)) :=
  pc_bind (P := fun zs : List Str => 10 + szA (zs.map eS) ≤ 2 * B) (pc_bind (P := fun z : Str => 10 + 20 * z.cps.size ≤ B) (pc_bind (dec_strs h) fun ss hs => pc_mono pc_join fun x hx => by omega) fun z hz => by
    unfold sgnR
    refine pc_ite (fun _ => pc_ok ?_) fun _ => pc_bad
    have : ∀ l : List Nat, szA ((l.map fun c => (⟨#[c]⟩ : Str)).map eS) = 32 * l.length := by
      intro l
      induction l with
      | nil => rfl
      | cons c l ih =>
        simp only [List.map_cons, szA, ih, List.length_cons]
        show 10 + 20 * 1 + 2 + _ = _
        omega
    have := this z.cps.toList
    unfold sgn
    rw [this, Array.length_toList]
    omega) fun zs hz => pc_ok ⟨⟨ibA_iff.mpr fun x hx => by obtain ⟨z, _, rfl⟩ := List.mem_map.mp hx; trivial, hz⟩, nofun⟩
theorem pc_cutL {b : Nat} : ∀ (n : Nat) (d : D) (s : Sta), ib b d → Pc (M_law_cut n d s) fun t => ib b t.1 ∧ sz t.1 ≤ (4 * n + 16) * sz d
  | 0, _, _, _ => pc_bad
  | n + 1, d, s, h => by
    have hd : Sb b (sz d) d := ⟨h, Nat.le_refl _⟩
    have p := sz_pos d
    have ex : (4 * (n + 1) + 16) * sz d = (4 * n + 16) * sz d + 4 * sz d := by rw [← Nat.add_mul]; congr 1
    have ex0 : 16 * sz d ≤ (4 * n + 16) * sz d := Nat.mul_le_mul_right _ (by omega)
    show Pc (M_law_cut_step (M_law_cut n) d s) _
    unfold M_law_cut_step
    refine pc_any fun t => pc_ite (fun _ => pc_ok ⟨h, by show sz d ≤ _; omega⟩) fun _ => pc_any fun t => pc_ite (fun _ => pc_cbA fun t6 => ?_) fun _ => pc_cbA fun t24 => pc_cbA fun t29 => ?_
    · refine pc_cb (P := fun t : D × Sta => Sq b (sz d + ((4 * n + 16) * sz d + 12) + sz d) t.1) (pc_bind (P := fun t : D × Sta => Sq b (sz d + ((4 * n + 16) * sz d + 12)) t.1) (pc_bind (P := fun t : D × Sta => Sq b (sz d) t.1) (pc_bind (pc_cut hd) fun a ha => pc_ok ha) fun t18 h18 => pc_bind (P := fun t : D × Sta => Sq b ((4 * n + 16) * sz d + 12) t.1) (pc_bind (P := fun t : (List D) × Sta => ∃ x, t.1 = [x] ∧ Sb b ((4 * n + 16) * sz d) x) (pc_bind (P := fun t : (D × Unit) × Sta => Sb b ((4 * n + 16) * sz d) t.1.1) (pc_bind (P := fun t : D × Sta => Sb b ((4 * n + 16) * sz d) t.1) (pc_bind (pc_idxD hd) fun y hy => pc_mono (pc_cutL n y t18.2 hy.ib) fun r ⟨a, c⟩ => ⟨a, Nat.le_trans c (Nat.mul_le_mul_left _ hy.sz)⟩) fun t20 h20 => pc_any fun u => pc_ok h20) fun t h => pc_ok ⟨_, rfl, h⟩) fun t ⟨x, e, h⟩ => pc_ok (by
          show Sq b _ ((eT eD) t.1)
          rw [e]
          exact sq_one h)) fun t19 h19 => pc_bind (pc_add h18 h19) fun c hc => pc_ok hc) fun t17 h17 => pc_bind (P := fun t : D × Sta => Sq b (sz d) t.1) (pc_bind (pc_cut hd) fun a ha => pc_ok ha) fun t23 h23 => pc_bind (pc_add h17 h23) fun c hc => pc_ok hc) fun t ht => pc_ok ⟨ht.ib, ?_⟩
      have := ht.sz
      omega
    · have way : ∀ {x : D}, Sq b (4 * sz d + 24) x → Sq b (16 * sz d) x := fun h => h.mono (Nat.le_refl _) (by omega)
      refine pc_bind (P := fun l : List D => ∀ x ∈ l, Sq b (16 * sz d) x) (pc_bind (P := Sq b (16 * sz d)) ?_ fun y46 h46 => pc_bind (P := Sq b (16 * sz d)) ?_ fun y47 h47 => pc_ok (all_cons h46 (all_cons h47 all_nil))) fun ways hw => pc_bind (P := fun l : List D => ∀ x ∈ l, Sq b (16 * sz d) x) (pc_bind (P := fun l : List D => ∀ x ∈ l, Sq b (16 * sz d) x) (pc_seq (all_cons ?_ (all_cons ?_ (all_cons ?_ (all_cons ?_ all_nil))))) fun y61 h61 => pc_catR hw h61) fun ways2 hw2 => pc_cb (P := fun t : D × Sta => Sq b (16 * sz d) t.1) (pc_any fun t64 => pc_bind (pc_idx hw2) fun c hc => pc_ok hc) fun t ht => pc_ok ⟨ht.ib, by have := ht.sz; omega⟩
      · refine pc_bind (P := Sq b (3 * sz d + 14)) (pc_bind (pc_cut hd) fun y36 h36 => pc_bind (P := Sq b (sz d + sz d + 14)) (pc_bind (P := fun l : List D => ∃ x y, l = [x, y] ∧ Sb b (sz d) x ∧ Sb b (sz d) y) (pc_bind (pc_bind (pc_idxD hd) fun y hy => pc_cut hy) fun y34 h34 => pc_bind (pc_bind (pc_idxD hd) fun y hy => pc_cut hy) fun y35 h35 => pc_ok ⟨_, _, rfl, h34.toSb, h35.toSb⟩) fun l ⟨x, y, e, hx, hy⟩ => pc_ok (by rw [e]; exact sq_two hx hy)) fun y37 h37 => pc_mono (pc_add h36 h37) fun r hr => hr.mono (Nat.le_refl _) (by omega)) fun y38 h38 => pc_bind (pc_cut hd) fun y39 h39 => pc_mono (pc_add h38 h39) fun r hr => hr.mono (Nat.le_refl _) (by omega)
      · refine pc_bind (P := Sq b (2 * sz d + 12)) (pc_bind (pc_cut hd) fun y42 h42 => pc_bind (pc_joined (pc_mono (pc_cut hd) fun r hr => hr.toSb)) fun y43 h43 => pc_mono (pc_add h42 h43) fun r hr => hr.mono (Nat.le_refl _) (by omega)) fun y44 h44 => pc_bind (pc_cut hd) fun y45 h45 => pc_mono (pc_add h44 h45) fun r hr => hr.mono (Nat.le_refl _) (by omega)
      · exact pc_mono (pc_joined (m := R.ok d) (pc_ok hd)) fun r hr => hr.mono (Nat.le_refl _) (by omega)
      · exact pc_mono (pc_joinedS hd) fun r hr => hr.mono (Nat.le_refl _) (by omega)
      · refine pc_bind (P := Sq b (sz d + 22)) (pc_bind (pc_cut hd) fun y53 h53 => pc_mono (pc_add h53 (show Sq b 22 ((eT eS) ([("" : Str)])) from ⟨⟨⟨trivial, trivial⟩, by decide⟩, nofun⟩)) fun r hr => hr) fun y54 h54 => pc_bind (pc_cut hd) fun y55 h55 => pc_mono (pc_add h54 h55) fun r hr => hr.mono (Nat.le_refl _) (by omega)
      · refine pc_bind (P := Sq b (2 * sz d)) (pc_bind (pc_cut hd) fun y57 h57 => pc_bind (pc_bind (pc_cut hd) fun y56 h56 => pc_rev h56.toSb) fun y58 h58 => pc_mono (pc_add h57 h58) fun r hr => hr.mono (Nat.le_refl _) (by omega)) fun y59 h59 => pc_bind (pc_cut hd) fun y60 h60 => pc_mono (pc_add h59 h60) fun r hr => hr.mono (Nat.le_refl _) (by omega)
def szAt : D → Nat
  | .tuple xs => szA xs
  | _ => 0
/-- what is cut is no int, if it was none -/
theorem pc_cutNi {n : Nat} {d : D} {s : Sta} (h : ∀ i, d ≠ .int i) : Pc (M_law_cut n d s) fun t => ∀ i, t.1 ≠ .int i := by
  cases n with
  | zero => exact pc_bad
  | succ n =>
    show Pc (M_law_cut_step (M_law_cut n) d s) _
    unfold M_law_cut_step
    have cut_ni : ∀ {d lo hi}, Pc (cutD d lo hi) fun r => ∀ i, r ≠ .int i := fun {d lo hi} => by
      cases d with
      | str x => exact pc_ite (fun _ => pc_ok nofun) fun _ => pc_bad
      | tuple xs => exact pc_ok nofun
      | _ => exact pc_bad
    have rev_ni : ∀ {d}, Pc (revD d) fun r => ∀ i, r ≠ .int i := fun {d} => by
      cases d with
      | str x => exact pc_ite (fun _ => pc_ok nofun) fun _ => pc_bad
      | tuple xs => exact pc_ok nofun
      | _ => exact pc_bad
    have add_ni : ∀ {x y : D}, (∀ i, x ≠ .int i) → Pc (addD x y) fun r => ∀ i, r ≠ .int i := fun {x y} hx => by
      cases x with
      | int i => exact absurd rfl (hx i)
      | str u =>
        cases y with
        | str w =>
          show Pc ((addS u w).map PyData.str) _
          unfold addS
          split
          · exact pc_ok nofun
          · exact pc_bad
        | _ => exact pc_bad
      | tuple us =>
        cases y with
        | tuple ws =>
          show Pc ((catR us ws).map PyData.tuple) _
          unfold catR
          split
          · exact pc_ok nofun
          · exact pc_bad
        | _ => exact pc_bad
      | _ => exact pc_bad
    refine pc_any fun t => pc_ite (fun _ => pc_ok h) fun _ => pc_any fun t => pc_ite (fun _ => pc_cbA fun t6 => ?_) fun _ => pc_cbA fun t24 => pc_cbA fun t29 => ?_
    · exact pc_cb (P := fun t : D × Sta => ∀ i, t.1 ≠ .int i) (pc_bind (P := fun t : D × Sta => ∀ i, t.1 ≠ .int i) (pc_bind (P := fun t : D × Sta => ∀ i, t.1 ≠ .int i) (pc_bind cut_ni fun a ha => pc_ok ha) fun t18 h18 => pc_any fun t19 => pc_bind (add_ni h18) fun c hc => pc_ok hc) fun t17 h17 => pc_any fun t23 => pc_bind (add_ni h17) fun c hc => pc_ok hc) fun t ht => pc_ok ht
    · refine pc_bind (P := fun l : List D => ∀ x ∈ l, ∀ i, x ≠ .int i) (pc_bind (P := fun x : D => ∀ i, x ≠ .int i) (pc_bind (P := fun x : D => ∀ i, x ≠ .int i) (pc_bind cut_ni fun a ha => pc_any fun _ => add_ni ha) fun a ha => pc_any fun _ => add_ni ha) fun y46 h46 => pc_bind (P := fun x : D => ∀ i, x ≠ .int i) (pc_bind (P := fun x : D => ∀ i, x ≠ .int i) (pc_bind cut_ni fun a ha => pc_any fun _ => add_ni ha) fun a ha => pc_any fun _ => add_ni ha) fun y47 h47 => pc_ok (all_cons h46 (all_cons h47 all_nil))) fun ways hw => pc_bind (P := fun l : List D => ∀ x ∈ l, ∀ i, x ≠ .int i) (pc_bind (P := fun l : List D => ∀ x ∈ l, ∀ i, x ≠ .int i) (pc_seq (all_cons ?_ (all_cons ?_ (all_cons ?_ (all_cons ?_ all_nil))))) fun y61 h61 => pc_catR hw h61) fun ways2 hw2 => pc_cb (P := fun t : D × Sta => ∀ i, t.1 ≠ .int i) (pc_any fun t64 => pc_bind (pc_idx hw2) fun c hc => pc_ok hc) fun t ht => pc_ok ht
      · exact pc_any fun _ => pc_ok nofun
      · exact pc_any fun _ => pc_ok nofun
      · exact pc_bind (P := fun x : D => ∀ i, x ≠ .int i) (pc_bind cut_ni fun a ha => add_ni ha) fun a ha => pc_any fun _ => add_ni ha
      · exact pc_bind (P := fun x : D => ∀ i, x ≠ .int i) (pc_bind cut_ni fun a ha => pc_any fun _ => add_ni ha) fun a ha => pc_any fun _ => add_ni ha
theorem pc_turned {b B : Nat} {d : D} {s : Sta} (h : Sb b B d) (hb : 1 ≤ b) : Pc (M_law_turned_about d s) fun t => Sb (b + 1) (60 * B) t.1 := by
  have hd := h
  have p : 10 ≤ B := Nat.le_trans (sz_pos d) h.sz
  have two : 2 ^ b + 1 ≤ 2 ^ (b + 1) := by rw [Nat.pow_succ]; have := Nat.one_le_two_pow (n := b); omega
  unfold M_law_turned_about
  refine pc_bind (pc_ints 8 d h.ib) fun ns hn => pc_cbA fun t4 => pc_ite (fun _ => ?_) fun _ => pc_ite (fun _ => ?_) fun _ => ?_
  · refine pc_cb (P := fun t : Int × Sta => t.1.natAbs < 2 ^ b) (pc_any fun t7 => pc_bind (pc_idx hn) fun c hc => pc_ok hc) fun t5 h5 => pc_cb (P := fun t : Int × Sta => t.1.natAbs < 2 ^ (b + 1)) (pc_ite (fun _ => pc_ok (by show (t5.1 + 1).natAbs < _; omega)) fun _ => pc_any fun t10 => pc_bind (pc_idx hn) fun c hc => pc_ok (by show c.natAbs < _; omega)) fun t8 h8 => ?_
    refine pc_bind (pc_exch (b := b + 1) 8 d t5.1 t8.1 (ib_mono (by omega) h.ib) (by omega) h8) fun a ⟨i, z⟩ => pc_ok ⟨i, ?_⟩
    have := h.sz
    show sz a ≤ 60 * B
    omega
  · refine pc_cb (P := fun t : D × Sta => Sq (b + 1) (60 * B) t.1) (pc_bind (P := fun t : D × Sta => Sq b B t.1) (pc_bind (pc_cut hd) fun a ha => pc_ok ha) fun t19 h19 => pc_bind (P := fun t : D × Sta => Sb b (58 * B) t.1 ∧ (∀ i, t.1 ≠ .int i)) (pc_any fun t => pc_ite (fun _ => ?_) fun _ => ?_) fun t20 h20 => pc_bind (pc_add h19 (⟨h20.1, h20.2⟩ : Sq b (58 * B) t20.1)) fun c hc => pc_ok (hc.mono (by omega) (by omega))) fun t ht => pc_ok ht.toSb
    · refine pc_bind (pc_cut hd) fun y hy => ?_
      have e := pc_cutL 8 y t.2 hy.ib
      have ni : Pc (M_law_cut 8 y t.2) fun t => ∀ i, t.1 ≠ .int i := pc_cutNi hy.ni
      intro a ea
      have h1 := e a ea
      have h2 := hy.sz
      exact ⟨⟨h1.1, by have := h1.2; omega⟩, ni a ea⟩
    · refine pc_bind (P := fun t : (List D) × Sta => ibA b t.1 ∧ szA t.1 ≤ 48 * szAt d) (pc_bind (P := fun t : (List D) × Sta => ibA b t.1 ∧ szA t.1 ≤ 48 * szAt d) (pc_bind (P := fun t : (List D) × Sta => ibA b t.1 ∧ szA t.1 ≤ szAt d) (pc_bind (P := fun l : List D => ibA b l ∧ szA l ≤ szAt d) (pc_bind (P := fun r : D => ∀ l, r = .tuple l → ibA b l ∧ szA l ≤ szAt d) ?_ fun a ha => ?_) fun a ha => pc_ok ha) fun t ht => ?_) fun t ht => pc_ok ht) fun t ht => pc_ok ?_
      · intro a e l el
        subst el
        cases d with
        | tuple xs =>
          cases e
          exact ⟨ibA_iff.mpr fun x hx => ibA_iff.mp h.ib x (mem_cut hx), szA_sub (cut_sub _ _ _)⟩
        | str x =>
          replace e : (if x.length ≤ sizeLine then R.ok (PyData.str (cutS x _ _)) else .bad) = R.ok (PyData.tuple l) := e
          split at e <;> cases e
        | _ => cases e
      · cases a with
        | tuple xs => rw [dec_tuple]; exact pc_ok (ha xs rfl)
        | _ => exact pc_bad
      · refine pc_mono (pc_mapMSz (b := b) (C := 48) fun x hx s => pc_mono (pc_cutL 8 x s (ibA_iff.mp ht.1 x hx)) fun r ⟨a, c⟩ => ⟨a, by have := sz_pos x; omega⟩) fun r ⟨a, c⟩ => ⟨a, Nat.le_trans c (Nat.mul_le_mul_left _ ht.2)⟩
      · rw [eT_id]
        have hs : szAt d ≤ B := by
          have := h.sz
          cases d <;> simp only [szAt, sz] at * <;> omega
        refine ⟨⟨ht.1, ?_⟩, nofun⟩
        have := ht.2
        simp only [sz]
        omega
  · refine pc_cbA fun t23 => pc_any fun t => pc_ite (fun _ => pc_cbA fun t35 => ?_) fun _ => ?_
    · refine pc_bind (P := Sb (b + 1) (60 * B)) (pc_bind (P := fun l : List D => ∃ x y, l = [x, y] ∧ Sb b B x ∧ Sb b (3 * B) y) (pc_bind (pc_idxD hd) fun y49 h49 => pc_bind (P := Sq b (3 * B)) (pc_bind (P := Sq b (2 * B)) (pc_bind (pc_bind (pc_idxD hd) fun y hy => pc_cut hy) fun y44 h44 => pc_bind (pc_bind (pc_idxD hd) fun y hy => pc_cut hy) fun y45 h45 => pc_mono (pc_add h44 h45) fun r hr => hr.mono (Nat.le_refl _) (by omega)) fun y47 h47 => pc_bind (pc_bind (pc_idxD hd) fun y hy => pc_cut hy) fun y48 h48 => pc_mono (pc_add h47 h48) fun r hr => hr.mono (Nat.le_refl _) (by omega)) fun y50 h50 => pc_ok ⟨_, _, rfl, h49, h50.toSb⟩) fun l ⟨x, y, e, hx, hy⟩ => pc_ok (by rw [e]; exact (sq_two hx hy).toSb.mono (by omega) (by omega))) fun a ha => pc_ok ha
    · refine pc_bind (P := Sb (b + 1) (60 * B)) (pc_ite (fun _ => pc_bind (P := Sq b (2 * B)) (pc_bind (pc_cut hd) fun y51 h51 => pc_bind (pc_cut hd) fun y52 h52 => pc_mono (pc_add h51 h52) fun r hr => hr.mono (Nat.le_refl _) (by omega)) fun y53 h53 => pc_bind (pc_cut hd) fun y54 h54 => pc_mono (pc_add h53 h54) fun r hr => hr.toSb.mono (by omega) (by omega)) fun _ => pc_ok (h.mono (by omega) (by omega))) fun a ha => pc_ok ha
end Cw
namespace Cw
open PySem PySem.Spec PyProof.Rows L2
theorem pw (h : (2 : Nat) ^ 64 + 1 ≤ 2 ^ 70 ∧ 2 * 2 ^ 64 < 2 ^ 70 := by decide) : True := trivial
theorem pc_pick {B : Nat} {m : R (List D)} {f : List D → Sta → R (D × Sta)} {s : Sta} (h : Pc m fun l => ∀ x ∈ l, Sb 80 B x) (k : ∀ l s, (∀ x ∈ l, Sb 80 B x) → Pc (f l s) fun t => Sb 80 B t.1) :
    Pc (((m.bind fun a => R.ok (a, s)).bind fun (t : (List D) × Sta) => f t.1 t.2).cb fun t => R.ok t) fun t => Sb 80 B t.1 :=
  pc_cb (P := fun t : D × Sta => Sb 80 B t.1) (pc_bind (P := fun t : (List D) × Sta => ∀ x ∈ t.1, Sb 80 B x) (pc_bind h fun a ha => pc_ok ha) fun t ht => k _ _ ht) fun t ht => pc_ok ht
theorem pc_orI {d : D} {c : Int} (h : ib 64 d) (hc : c.natAbs < 2 ^ 64) : Pc (((truD d).bind fun t => if t then R.ok d else (R.ok (eI c))).bind fun a => R.ofOpt (dI.dec a)) fun i => i.natAbs < 2 ^ 64 :=
  pc_bind (P := fun a : D => ib 64 a) (pc_any fun t => pc_ite (fun _ => pc_ok h) fun _ => pc_ok hc) fun a ha => pc_decI (B := sz a) ⟨ha, Nat.le_refl _⟩
theorem pc_changed : ∀ (n : Nat) (d : D) (s : Sta) {B : Nat}, Sb 64 B d → Pc (M_law_changed n d s) fun t => Sb 80 ((2 * n + 6) * B + 30 * n + 2000) t.1
  | 0, _, _, _, _ => pc_bad
  | n + 1, d, s, B, h => by
    have p : 10 ≤ B := Nat.le_trans (sz_pos d) h.sz
    have ex : (2 * (n + 1) + 6) * B = (2 * n + 6) * B + 2 * B := by rw [← Nat.add_mul]; congr 1
    have ex0 : 6 * B ≤ (2 * n + 6) * B := Nat.mul_le_mul_right _ (by omega)
    have small : ∀ {x : D}, Sb 80 1000 x → Sb 80 ((2 * (n + 1) + 6) * B + 30 * (n + 1) + 2000) x := fun h => h.mono (Nat.le_refl _) (by omega)
    have mid : ∀ {x : D}, Sb 80 (6 * B + 400) x → Sb 80 ((2 * (n + 1) + 6) * B + 30 * (n + 1) + 2000) x := fun h => h.mono (Nat.le_refl _) (by omega)
    have hd := h
    show Pc (M_law_changed_step (M_law_changed n) d s) _
    unfold M_law_changed_step
    refine pc_ite (fun c => ?_) fun _ => pc_ite (fun c => ?_) fun _ => pc_ite (fun c => ?_) fun _ => ?_
    · refine pc_mono (pc_pick (B := 1000) (f := fun l s => (M_law_next (2 : Int) s).bind fun (t_9 : Int × Sta) => (idx l t_9.1).bind fun c => R.ok (c, t_9.2)) ?_ fun l s hl => pc_any fun t => pc_bind (pc_idx hl) fun c hc => pc_ok hc) fun t ht => small ht
      refine pc_bind (P := Sb 80 1000) (pc_any fun y => pc_ok (sb_bool.mono (Nat.le_refl _) (by decide))) fun y4 h4 => pc_bind (P := Sb 80 1000) (pc_bind (P := fun i : Int => i.natAbs < 2 ^ 80) ?_ fun i hi => pc_ok ((sb_int hi).mono (Nat.le_refl _) (by decide))) fun y5 h5 => pc_ok (all_cons h4 (all_cons h5 all_nil))
      cases d with
      | bool x => cases x <;> exact pc_ok (by decide)
      | _ => cases c
    · refine pc_mono (pc_pick (B := 1000) (f := fun l s => (M_law_next (7 : Int) s).bind fun (t_9 : Int × Sta) => (idx l t_9.1).bind fun c => R.ok (c, t_9.2)) ?_ fun l s hl => pc_any fun t => pc_bind (pc_idx hl) fun c hc => pc_ok hc) fun t ht => small ht
      have si : ∀ {i : Int}, i.natAbs < 2 ^ 80 → Sb 80 1000 (eI i) := fun hi => (sb_int hi).mono (Nat.le_refl _) (by decide)
      have pw1 : (2 : Nat) ^ 64 + 1 ≤ 2 ^ 80 := by decide
      have pw2 : 2 * (2 : Nat) ^ 64 ≤ 2 ^ 80 := by decide
      refine pc_seq (all_cons ?_ (all_cons ?_ (all_cons ?_ (all_cons ?_ (all_cons ?_ (all_cons ?_ (all_cons ?_ all_nil)))))))
      · exact pc_bind (P := fun i : Int => i.natAbs < 2 ^ 80) (pc_bind (pc_orI h.ib (by decide)) fun i hi => pc_ok (by omega)) fun i hi => pc_ok (si hi)
      · exact pc_bind (P := fun i : Int => i.natAbs < 2 ^ 80) (pc_bind (pc_orI h.ib (by decide)) fun i hi => pc_ok (by omega)) fun i hi => pc_ok (si hi)
      · exact pc_ok (si (by decide))
      · exact pc_ok (sb_non.mono (Nat.le_refl _) (by decide))
      · exact pc_any fun y => pc_ok (sb_bool.mono (Nat.le_refl _) (by decide))
      · exact pc_strD h.ib
      · exact pc_bind (P := fun i : Int => i.natAbs < 2 ^ 80) (pc_bind (pc_orI h.ib (by decide)) fun i hi => pc_ok (by omega)) fun i hi => pc_ok (si hi)
    · have hq : Sq 64 B d := ⟨h, fun i e => by subst e; cases c⟩
      have z1 : ("a" : Str).cps.size = 1 := by decide
      have z2 : ("b" : Str).cps.size = 1 := by decide
      have z3 : ("" : Str).cps.size = 0 := by decide
      have z4 : ("left" : Str).cps.size = 4 := by decide
      have z5 : ("in" : Str).cps.size = 2 := by decide
      refine pc_bind (P := fun l : List D => ∀ x ∈ l, Sb 80 (6 * B + 400) x) (pc_seq (all_cons ?_ (all_cons ?_ (all_cons ?_ (all_cons ?_ (all_cons ?_ (all_cons ?_ (all_cons ?_ (all_cons ?_ (all_cons ?_ all_nil)))))))))) fun l hl => pc_cb (P := fun t : D × Sta => Sb 80 (6 * B + 400) t.1) (pc_any fun t => pc_bind (pc_idx hl) fun c hc => pc_ok hc) fun t ht => pc_ok (mid ht)
      · exact pc_mono (pc_cut hd) fun r hr => hr.toSb.mono (by decide) (by omega)
      · exact pc_mono (pc_add hq (sq_str "a")) fun r hr => hr.toSb.mono (by decide) (by omega)
      · exact pc_mono (pc_rev hd) fun r hr => hr.toSb.mono (by decide) (by omega)
      · exact pc_mono (pc_add (sq_str "b") hq) fun r hr => hr.toSb.mono (by decide) (by omega)
      · exact pc_ok ⟨trivial, by show 10 + 20 * ("" : Str).cps.size ≤ _; omega⟩
      · exact pc_mono (pc_cut hd) fun r hr => hr.toSb.mono (by decide) (by omega)
      · exact pc_ok ⟨trivial, by show 10 + 20 * ("left" : Str).cps.size ≤ _; omega⟩
      · exact pc_ok ((sb_int (b := 80) (i := 3) (by decide)).mono (Nat.le_refl _) (by omega))
      · exact pc_ok ⟨trivial, by show 10 + 20 * ("in" : Str).cps.size ≤ _; omega⟩
    · unfold R.cbIf
      refine pc_cbA fun t => pc_ite (fun _ => pc_cbA fun t22 => ?_) fun _ => pc_ite (fun _ => pc_ok ?_) fun _ => pc_cbA fun t41 => pc_cbA fun t45 => ?_
      · refine pc_cb (P := fun t : D × Sta => Sq 80 (B + ((2 * n + 6) * B + 30 * n + 2000 + 12) + B) t.1) (pc_bind (P := fun t : D × Sta => Sq 80 (B + ((2 * n + 6) * B + 30 * n + 2000 + 12)) t.1) (pc_bind (P := fun t : D × Sta => Sq 80 B t.1) (pc_bind (pc_cut hd) fun a ha => pc_ok (ha.mono (by decide) (Nat.le_refl _))) fun t18 h18 => pc_bind (P := fun t : D × Sta => Sq 80 ((2 * n + 6) * B + 30 * n + 2000 + 12) t.1) (pc_bind (P := fun t : (List D) × Sta => ∃ x, t.1 = [x] ∧ Sb 80 ((2 * n + 6) * B + 30 * n + 2000) x) (pc_bind (P := fun t : (D × Unit) × Sta => Sb 80 ((2 * n + 6) * B + 30 * n + 2000) t.1.1) (pc_bind (P := fun t : D × Sta => Sb 80 ((2 * n + 6) * B + 30 * n + 2000) t.1) (pc_bind (pc_idxD hd) fun y hy => pc_changed n y t18.2 hy) fun t20 h20 => pc_any fun u => pc_ok h20) fun t h => pc_ok ⟨_, rfl, h⟩) fun t ⟨x, e, h⟩ => pc_ok (by
          show Sq 80 _ ((eT eD) t.1)
          rw [e]
          exact sq_one h)) fun t19 h19 => pc_bind (pc_add h18 h19) fun c hc => pc_ok hc) fun t17 h17 => pc_bind (P := fun t : D × Sta => Sq 80 B t.1) (pc_bind (pc_cut hd) fun a ha => pc_ok (ha.mono (by decide) (Nat.le_refl _))) fun t23 h23 => pc_bind (pc_add h17 h23) fun c hc => pc_ok hc) fun t ht => pc_ok (ht.toSb.mono (Nat.le_refl _) (by omega))
      · exact small (sq_nil.toSb.mono (Nat.le_refl _) (by decide))
      · have lift : ∀ {x : D} {k : Nat}, Sq 64 k x → k ≤ 6 * B + 400 → Sb 80 (6 * B + 400) x := fun h k => h.toSb.mono (by decide) k
        have notI : Pc (revD d) (Sq 64 B) := pc_rev hd
        refine pc_bind (P := fun l : List D => ∀ x ∈ l, Sb 80 (6 * B + 400) x) (pc_seq (all_cons ?_ (all_cons ?_ (all_cons ?_ (all_cons ?_ (all_cons ?_ (all_cons ?_ (all_cons ?_ (all_cons ?_ all_nil))))))))) fun more hm => pc_bind (P := fun l : List D => ∀ x ∈ l, Sb 80 (6 * B + 400) x) (pc_any fun t => pc_ite (fun _ => pc_bind (P := fun l : List D => ∀ x ∈ l, Sb 80 (6 * B + 400) x) (pc_bind (P := fun l : List D => ∀ x ∈ l, Sb 80 (6 * B + 400) x) (pc_mapM fun x _ => ?_) fun y65 h65 => pc_catR hm h65) fun m h => pc_ok h) fun _ => pc_ok hm) fun l hl => pc_cb (P := fun t : D × Sta => Sb 80 (6 * B + 400) t.1) (pc_any fun t => pc_bind (pc_idx hl) fun c hc => pc_ok hc) fun t ht => pc_ok (mid ht)
        · exact pc_bind (pc_cut hd) fun a ha => pc_bind (pc_cut hd) fun b hb => pc_mono (pc_add ha hb) fun r hr => lift hr (by omega)
        · cases d with
          | int i => exact pc_bad
          | _ => exact pc_bind (pc_cut hd) fun a ha => pc_mono (pc_add (⟨hd, nofun⟩ : Sq 64 B _) ha) fun r hr => lift hr (by omega)
        · exact pc_mono (pc_rev hd) fun r hr => lift hr (by omega)
        · exact pc_bind (pc_cut hd) fun a ha => pc_bind (pc_cut hd) fun b hb => pc_mono (pc_add ha hb) fun r hr => lift hr (by omega)
        · exact pc_mono (pc_lst hd) fun r hr => hr.mono (by decide) (by omega)
        · exact pc_mono (pc_cut hd) fun r hr => lift hr (by omega)
        · exact pc_ok (lift sq_nil (by omega))
        · have z : Sq 64 60 ((eT eI) ([(0 : Int)])) := ⟨⟨⟨by show (0 : Int).natAbs < 2 ^ 64; decide, trivial⟩, by decide⟩, nofun⟩
          cases d with
          | int i => exact pc_bad
          | _ => exact pc_mono (pc_add (⟨hd, nofun⟩ : Sq 64 B _) z) fun r hr => lift hr (by omega)
        · exact pc_bind (P := Sq 64 (4 * B)) (pc_bind (P := Sq 64 (3 * B)) (pc_bind (P := Sq 64 (2 * B)) (pc_bind (pc_cut hd) fun a ha => pc_bind (pc_cut hd) fun b hb => pc_mono (pc_add ha hb) fun r hr => hr.mono (Nat.le_refl _) (by omega)) fun a ha => pc_bind (pc_cut hd) fun b hb => pc_mono (pc_add ha hb) fun r hr => hr.mono (Nat.le_refl _) (by omega)) fun a ha => pc_bind (pc_cut hd) fun b hb => pc_mono (pc_add ha hb) fun r hr => hr.mono (Nat.le_refl _) (by omega)) fun a ha => pc_bind (pc_cut hd) fun b hb => pc_mono (pc_add ha hb) fun r hr => lift hr (by omega)
/-- what is asked -/
theorem pc_oddS {d : D} {s : Sta} {B : Nat} (h : Sb 64 B d) (ni : ∀ i, d ≠ .int i) : Pc (M_law_odd d s) fun t => Sb 80 (60 * B + 3000) t.1 := by
  have p : 10 ≤ B := Nat.le_trans (sz_pos d) h.sz
  have hq : Sq 64 B d := ⟨h, ni⟩
  have lift : ∀ {x : D} {k : Nat}, Sq 64 k x → k ≤ 60 * B + 3000 → Sb 80 (60 * B + 3000) x := fun h k => h.toSb.mono (by decide) k
  have z1 : ("" : Str).cps.size = 0 := by decide
  have z2 : ("yes" : Str).cps.size = 3 := by decide
  have z : Sq 64 60 ((eT eI) ([(0 : Int)])) := ⟨⟨⟨by show (0 : Int).natAbs < 2 ^ 64; decide, trivial⟩, by decide⟩, nofun⟩
  have y : Sq 64 300 ((eT eS) ([("none such" : Str)])) := ⟨⟨⟨trivial, trivial⟩, by decide⟩, nofun⟩
  unfold M_law_odd
  refine pc_bind (P := fun l : List D => ∀ x ∈ l, Sb 80 (60 * B + 3000) x) (pc_seq (all_cons ?_ (all_cons ?_ (all_cons ?_ (all_cons ?_ (all_cons ?_ (all_cons ?_ (all_cons ?_ (all_cons ?_ (all_cons ?_ (all_cons ?_ (all_cons ?_ all_nil)))))))))))) fun l hl => pc_cbA fun t10 => pc_ite (fun _ => pc_cb (P := fun t : D × Sta => Sb 80 (60 * B + 3000) t.1) (pc_mono (pc_turned h (by decide)) fun t ht => ht.mono (by decide) (by omega)) fun t ht => pc_ok ht) fun _ => pc_cb (P := fun t : D × Sta => Sb 80 (60 * B + 3000) t.1) (pc_ite (fun _ => pc_any fun t => pc_bind (pc_idx hl) fun c hc => pc_ok hc) fun _ => pc_mono (pc_changed 8 d _ h) fun t ht => ht.mono (Nat.le_refl _) (by omega)) fun t ht => pc_ok ht
  · exact pc_ok (sb_non.mono (Nat.le_refl _) (by omega))
  · exact pc_ok (lift (sq_str "") (by omega))
  · exact pc_ok (lift (sq_str "yes") (by omega))
  · exact pc_ok ⟨rfl, by show 10 ≤ _; omega⟩
  · exact pc_ok (lift sq_nil (by omega))
  · exact pc_mono (pc_cut h) fun r hr => lift hr (by omega)
  · exact pc_mono (pc_lst h) fun r hr => hr.mono (by decide) (by omega)
  · exact pc_mono (pc_add hq z) fun r hr => lift hr (by omega)
  · refine pc_bind (P := Sq 64 (B + 24)) (pc_bind (P := fun l : List (List D) => ∃ x, l = [[x]] ∧ Sb 64 B x) (pc_bind (P := fun l : List D => ∃ x, l = [x] ∧ Sb 64 B x) (pc_bind (pc_idxD h) fun y hy => pc_ok ⟨_, rfl, hy⟩) fun l ⟨x, e, hx⟩ => pc_ok ⟨x, by rw [e], hx⟩) fun l ⟨x, e, hx⟩ => pc_ok (by
      rw [e]
      have := hx.sz
      refine ⟨⟨⟨⟨hx.ib, trivial⟩, trivial⟩, ?_⟩, nofun⟩
      show 10 + (10 + (sz x + 2 + 0) + 2 + 0) ≤ B + 24
      omega)) fun y6 h6 => pc_bind (pc_cut h) fun y7 h7 => pc_mono (pc_add h6 h7) fun r hr => lift hr (by omega)
  · exact pc_bind (pc_cut h) fun y8 h8 => pc_mono (pc_add y h8) fun r hr => lift hr (by omega)
  · exact pc_ok ((sb_int (b := 80) (i := 7) (by decide)).mono (Nat.le_refl _) (by omega))
end Cw
namespace Cw
open PySem PySem.Spec PyProof.Rows L2
variable {α β τ : Type}
/-! ## each question's part of a turn, what is asked being small -/
def AskS (d : D) : Prop := Asked 8 d ∧ Sb 80 12000000 d
structure ToldS (d : D) : Prop where
  t : Told d
  s : Sb 64 150000 d
abbrev SeenS (xs : List D) : Prop := xs.length ≤ 5 ∧ ∀ d ∈ xs, AskS d
theorem hs_pc {m : R α} {P Q : α → Prop} (h : Hs m P) (k : Pc m Q) : Hs m fun a => P a ∧ Q a := by
  obtain ⟨a, e, p⟩ := hs_iff.mp h
  exact hs_iff.mpr ⟨a, e, p, k a e⟩
theorem ToldS.odd {d : D} (h : ToldS d) (s : Sta) (g : Good s) : Hs (M_law_odd d s) fun t => AskS t.1 ∧ Good t.2 := by
  have ni : ∀ i, d ≠ .int i := fun i e => by
    obtain ⟨x, xs, k⟩ := h.t.ne
    rw [e] at k
    cases k
  exact hs_mono (hs_pc (h.t.odd s g) (pc_oddS h.s ni)) fun t ⟨⟨a, g⟩, k⟩ => ⟨⟨a, k.mono (Nat.le_refl _) (by decide)⟩, g⟩
theorem ToldS.asked {d : D} (h : ToldS d) : AskS d := ⟨h.t.asked, h.s.mono (by decide) (by decide)⟩
/-- what is asked of a judge, and of the law's own look -/
theorem look_okS {c : Nat} {told : D} {seen : List D} {J A : D → R Bool} {P : D → Prop} {K : Sta → R Bool} {s : Sta} (hc : c ≤ 1000) (ho : ∀ s, Good s → Hs (M_law_odd told s) fun t => AskS t.1 ∧ Good t.2)
    (hl : seen.length ≤ 100) (hd : ∀ d ∈ seen, AskS d) (hJ : ∀ d, AskS d → Hs (J d) fun b => b = true ↔ P d) (hA : ∀ d, AskS d → Hs (A d) fun b => b = true ↔ P d) (hs : Good s) (hK : ∀ s, Good s → Hs (K s) fun b => b = true) :
    Hs ((rng1 ((c : Int) + (seen.length : Int))).bind fun (y_25 : (List Int)) => (forK (fun (k_18 : Int) (t_17 : Sta) (nx_20 : Sta → R Bool) => ((if (decide ((k_18) < (c : Int))) then (M_law_odd told (t_17)) else ((idx (seen) ((k_18) - (c : Int))).bind fun a => R.ok (a, (t_17)))).cb fun (t_22 : (D × Sta)) => (((((J (t_22.1)).bind fun a => R.ok (eB a)).bind fun (y_23 : D) => ((A (t_22.1)).bind fun a => R.ok (eB a)).bind fun (y_24 : D) => (M_law_same 8 y_23 y_24)).bind fun c => R.ok (!c)).bind fun t => if t then R.ok (false) else nx_20 t_22.2))) (fun (t_19 : Sta) => K t_19) y_25 s)) fun b => b = true := by
  rw [rng1_cast (n := c + seen.length) (by omega) (by omega), R.bind_ok]
  refine hs_forK (I := Good) (fun k hk t nx g hn => ?_) hK hs
  obtain ⟨k0, k1⟩ := mem_rng.mp hk
  refine hs_cb (P := fun (t : D × Sta) => AskS t.1 ∧ Good t.2) (hs_ite (fun _ => ho t g) fun h => ?_) fun u ⟨a, g⟩ => ?_
  · have : ¬ k < c := by simpa using h
    exact hs_bind (hs_idx (by omega) (by omega)) fun d hd2 => ⟨hd d hd2.1, g⟩
  · obtain ⟨b1, q1, r1⟩ := hs_iff.mp (hJ u.1 a)
    obtain ⟨b2, q2, r2⟩ := hs_iff.mp (hA u.1 a)
    have e : b1 = b2 := by
      rw [Bool.eq_iff_iff, r1, r2]
    rw [q1, q2, R.bind_ok, R.bind_ok, R.bind_ok, R.bind_ok, show M_law_same 8 (eB b1) (eB b2) = .ok (b1 == b2) from same_bool b1 b2, R.bind_ok, R.bind_ok, e]
    refine hs_no (by cases b2 <;> decide) (hn _ g)
/-- the rows that were seen -/
theorem seen_okS {seen : List D} {told near : D} {f : List D → R Bool} (hl : seen.length ≤ 5) (hd : ∀ d ∈ seen, AskS d) (ht : AskS told) (hn : AskS near) (k : ∀ xs : List D, xs.length ≤ 5 → (∀ d ∈ xs, AskS d) → Hs (f xs) fun b => b = true) :
    Hs ((catR (cut (seen) (some (-(3 : Int))) none) ([told, near])).bind f) fun b => b = true := by
  have h3 : (cut seen (some (-(3 : Int))) none).length ≤ 3 := by
    unfold cut
    rw [List.length_take, List.length_drop]
    have e : HT.sIx seen.length 0 (some (-3)) = seen.length - 3 := by
      unfold HT.sIx
      dsimp only
      rw [if_pos (by decide)]
      omega
    rw [HT.sIx_none, e]
    omega
  unfold catR
  rw [if_pos (by rw [line]; simp only [List.length_cons, List.length_nil]; omega), R.bind_ok]
  refine k _ (by simp only [List.length_append, List.length_cons, List.length_nil]; omega) fun d h => ?_
  rcases List.mem_append.mp h with h | h
  · exact hd d (mem_cut h)
  · rcases List.mem_cons.mp h with rfl | h
    · exact ht
    · rw [List.mem_singleton.mp h]; exact hn
/-- J and A look for P -/
structure BothS (J A : D → R Bool) (P : D → Prop) : Prop where
  j : ∀ d, AskS d → Hs (J d) fun b => b = true ↔ P d
  a : ∀ d, AskS d → Hs (A d) fun b => b = true ↔ P d
theorem BothS.one {J A : D → R Bool} {P : D → Prop} (h : BothS J A P) {d : D} (hd : AskS d) (p : P d) : J d = .ok true ∧ A d = .ok true := by
  obtain ⟨c1, q1, r1⟩ := hs_iff.mp (h.j d hd)
  obtain ⟨c2, q2, r2⟩ := hs_iff.mp (h.a d hd)
  rw [q1, q2, r1.mpr p, r2.mpr p]
  exact ⟨rfl, rfl⟩
theorem tail_okS {c : Nat} {told near : D} {seen : List D} {J A : D → R Bool} {P : D → Prop} {K : Sta → List D → R Bool} {s : Sta} (hc : c ≤ 1000) (ht : ToldS told) (hn : AskS near) (hs : SeenS seen) (hB : BothS J A P) (g : Good s)
    (hK : ∀ s xs, Good s → SeenS xs → Hs (K s xs) fun b => b = true) :
    Hs ((catR (cut (seen) (some (-(3 : Int))) none) ([told, near])).bind fun (seen_16 : List D) => (rng1 ((c : Int) + (seen_16.length : Int))).bind fun (y_25 : (List Int)) => (forK (fun (k_18 : Int) (t_17 : Sta) (nx_20 : Sta → R Bool) => ((if (decide ((k_18) < (c : Int))) then (M_law_odd told (t_17)) else ((idx (seen_16) ((k_18) - (c : Int))).bind fun a => R.ok (a, (t_17)))).cb fun (t_22 : (D × Sta)) => (((((J (t_22.1)).bind fun a => R.ok (eB a)).bind fun (y_23 : D) => ((A (t_22.1)).bind fun a => R.ok (eB a)).bind fun (y_24 : D) => (M_law_same 8 y_23 y_24)).bind fun c => R.ok (!c)).bind fun t => if t then R.ok (false) else nx_20 t_22.2))) (fun (t_19 : Sta) => K t_19 seen_16) y_25 s)) fun b => b = true :=
  seen_okS hs.1 hs.2 ht.asked hn fun xs xl xd => look_okS (c := c) (told := told) (J := J) (A := A) (P := P) (K := fun s => K s xs) hc (fun s g => ht.odd s g) (by omega) xd hB.j hB.a g fun s g => hK s xs g ⟨xl, xd⟩
/-- one question's part of a turn -/
theorem part_okS {β : Type} {enc : β → D} {m : R β} {t0 : β} {near : Sta → R (D × Sta)} {c : Nat} {seen : List D} {J A : D → R Bool} {P : D → Prop} {U : R Bool} {K : Sta → List D → R Bool} {s : Sta} (hm : m = .ok t0) (hc : c ≤ 1000) (ht : ToldS (enc t0))
    (hn : ∀ s, Good s → Hs (near s) fun t => AskS t.1 ∧ Good t.2) (hs : SeenS seen) (hB : BothS J A P) (hp : P (enc t0)) (hU : U = .ok false) (g : Good s) (hK : ∀ s xs, Good s → SeenS xs → Hs (K s xs) fun b => b = true) :
    Hs (m.bind fun (told : β) => (near s).cb fun (t_14 : (D × Sta)) => ((((A (enc told)).bind fun c => R.ok (!c)).bind fun c => if c then R.ok true else ((J (enc told)).bind fun (y_15 : Bool) => R.ok (!decide (y_15 = (true))))).bind fun t => if t then R.ok (false) else (U.bind fun t => if t then R.ok (false) else
      ((catR (cut (seen) (some (-(3 : Int))) none) ([enc told, t_14.1])).bind fun (seen_16 : List D) => (rng1 ((c : Int) + (seen_16.length : Int))).bind fun (y_25 : (List Int)) => (forK (fun (k_18 : Int) (t_17 : Sta) (nx_20 : Sta → R Bool) => ((if (decide ((k_18) < (c : Int))) then (M_law_odd (enc told) (t_17)) else ((idx (seen_16) ((k_18) - (c : Int))).bind fun a => R.ok (a, (t_17)))).cb fun (t_22 : (D × Sta)) => (((((J (t_22.1)).bind fun a => R.ok (eB a)).bind fun (y_23 : D) => ((A (t_22.1)).bind fun a => R.ok (eB a)).bind fun (y_24 : D) => (M_law_same 8 y_23 y_24)).bind fun c => R.ok (!c)).bind fun t => if t then R.ok (false) else nx_20 t_22.2))) (fun (t_19 : Sta) => K t_19 seen_16) y_25 t_14.2))))) fun b => b = true := by
  subst hm hU
  rw [R.bind_ok]
  refine hs_cb (hn s g) fun t ⟨a, g⟩ => ?_
  obtain ⟨q1, q2⟩ := hB.one ht.asked hp
  rw [q1, q2]
  exact tail_okS hc ht a hs hB g hK
/-- .. where nothing is refused -/
theorem part_okS' {β : Type} {enc : β → D} {m : R β} {t0 : β} {near : Sta → R (D × Sta)} {c : Nat} {seen : List D} {J A : D → R Bool} {P : D → Prop} {K : Sta → List D → R Bool} {s : Sta} (hm : m = .ok t0) (hc : c ≤ 1000) (ht : ToldS (enc t0))
    (hn : ∀ s, Good s → Hs (near s) fun t => AskS t.1 ∧ Good t.2) (hs : SeenS seen) (hB : BothS J A P) (hp : P (enc t0)) (g : Good s) (hK : ∀ s xs, Good s → SeenS xs → Hs (K s xs) fun b => b = true) :
    Hs (m.bind fun (told : β) => (near s).cb fun (t_14 : (D × Sta)) => ((((A (enc told)).bind fun c => R.ok (!c)).bind fun c => if c then R.ok true else ((J (enc told)).bind fun (y_15 : Bool) => R.ok (!decide (y_15 = (true))))).bind fun t => if t then R.ok (false) else 
      ((catR (cut (seen) (some (-(3 : Int))) none) ([enc told, t_14.1])).bind fun (seen_16 : List D) => (rng1 ((c : Int) + (seen_16.length : Int))).bind fun (y_25 : (List Int)) => (forK (fun (k_18 : Int) (t_17 : Sta) (nx_20 : Sta → R Bool) => ((if (decide ((k_18) < (c : Int))) then (M_law_odd (enc told) (t_17)) else ((idx (seen_16) ((k_18) - (c : Int))).bind fun a => R.ok (a, (t_17)))).cb fun (t_22 : (D × Sta)) => (((((J (t_22.1)).bind fun a => R.ok (eB a)).bind fun (y_23 : D) => ((A (t_22.1)).bind fun a => R.ok (eB a)).bind fun (y_24 : D) => (M_law_same 8 y_23 y_24)).bind fun c => R.ok (!c)).bind fun t => if t then R.ok (false) else nx_20 t_22.2))) (fun (t_19 : Sta) => K t_19 seen_16) y_25 t_14.2)))) fun b => b = true := by
  subst hm
  rw [R.bind_ok]
  refine hs_cb (hn s g) fun t ⟨a, g⟩ => ?_
  obtain ⟨q1, q2⟩ := hB.one ht.asked hp
  rw [q1, q2]
  exact tail_okS hc ht a hs hB g hK
end Cw
namespace Cw
open PySem PySem.Spec PyProof.Rows L2
/-! ## the text of data: its length; one to one -/
theorem tuple_len : ∀ ts : List Str, (tupleText ts).length ≤ piled ts + 10
  | [] => by decide
  | [x] => by
    show (("(" : Str) ++ Str.join ", " [x] ++ (",)" : String)).length ≤ _
    rw [strLen_append, strLen_append]
    have := join_length_add [x] (by simp)
    have e1 : ((("(" : String)) : Str).length = 1 := by decide
    have e2 : (((",)" : String)) : Str).length = 2 := by decide
    omega
  | x :: y :: r => by
    have h : tupleText (x :: y :: r) = ("(" : Str) ++ Str.join ", " (x :: y :: r) ++ (")" : String) := by
      unfold tupleText
      rw [if_neg (by simp)]
    rw [h, strLen_append, strLen_append]
    have := join_length_add (x :: y :: r) (by simp)
    have e1 : ((("(" : String)) : Str).length = 1 := by decide
    have e2 : (((")" : String)) : Str).length = 1 := by decide
    omega
theorem list_len : ∀ ts : List Str, (listText ts).length ≤ piled ts + 10
  | [] => by decide
  | t :: r => by
    have h := textFrom_length_pos r 1 (("[" : Str) ++ (if (0 : Nat) > 0 then ", " else "" : String) ++ t) (Nat.succ_pos 0)
    have e : ((("[" : Str) ++ (if (0 : Nat) > 0 then ", " else "" : String) ++ t)).length = 1 + t.length := by
      rw [strLen_append, strLen_append]; rfl
    have hX : (listText (t :: r)).length = (textFrom 0 "[" (t :: r)).length + 1 := by
      show (textFrom 0 "[" (t :: r) ++ "]").length = _
      rw [strLen_append]; rfl
    have hY : (textFrom 0 "[" (t :: r)).length = (textFrom 1 (("[" : Str) ++ (if (0 : Nat) > 0 then ", " else "" : String) ++ t) r).length := rfl
    rw [hX, hY, h, e, piled_cons]; omega
theorem int_len {i : Int} (h : i.natAbs < 2 ^ 80) : ((toString i : String) : Str).length ≤ 40 := by
  have h1 : i.natAbs < 10 ^ 30 := Nat.lt_of_lt_of_le h (by decide)
  have h2 := int_text_length_le10 (k := 30) (by decide) h1
  rw [PySem.ofString_length]
  omega
mutual
theorem shown_len : ∀ {d : D}, d.canLay0 = true → ib 80 d → d.shown.length ≤ sz d
  | .none, _, _ => by decide
  | .bool x, _, _ => by cases x <;> decide
  | .int i, _, h => by
    show ((toString i : String) : Str).length ≤ 40
    exact int_len h
  | .str x, cl, _ => by
    show (reprText x).length ≤ 10 + 20 * x.cps.size
    have hx : ∀ c ∈ x.cps.toList, c < 16 ^ 8 := fun c hc => by
      have k : PyData.strOk x = true := by simpa [PyData.canLay0] using cl
      unfold PyData.strOk at k
      rw [Array.all_eq_true_iff_forall_mem] at k
      have := k c (by simpa using hc)
      simp at this
      omega
    have := StrLaws.reprText_len x hx
    have e : x.length = x.cps.size := rfl
    omega
  | .list xs, c, h => by
    show (listText (PyData.shownAll xs)).length ≤ 10 + szA xs
    have := list_len (PyData.shownAll xs)
    have := shownA_len (xs := xs) (by simpa [PyData.canLay0] using c) h
    omega
  | .tuple xs, c, h => by
    show (tupleText (PyData.shownAll xs)).length ≤ 10 + szA xs
    have := tuple_len (PyData.shownAll xs)
    have := shownA_len (xs := xs) (by simpa [PyData.canLay0] using c) h
    omega
  | .dict kvs, _, h => by
    have : kvs = [] := h
    subst this
    decide
theorem shownA_len : ∀ {xs : List D}, PyData.canLayAll0 xs = true → ibA 80 xs → piled (PyData.shownAll xs) ≤ szA xs
  | [], _, _ => by decide
  | x :: xs, c, h => by
    simp only [PyData.canLayAll0, Bool.and_eq_true] at c
    show piled (x.shown :: PyData.shownAll xs) ≤ _
    rw [piled_cons]
    have := shown_len c.1 h.1
    have := shownA_len c.2 h.2
    simp only [szA]
    omega
end
mutual
theorem showable_of : ∀ {d : D}, ib 80 d → d.showable = true
  | .none, _ => rfl
  | .bool x, _ => rfl
  | .int i, h => by
    have h : i.natAbs < 2 ^ 80 := h
    show decide (i.natAbs.log2 < 1920) = true
    rw [decide_eq_true_eq]
    by_cases z : i.natAbs = 0
    · rw [z]; decide
    · have := (Nat.log2_lt z).mpr h
      omega
  | .str x, _ => rfl
  | .list xs, h => showableA_of (xs := xs) h
  | .tuple xs, h => showableA_of (xs := xs) h
  | .dict kvs, h => by
    have : kvs = [] := h
    subst this
    rfl
theorem showableA_of : ∀ {xs : List D}, ibA 80 xs → PyData.showableAll xs = true
  | [], _ => rfl
  | x :: xs, h => by
    show (x.showable && PyData.showableAll xs) = true
    rw [showable_of h.1, showableA_of h.2]
    rfl
end
/-- the text of what is asked is there -/
theorem repr_ok {xs : List D} (h : AskS (.tuple xs)) : reprD (.tuple xs) = .ok (PyData.tuple xs).shown := by
  unfold reprD
  have ad : Ad 8 (.tuple xs) := h.1.resolve_left nofun
  rw [showable_of h.2.ib, ad_shaped ad (by decide)]
  have := shown_len ad.1 h.2.ib
  have := h.2.sz
  rw [if_pos]
  simp only [Bool.true_and, Bool.and_true, decide_eq_true_eq]
  rw [sizeLine_eq]
  omega
end Cw
namespace Cw
open PySem PySem.Spec PyProof.Rows L2
abbrev cl (z : Str) : List Nat := z.cps.toList
theorem cl_app (a b : Str) : cl (a ++ b) = cl a ++ cl b := by
  show (a.cps ++ b.cps).toList = _
  simp
theorem cl_of (s : String) : cl (Str.ofString s) = s.toList.map Char.toNat := by
  unfold cl
  rw [Str.ofString_eq_toList]
def isDn (c : Nat) : Bool := c == 45 || (decide (48 ≤ c) && decide (c ≤ 57))
theorem dig_chars (i : Int) : ∀ c ∈ (toString i : String).toList, c.isDigit = true ∨ c = '-' := by
  intro c hc
  have nat : ∀ n : Nat, ∀ c ∈ (Nat.repr n).toList, c.isDigit = true := fun n c hc => by
    unfold Nat.repr at hc
    rw [String.toList_ofList] at hc
    exact Nat.isDigit_of_mem_toDigits (b := 10) (by decide) (by decide) hc
  cases i with
  | ofNat n => exact .inl (nat n c hc)
  | negSucc n =>
    have e : (toString (Int.negSucc n) : String) = "-" ++ Nat.repr (n + 1) := rfl
    rw [e, String.toList_append] at hc
    rcases List.mem_append.mp hc with hc | hc
    · right
      simpa using hc
    · exact .inl (nat _ c hc)
theorem dig_is (i : Int) : ∀ c ∈ cl (toString i : String), isDn c = true := by
  intro c hc
  rw [cl_of] at hc
  obtain ⟨k, hk, rfl⟩ := List.mem_map.mp hc
  rcases dig_chars i k hk with h | rfl
  · unfold isDn
    simp only [Char.isDigit, Bool.and_eq_true, decide_eq_true_eq] at h
    have h1 : 48 ≤ k.toNat := h.1
    have h2 : k.toNat ≤ 57 := h.2
    simp [h1, h2]
  · decide
theorem nat_inj {m n : Nat} (h : (Nat.repr m).toList = (Nat.repr n).toList) : m = n := by
  unfold Nat.repr at h
  rw [String.toList_ofList, String.toList_ofList] at h
  rw [← Nat.ofDigitChars_toDigits (b := 10) (n := m) (by decide) (by decide), h, Nat.ofDigitChars_toDigits (b := 10) (n := n) (by decide) (by decide)]
theorem no_minus {n : Nat} {r : List Char} (h : (Nat.repr n).toList = '-' :: r) : False := by
  unfold Nat.repr at h
  rw [String.toList_ofList] at h
  have := Nat.isDigit_of_mem_toDigits (b := 10) (c := '-') (n := n) (by decide) (by decide) (by rw [h]; exact List.mem_cons_self)
  revert this; decide
theorem neg_list (n : Nat) : (toString (Int.negSucc n) : String).toList = '-' :: (Nat.repr (n + 1)).toList := by
  have e : (toString (Int.negSucc n) : String) = "-" ++ Nat.repr (n + 1) := rfl
  rw [e, String.toList_append]
  rfl
theorem dig_inj {i j : Int} (h : cl (toString i : String) = cl (toString j : String)) : i = j := by
  rw [cl_of, cl_of] at h
  have h : (toString i : String).toList = (toString j : String).toList := (List.map_inj_right fun a b e => Char.toNat_inj.mp e).mp h
  cases i with
  | ofNat m =>
    cases j with
    | ofNat n => exact congrArg Int.ofNat (nat_inj h)
    | negSucc n =>
      rw [neg_list] at h
      exact (no_minus h).elim
  | negSucc m =>
    cases j with
    | ofNat n =>
      rw [neg_list] at h
      exact (no_minus h.symm).elim
    | negSucc n =>
      rw [neg_list, neg_list] at h
      simp only [List.cons.injEq, true_and] at h
      have := nat_inj h
      congr 1
      omega
theorem dig_ne (i : Int) : cl (toString i : String) ≠ [] := by
  intro h
  rw [cl_of, List.map_eq_nil_iff] at h
  cases i with
  | ofNat n =>
    have e : (toString (Int.ofNat n) : String) = Nat.repr n := rfl
    rw [e] at h
    unfold Nat.repr at h
    rw [String.toList_ofList] at h
    exact Nat.toDigits_ne_nil h
  | negSucc n =>
    have e : (toString (Int.negSucc n) : String) = "-" ++ Nat.repr (n + 1) := rfl
    rw [e, String.toList_append] at h
    simp at h
/-- where a number's text can't go on -/
def Stop (t : List Nat) : Prop := ∀ c r, t = c :: r → isDn c = false
theorem span {a b t u : List Nat} (ha : ∀ c ∈ a, isDn c = true) (hb : ∀ c ∈ b, isDn c = true) (ht : Stop t) (hu : Stop u) (h : a ++ t = b ++ u) : a = b ∧ t = u := by
  induction a generalizing b with
  | nil =>
    cases b with
    | nil => exact ⟨rfl, h⟩
    | cons c b =>
      have := ht c (b ++ u) (by simpa using h)
      rw [hb c List.mem_cons_self] at this
      cases this
  | cons c a ih =>
    cases b with
    | nil =>
      have := hu c (a ++ t) (by simpa using h.symm)
      rw [ha c List.mem_cons_self] at this
      cases this
    | cons d b =>
      simp only [List.cons_append, List.cons.injEq] at h
      obtain ⟨e1, e2⟩ := ih (fun x hx => ha x (List.mem_cons_of_mem _ hx)) (fun x hx => hb x (List.mem_cons_of_mem _ hx)) h.2
      exact ⟨by rw [h.1, e1], e2⟩
/-! ### tuples of numbers, in any others' text -/
mutual
def pl : D → Bool
  | .int _ => true
  | .tuple xs => plA xs
  | _ => false
def plA : List D → Bool
  | [] => true
  | x :: xs => pl x && plA xs
end
/-- behind a part -/
def rst : List D → List Nat
  | [] => [41]
  | y :: r => [44, 32] ++ (cl y.shown ++ rst r)
/-- a tuple's text behind its first sign -/
def inn : List D → List Nat
  | [] => [41]
  | [x] => cl x.shown ++ [44, 41]
  | x :: y :: r => cl x.shown ++ rst (y :: r)
theorem join_rst : ∀ (x : D) (r : List D), cl (Str.join ", " (PyData.shownAll (x :: r))) ++ [41] = cl x.shown ++ rst r
  | x, [] => rfl
  | x, y :: r => by
    have ih := join_rst y r
    show cl (x.shown ++ ", " ++ Str.join ", " (PyData.shownAll (y :: r))) ++ [41] = _
    rw [cl_app, cl_app, List.append_assoc, ih, List.append_assoc]
    rfl
theorem tup_cl (xs : List D) : cl (PyData.tuple xs).shown = 40 :: inn xs := by
  match xs with
  | [] => decide
  | [x] =>
    show cl (("(" : Str) ++ x.shown ++ (",)" : String)) = _
    rw [cl_app, cl_app]
    rfl
  | x :: y :: r =>
    have h : tupleText (PyData.shownAll (x :: y :: r)) = ("(" : Str) ++ Str.join ", " (PyData.shownAll (x :: y :: r)) ++ (")" : String) := by
      unfold tupleText
      rw [if_neg (by simp [PyData.shownAll])]
    show cl (tupleText (PyData.shownAll (x :: y :: r))) = _
    rw [h, cl_app, cl_app, List.append_assoc]
    show 40 :: (cl (Str.join ", " (PyData.shownAll (x :: y :: r))) ++ [41]) = _
    rw [join_rst]
    rfl
theorem text_head : ∀ (ts : List Str) (k : Nat) (acc : Str), ∃ r, cl (textFrom k acc ts) = cl acc ++ r
  | [], k, acc => ⟨[], (List.append_nil _).symm⟩
  | t :: ts, k, acc => by
    obtain ⟨r, e⟩ := text_head ts (k + 1) (acc ++ (if k > 0 then ", " else "" : String) ++ t)
    refine ⟨cl ((if k > 0 then ", " else "" : String) : Str) ++ (cl t ++ r), ?_⟩
    show cl (textFrom (k + 1) _ ts) = _
    rw [e, cl_app, cl_app, List.append_assoc, List.append_assoc]
/-- the first sign of a text -/
theorem head_of (d : D) : (∃ i, d = .int i) ∨ (∃ xs, d = .tuple xs) ∨ ∃ c r, cl d.shown = c :: r ∧ isDn c = false ∧ c ≠ 40 ∧ c ≠ 41 := by
  cases d with
  | int i => exact .inl ⟨i, rfl⟩
  | tuple xs => exact .inr (.inl ⟨xs, rfl⟩)
  | none => exact .inr (.inr ⟨78, _, rfl, by decide, by decide, by decide⟩)
  | bool x =>
    cases x
    · exact .inr (.inr ⟨70, _, rfl, by decide, by decide, by decide⟩)
    · exact .inr (.inr ⟨84, _, rfl, by decide, by decide, by decide⟩)
  | str x =>
    have key : ∀ (q : Nat) (l : List Nat) (acc : Array Nat) (r : List Nat), acc.toList = q :: r → ∃ r', (l.foldl (fun out c => out ++ (Builtin.Str.reprChar q c).toArray) acc).toList = q :: r' := by
      intro q l
      induction l with
      | nil => intro acc r h; exact ⟨r, h⟩
      | cons c l ih =>
        intro acc r h
        exact ih _ (r ++ Builtin.Str.reprChar q c) (by simp [h])
    have h : ∃ r, cl (PyData.str x).shown = reprQuote x :: r := by
      obtain ⟨r, e⟩ := key (reprQuote x) x.cps.toList #[reprQuote x] [] rfl
      refine ⟨r ++ [reprQuote x], ?_⟩
      show ((x.cps.foldl (fun out c => out ++ (Builtin.Str.reprChar (reprQuote x) c).toArray) #[reprQuote x]).push (reprQuote x)).toList = _
      rw [Array.toList_push, ← Array.foldl_toList, e]
      rfl
    obtain ⟨r, e⟩ := h
    have q : reprQuote x = 34 ∨ reprQuote x = 39 := by unfold reprQuote; split <;> simp
    refine .inr (.inr ⟨_, r, e, ?_⟩)
    rcases q with q | q <;> rw [q] <;> decide
  | list xs =>
    obtain ⟨r, e⟩ := text_head (PyData.shownAll xs) 0 "["
    refine .inr (.inr ⟨91, r ++ [93], ?_, by decide, by decide, by decide⟩)
    show cl (textFrom 0 "[" (PyData.shownAll xs) ++ "]") = _
    rw [cl_app, e]
    rfl
  | dict kvs =>
    refine .inr (.inr ⟨123, cl (Str.join ", " (PyData.shownKv kvs)) ++ [125], ?_, by decide, by decide, by decide⟩)
    show cl (("{" : Str) ++ Str.join ", " (PyData.shownKv kvs) ++ "}") = _
    rw [cl_app, cl_app, List.append_assoc]
    rfl
theorem head_pl {d : D} (t : List Nat) : ∀ r, cl d.shown ++ t ≠ 41 :: r := by
  intro r h
  rcases head_of d with ⟨i, rfl⟩ | ⟨xs, rfl⟩ | ⟨c, r', e, _, _, h41⟩
  · have k := dig_is i
    have e : cl (PyData.int i).shown = cl (toString i : String) := rfl
    rw [e] at h
    cases q : cl (toString i : String) with
    | nil => exact dig_ne i q
    | cons c cs =>
      rw [q] at h
      simp only [List.cons_append, List.cons.injEq] at h
      have := k c (by rw [q]; exact List.mem_cons_self)
      rw [h.1] at this
      revert this; decide
  · rw [tup_cl] at h
    simp at h
  · rw [e] at h
    simp only [List.cons_append, List.cons.injEq] at h
    exact h41 h.1
theorem stop_rst (xs : List D) (t : List Nat) : Stop (rst xs ++ t) := by
  intro c r h
  cases xs with
  | nil =>
    simp only [rst, List.cons_append, List.cons.injEq] at h
    rw [← h.1]; decide
  | cons y ys =>
    simp only [rst, List.cons_append, List.cons.injEq] at h
    rw [← h.1]; decide
theorem stop_44 (t : List Nat) : Stop ([44, 41] ++ t) := by
  intro c r h
  simp only [List.cons_append, List.cons.injEq] at h
  rw [← h.1]; decide
mutual
/-- a text that begins with the text of numbers and tuples of them is that of the same -/
theorem pre : ∀ {e d : D} {t u : List Nat}, pl e = true → Stop t → Stop u → cl d.shown ++ t = cl e.shown ++ u → d = e ∧ t = u
  | .int i, d, t, u, _, ht, hu, h => by
    have e : cl (PyData.int i).shown = cl (toString i : String) := rfl
    rw [e] at h
    have first : ∃ c cs, cl (toString i : String) = c :: cs ∧ isDn c = true := by
      cases q : cl (toString i : String) with
      | nil => exact absurd q (dig_ne i)
      | cons c cs => exact ⟨c, cs, rfl, dig_is i c (by rw [q]; exact List.mem_cons_self)⟩
    obtain ⟨c, cs, q, hc⟩ := first
    rcases head_of d with ⟨j, rfl⟩ | ⟨xs, rfl⟩ | ⟨c', r', e', nd, _, _⟩
    · obtain ⟨a, b⟩ := span (dig_is j) (dig_is i) ht hu h
      exact ⟨by rw [dig_inj a], b⟩
    · rw [tup_cl, q] at h
      simp only [List.cons_append, List.cons.injEq] at h
      rw [← h.1] at hc
      exact absurd hc (by decide)
    · rw [e', q] at h
      simp only [List.cons_append, List.cons.injEq] at h
      rw [h.1, hc] at nd
      cases nd
  | .tuple ys, d, t, u, hp, ht, hu, h => by
    rw [tup_cl] at h
    rcases head_of d with ⟨j, rfl⟩ | ⟨xs, rfl⟩ | ⟨c', r', e', _, h40, _⟩
    · have e : cl (PyData.int j).shown = cl (toString j : String) := rfl
      rw [e] at h
      cases q : cl (toString j : String) with
      | nil => exact absurd q (dig_ne j)
      | cons c cs =>
        rw [q] at h
        simp only [List.cons_append, List.cons.injEq] at h
        have := dig_is j c (by rw [q]; exact List.mem_cons_self)
        rw [h.1] at this
        exact absurd this (by decide)
    · rw [tup_cl] at h
      simp only [List.cons_append, List.cons.injEq, true_and] at h
      obtain ⟨a, b⟩ := preI (ys := ys) hp ht hu h
      exact ⟨by rw [a], b⟩
    · rw [e'] at h
      simp only [List.cons_append, List.cons.injEq] at h
      exact absurd h.1 h40
  | .none, _, _, _, hp, _, _, _ => by cases hp
  | .bool _, _, _, _, hp, _, _, _ => by cases hp
  | .str _, _, _, _, hp, _, _, _ => by cases hp
  | .list _, _, _, _, hp, _, _, _ => by cases hp
  | .dict _, _, _, _, hp, _, _, _ => by cases hp
theorem preI : ∀ {ys xs : List D} {t u : List Nat}, plA ys = true → Stop t → Stop u → inn xs ++ t = inn ys ++ u → xs = ys ∧ t = u
  | [], xs, t, u, _, ht, hu, h => by
    match xs with
    | [] => exact ⟨rfl, by simpa [inn] using h⟩
    | [x] =>
      simp only [inn, List.append_assoc, List.cons_append, List.nil_append] at h
      exact absurd h (head_pl _ _)
    | x :: x2 :: r =>
      simp only [inn, List.append_assoc, List.cons_append, List.nil_append] at h
      exact absurd h (head_pl _ _)
  | [y], xs, t, u, hp, ht, hu, h => by
    have hy : pl y = true := by simpa [plA] using hp
    match xs with
    | [] =>
      simp only [inn, List.append_assoc, List.cons_append, List.nil_append] at h
      exact absurd h.symm (head_pl _ _)
    | [x] =>
      simp only [inn, List.append_assoc] at h
      obtain ⟨a, b⟩ := pre hy (stop_44 t) (stop_44 u) h
      exact ⟨by rw [a], by simpa using b⟩
    | x :: x2 :: r =>
      simp only [inn, List.append_assoc] at h
      obtain ⟨a, b⟩ := pre hy (stop_rst _ t) (stop_44 u) h
      simp [rst] at b
  | y :: y2 :: ys, xs, t, u, hp, ht, hu, h => by
    simp only [plA, Bool.and_eq_true] at hp
    match xs with
    | [] =>
      simp only [inn, List.append_assoc, List.cons_append, List.nil_append] at h
      exact absurd h.symm (head_pl _ _)
    | [x] =>
      simp only [inn, List.append_assoc] at h
      obtain ⟨a, b⟩ := pre hp.1 (stop_44 t) (stop_rst _ u) h
      simp [rst] at b
    | x :: x2 :: r =>
      simp only [inn, List.append_assoc] at h
      obtain ⟨a, b⟩ := pre hp.1 (stop_rst _ t) (stop_rst _ u) h
      obtain ⟨a2, b2⟩ := preR (ys := y2 :: ys) (by simp [plA, hp.2]) ht hu b
      exact ⟨by rw [a, a2], b2⟩
theorem preR : ∀ {ys xs : List D} {t u : List Nat}, plA ys = true → Stop t → Stop u → rst xs ++ t = rst ys ++ u → xs = ys ∧ t = u
  | [], xs, t, u, _, ht, hu, h => by
    cases xs with
    | nil => exact ⟨rfl, by simpa [rst] using h⟩
    | cons x r => simp [rst] at h
  | y :: ys, xs, t, u, hp, ht, hu, h => by
    simp only [plA, Bool.and_eq_true] at hp
    cases xs with
    | nil => simp [rst] at h
    | cons x r =>
      simp only [rst, List.cons_append, List.nil_append, List.append_assoc, List.cons.injEq, true_and] at h
      obtain ⟨a, b⟩ := pre hp.1 (stop_rst _ t) (stop_rst _ u) h
      obtain ⟨a2, b2⟩ := preR hp.2 ht hu b
      exact ⟨by rw [a, a2], b2⟩
end
/-- a word, and so on: the texts are alike just if the parts are -/
theorem shown_word {w : Str} {xs ys : List D} (h : plA ys = true) (e : (PyData.tuple (.str w :: xs)).shown = (PyData.tuple (.str w :: ys)).shown) : xs = ys := by
  have e : cl (PyData.tuple (.str w :: xs)).shown = cl (PyData.tuple (.str w :: ys)).shown := by rw [e]
  rw [tup_cl, tup_cl] at e
  simp only [List.cons.injEq, true_and] at e
  have st : Stop [] := fun c r h => (nomatch h)
  match xs, ys with
  | [], [] => rfl
  | [], y :: r =>
    simp [inn, rst] at e
  | x :: r, [] =>
    simp [inn, rst] at e
  | x :: r, y :: r2 =>
    simp only [inn, List.append_cancel_left_eq] at e
    exact (preR h st st (by simpa using e)).1
theorem shown_eq {w : Str} {xs ys : List D} (h : plA ys = true) : ((PyData.tuple (.str w :: xs)).shown = (PyData.tuple (.str w :: ys)).shown) ↔ xs = ys := ⟨shown_word h, fun e => by rw [e]⟩
end Cw
namespace Cw
open PySem PySem.Spec PyProof.Rows L2
/-! ## parts of heaps -/
def due (a b : List (List Int)) : D := eP3 eS (eT (eT eI)) (eT (eT eI)) ("parts", a, b)
def rowsOk (rs : List (List Int)) : Bool := decide (rs.length ≤ 100) && rs.all fun r => decide (r.length ≤ 20) && r.all smi
def fineP (a b : List (List Int)) : Bool := rowsOk a && rowsOk b && decide (sz (due a b) ≤ 150000)
def lk (n m : Int) : R (List (List Int) × List (List Int)) := (M_law_parts 20 n m).bind fun rows => (R.mapM (fun (row_5 : (List Int)) => (((((catR ([(0 : Int)]) (row_5)).bind fun (y_6 : (List Int)) => (maxR y_6)).bind fun (y_7 : Int) => (rng1 y_7)).bind fun (y_10 : (List Int)) => R.ok (List.map (fun (k_8 : Int) => ((List.map (fun (x_9 : Int) => x_9) (List.filter (fun (x_9 : Int) => (decide ((k_8) < (x_9)))) (row_5))).length : Int)) y_10)).bind fun (y_11 : (List Int)) => R.ok (y_11))) (rows)).bind fun t => R.ok (rows, t)
theorem acc_lk (n m : Int) (d : D) : M_law_accepts n m d = (lk n m).bind fun p => M_law_same 8 d (due p.1 p.2) := by
  unfold M_law_accepts lk
  cases M_law_parts 20 n m with
  | ok rows =>
    rw [R.bind_ok, R.bind_ok]
    generalize R.mapM _ rows = q
    cases q <;> rfl
  | _ => rfl
def chk : R (Str × List (List Int) × List (List Int)) → R (List (List Int) × List (List Int)) → Bool
  | .ok (w, a, b), .ok (c, d) => decide (w = "parts") && decide (a = c) && decide (b = d) && fineP a b
  | _, _ => false
theorem chk_ok : ((List.range 8).all fun n => [1, 2, 3, 4, 5, 6].all fun (m : Nat) => chk (M_heap_parts (n : Int) (m : Int)) (lk (n : Int) (m : Int))) = true := by decide +kernel
def nearB : R (Str × List (List Int) × List (List Int)) → Bool
  | .ok (w, a, b) => decide (w = "parts") && fineP a b
  | .exc _ => true
  | .bad => false
theorem near_dec : ((List.range 10).all fun n => (List.range 8).all fun m => nearB (M_heap_parts ((n : Int) - 1) (m : Int))) = true := by decide +kernel
theorem chk_spec {p : R (Str × List (List Int) × List (List Int))} {q : R (List (List Int) × List (List Int))} (h : chk p q = true) : ∃ a b, p = .ok ("parts", a, b) ∧ q = .ok (a, b) ∧ fineP a b = true := by
  unfold chk at h
  split at h
  · rename_i w a b c d
    simp only [Bool.and_eq_true, decide_eq_true_eq] at h
    obtain ⟨⟨⟨rfl, rfl⟩, rfl⟩, f⟩ := h
    exact ⟨_, _, rfl, rfl, f⟩
  · cases h
theorem facts {n m : Nat} (h0 : n < 8) (h1 : 1 ≤ m) (h2 : m ≤ 6) : ∃ a b, M_heap_parts (n : Int) (m : Int) = .ok ("parts", a, b) ∧ lk (n : Int) (m : Int) = .ok (a, b) ∧ fineP a b = true :=
  chk_spec (List.all_eq_true.mp (List.all_eq_true.mp chk_ok n (List.mem_range.mpr h0)) m (by simp; omega))
theorem rows_sm {rs : List (List Int)} (h : rowsOk rs = true) : rs.length ≤ 100 ∧ (∀ r ∈ rs, r.length ≤ 20) ∧ ∀ r ∈ rs, r.all smi = true := by
  unfold rowsOk at h
  simp only [Bool.and_eq_true, decide_eq_true_eq] at h
  exact ⟨h.1, fun r hr => by have := List.all_eq_true.mp h.2 r hr; simp only [Bool.and_eq_true, decide_eq_true_eq] at this; exact this.1, fun r hr => by have := List.all_eq_true.mp h.2 r hr; simp only [Bool.and_eq_true] at this; exact this.2⟩
theorem ib_rows {rs : List (List Int)} (h : ∀ r ∈ rs, r.all smi = true) : ib 64 (eT (eT eI) rs) := by
  refine ibA_iff.mpr fun x hx => ?_
  obtain ⟨r, hr, rfl⟩ := List.mem_map.mp hx
  refine ibA_iff.mpr fun y hy => ?_
  obtain ⟨i, hi, rfl⟩ := List.mem_map.mp hy
  have := List.all_eq_true.mp (h r hr) i hi
  have : i.natAbs ≤ 1000 := by simpa [smi] using this
  show i.natAbs < 2 ^ 64
  exact Nat.lt_of_le_of_lt this (by decide)
theorem pl_rows (rs : List (List Int)) : pl (eT (eT eI) rs) = true := by
  have row : ∀ r : List Int, plA (r.map eI) = true := by
    intro r
    induction r with
    | nil => rfl
    | cons i r ih => simp [plA, pl, ih]
  show plA (rs.map (eT eI)) = true
  induction rs with
  | nil => rfl
  | cons r rs ih => simp only [List.map_cons, plA, ih, Bool.and_true]; exact row r
theorem toldS {a b : List (List Int)} (h : fineP a b = true) : ToldS (due a b) := by
  unfold fineP at h
  simp only [Bool.and_eq_true, decide_eq_true_eq] at h
  obtain ⟨⟨ha, hb⟩, hz⟩ := h
  obtain ⟨a1, a2, a3⟩ := rows_sm ha
  obtain ⟨b1, b2, b3⟩ := rows_sm hb
  have e : ("parts" : Str).cps.size = 5 := by decide
  refine ⟨told_mk (strOk_of "parts") (all_cons (td_rows fun r hr => smis (a3 r hr)) (all_cons (td_rows fun r hr => smis (b3 r hr)) all_nil)) ?_, ⟨⟨trivial, ib_rows a3, ib_rows b3, trivial⟩, hz⟩⟩
  have w1 := wt_rows (rs := a) (L := 20) (fun r hr => smis (a3 r hr)) a2
  have w2 := wt_rows (rs := b) (L := 20) (fun r hr => smis (b3 r hr)) b2
  have m1 : a.length * (20 * 201 + 1) ≤ 100 * (20 * 201 + 1) := Nat.mul_le_mul_right _ a1
  have m2 : b.length * (20 * 201 + 1) ≤ 100 * (20 * 201 + 1) := Nat.mul_le_mul_right _ b1
  show ("parts" : Str).cps.size + ((PyData.tuple (a.map (eT eI))).weight + 1 + ((PyData.tuple (b.map (eT eI))).weight + 1 + 0)) ≤ _
  omega
theorem judP {n m : Int} {a b : List (List Int)} {d : D} (h : M_heap_parts n m = .ok ("parts", a, b)) (f : fineP a b = true) (ha : AskS d) : Hs (M_judge_heap_parts n m d) fun x => x = true ↔ d = due a b := by
  unfold M_judge_heap_parts
  rw [h, R.bind_ok, is_told_ok (n := 3) (i := 3) ha.1 (strOk_of "parts") (by decide) rfl, R.bind_ok]
  cases t : toldB d "parts" 3 with
  | false =>
    exact false_iff fun e => by
      subst e
      have : toldB (due a b) "parts" 3 = true := toldB_iff.mpr ⟨[eT (eT eI) a, eT (eT eI) b], rfl, rfl⟩
      rw [this] at t
      cases t
  | true =>
    obtain ⟨r, rfl, hr⟩ := told_at t
    match r, hr with
    | [y, z], _ =>
      rw [if_pos rfl, at1, R.bind_ok, R.bind_ok]
      cases ty : isA .tuple y with
      | false =>
        exact false_iff fun e => by
          have e : (PyData.tuple [.str "parts", y, z]) = .tuple [.str "parts", eT (eT eI) a, eT (eT eI) b] := e
          injection e with e
          injection e with _ e
          injection e with e _
          rw [e] at ty
          cases ty
      | true =>
        rw [if_pos rfl, repr_ok ha, R.bind_ok]
        have k := repr_ok (xs := [.str "parts", eT (eT eI) a, eT (eT eI) b]) (toldS f).asked
        rw [show reprD (eP3 eS (eT (eT eI)) (eT (eT eI)) (("parts" : Str), a, b)) = _ from k, R.bind_ok]
        refine hs_ok ?_
        rw [decide_eq_true_eq, shown_eq (w := "parts") (xs := [y, z]) (ys := [eT (eT eI) a, eT (eT eI) b]) (by simp [plA, pl_rows])]
        exact ⟨fun e => by rw [e]; rfl, fun e => by
          have e : (PyData.tuple [.str "parts", y, z]) = .tuple [.str "parts", eT (eT eI) a, eT (eT eI) b] := e
          injection e with e
          injection e with _ e⟩
theorem near_endS {m : R D} {s : Sta} (h : Nb m AskS) (g : Good s) : Hs (R.caught (m.bind fun a => R.ok (a, s)) (R.ok (PyData.tuple [], s))) fun t => AskS t.1 ∧ Good t.2 := by
  cases m with
  | ok d => exact ⟨h, g⟩
  | exc x => exact ⟨⟨.inr (ad_tuple (n := 7) fun x hx => (nomatch hx)), ⟨trivial, (show (10 : Nat) ≤ 12000000 by decide)⟩⟩, g⟩
  | bad => exact h.elim
theorem hp_nb {n m : Int} (h0 : -1 ≤ n) (h1 : n ≤ 8) (h2 : 0 ≤ m) (h3 : m ≤ 7) : Nb ((M_heap_parts n m).bind fun a => R.ok ((eP3 eS (eT (eT eI)) (eT (eT eI))) a)) AskS := by
  have q := List.all_eq_true.mp (List.all_eq_true.mp near_dec (n + 1).toNat (List.mem_range.mpr (by omega))) m.toNat (List.mem_range.mpr (by omega))
  rw [show (((n + 1).toNat : Nat) : Int) - 1 = n by omega, show ((m.toNat : Nat) : Int) = m by omega] at q
  generalize M_heap_parts n m = r at q ⊢
  cases r with
  | ok p =>
    obtain ⟨w, a, b⟩ := p
    simp only [nearB, Bool.and_eq_true, decide_eq_true_eq] at q
    obtain ⟨rfl, f⟩ := q
    exact (toldS f).asked
  | exc x => exact trivial
  | bad => cases q
theorem near1 {n m : Nat} {s : Sta} (h0 : n < 8) (h1 : 1 ≤ m) (h2 : m ≤ 6) (g : Good s) : Hs (M_law_told_near (n : Int) (m : Int) s) fun t => AskS t.1 ∧ Good t.2 := by
  have H : ∀ n m : Int, -1 ≤ n → n ≤ 8 → 0 ≤ m → m ≤ 7 → Nb ((M_heap_parts n m).bind fun a => R.ok ((eP3 eS (eT (eT eI)) (eT (eT eI))) a)) AskS := fun n m a b c d => hp_nb a b c d
  unfold M_law_told_near
  revert H
  generalize M_heap_parts = f
  intro H
  rw [R.bind_ok]
  refine near_at (n := 2) (Rl := fun _ => RelI) rfl (by decide) (by decide) g (fun k d s e g => ?_) fun k d d' s e hr g => ?_
  · match k, e with
    | 0, e => cases e; exact ngb_num g
    | 1, e => cases e; exact ngb_num g
  · match k, e with
    | 0, e =>
      cases e
      obtain ⟨j, rfl, hn⟩ := relI hr
      unfold NearI at hn
      refine near_endS ?_ g
      show Nb (((R.ofOpt (dI.dec (eI j))).bind fun (y_9 : Int) => (R.ofOpt (dI.dec (eI _))).bind fun (y_10 : Int) => (f y_9 y_10)).bind fun a => R.ok ((eP3 eS (eT (eT eI)) (eT (eT eI))) a)) _
      rw [dec_I, dec_I]
      exact H _ _ (by omega) (by omega) (by omega) (by omega)
    | 1, e =>
      cases e
      obtain ⟨j, rfl, hn⟩ := relI hr
      unfold NearI at hn
      refine near_endS ?_ g
      show Nb (((R.ofOpt (dI.dec (eI _))).bind fun (y_9 : Int) => (R.ofOpt (dI.dec (eI j))).bind fun (y_10 : Int) => (f y_9 y_10)).bind fun a => R.ok ((eP3 eS (eT (eT eI)) (eT (eT eI))) a)) _
      rw [dec_I, dec_I]
      exact H _ _ (by omega) (by omega) (by omega) (by omega)
theorem hp_no {n m : Int} (h : n < 0 ∨ m < 1) : M_heap_parts n m = .exc .unfit := by
  unfold M_heap_parts
  rw [if_pos (by simpa using h)]
theorem unf1 {n m : Int} (h : n < 0 ∨ m < 1) : M_law_unfit n m = .ok true := by
  have e := hp_no h
  unfold M_law_unfit
  exact unfit_of e (by unfold M_judge_heap_parts; rw [e]; rfl)
theorem law_hs (ns : List Int) : Hs (M_law ns) fun b => b = true := by
  unfold M_law
  rw [R.bind_ok, R.bind_ok]
  refine hs_forK (I := fun t => Good t.1 ∧ SeenS t.2) (fun turn _ t nx ⟨g, hl⟩ hk => ?_) (fun _ _ => rfl) ⟨(Int.le_refl 0 : Good (ns, 0, 0, 1)), Nat.zero_le _, fun d h => (nomatch h)⟩
  refine hs_cb (P := fun (t : (Int × Int × Unit) × Sta) => (∃ n m : Nat, t.1.1 = n ∧ t.1.2.1 = m ∧ n < 8 ∧ 1 ≤ m ∧ m ≤ 6) ∧ Good t.2) (hs_bind (P := fun (t : Int × Sta) => (∃ n : Nat, t.1 = n ∧ n < 8) ∧ Good t.2) (hs_mono (next_ok' (n := 8) rfl (by decide) (by decide) g) fun u ⟨⟨a, b⟩, g⟩ => ⟨⟨u.1.toNat, by omega, by omega⟩, g⟩) fun t9 ⟨⟨n, en, n8⟩, g⟩ => ?_) fun t8 ⟨⟨n, m, en, em, n8, m1, m6⟩, g⟩ => ?_
  · refine hs_bind (P := fun (t : (Int × Unit) × Sta) => (∃ m : Nat, t.1.1 = m ∧ 1 ≤ m ∧ m ≤ 6) ∧ Good t.2) (hs_bind (P := fun (t : Int × Sta) => (∃ m : Nat, t.1 = m ∧ 1 ≤ m ∧ m ≤ 6) ∧ Good t.2) (hs_bind (next_ok' (n := 6) rfl (by decide) (by decide) g) fun u ⟨⟨a, b⟩, g⟩ => ⟨⟨u.1.toNat + 1, by show (1 : Int) + u.1 = _; omega, by omega, by omega⟩, g⟩) fun t h => h) fun u ⟨⟨m, em, m1, m6⟩, g⟩ => ⟨⟨n, m, en, em, n8, m1, m6⟩, g⟩
  rw [en, em]
  obtain ⟨a, b, e1, e2, f⟩ := facts n8 m1 m6
  exact part_okS (c := 8) (enc := eP3 eS (eT (eT eI)) (eT (eT eI))) (t0 := ("parts", a, b)) (near := fun s => M_law_told_near (n : Int) (m : Int) s) (J := fun d => M_judge_heap_parts (n : Int) (m : Int) d) (A := fun d => M_law_accepts (n : Int) (m : Int) d) (P := fun d => d = due a b) (K := fun s xs => nx (s, xs)) e1 (by omega) (toldS f) (fun s g => near1 n8 m1 m6 g) hl
    ⟨fun d q => judP e1 f q, fun d q => by rw [acc_lk, e2]; exact same_due q.1 (toldS f).t.td (toldS f).t.wt⟩ rfl (un2 (unf1 (.inl (by decide))) (un1 (unf1 (.inr (by decide))))) g fun s xs g h => hk _ ⟨g, h⟩
theorem law_true (ns : List Int) : M_law ns = .ok true := by
  obtain ⟨b, e, h⟩ := hs_iff.mp (law_hs ns)
  rw [e, h]
end Cw
set_option maxHeartbeats 400000
namespace Cw
end Cw
open PySem PySem.W PyProof.Rows
set_option maxHeartbeats 0 in
theorem PySem.Challenge.cw_cardwhole_k68_parts_of_heaps_holds : PySem.Challenge.rw_cardwhole_k68_parts_of_heaps.Holds := by
  w_on; o_law; k_head; (case hw => w_witness2)
  k_fill
  refine Cw.walk_law (l := PySem.Challenge.rw_cardwhole_k68_parts_of_heaps) (k := 24) (f := Cw.M_law) rfl rfl ⟨rfl, by decide, by decide⟩ (fun w h Y => PySem.W.kIn_of Y) Cw.law_true ?F
  case F =>
    intro w mg fa h KX G hmg
    refine' Cw.all_mk KX G hmg ?a0 ?l0 ?c0 ?k0 ?a1 ?l1 ?c1 ?k1 ?a2 ?l2 ?c2 ?k2 ?a3 ?l3 ?c3 ?k3 ?a4 ?l4 ?c4 ?k4 ?a5 ?l5 ?c5 ?k5 ?a6 ?l6 ?c6 ?k6 ?a7 ?l7 ?c7 ?k7 ?a8 ?l8 ?c8 ?k8 ?a9 ?l9 ?c9 ?k9 ?a10 ?l10 ?c10 ?k10 ?a11 ?l11 ?c11 ?k11 ?a12 ?l12 ?c12 ?k12 ?a13 ?l13 ?c13 ?k13 ?a14 ?l14 ?c14 ?k14 ?a15 ?l15 ?c15 ?k15 ?a16 ?l16 ?c16 ?k16 ?a17 ?l17 ?c17 ?k17 ?a18 ?l18 ?c18 ?k18 ?aU ?xU ?kU ?bU ?tU ?hgU ?hkU ?hdU ?haU ?hmU ?ktU ?aW ?xW ?kW ?bW ?tW ?hgW ?hkW ?hdW ?haW ?hmW ?ktW ?eUU ?eUW ?eWU ?eWW ?hn ?ht ?z_len ?z_isinstance ?z_int ?z_bool ?z_str ?z_tuple ?z_list ?z_range ?z_sorted ?z_sum ?z_max ?z_min ?z_abs ?z_set ?z_repr ?z_enumerate ?z_zip ?z_dict ?z_ValueError
    (case a0 => first | k_is | k_exc | rfl | decide +kernel)
    (case l0 => first | k_is | k_exc | rfl | decide +kernel)
    (case c0 => first | k_is | k_exc | rfl | decide +kernel)
    (case k0 => first | k_is | k_exc | rfl | decide +kernel)
    (case a1 => first | k_is | k_exc | rfl | decide +kernel)
    (case l1 => first | k_is | k_exc | rfl | decide +kernel)
    (case c1 => first | k_is | k_exc | rfl | decide +kernel)
    (case k1 => first | k_is | k_exc | rfl | decide +kernel)
    (case a2 => first | k_is | k_exc | rfl | decide +kernel)
    (case l2 => first | k_is | k_exc | rfl | decide +kernel)
    (case c2 => first | k_is | k_exc | rfl | decide +kernel)
    (case k2 => first | k_is | k_exc | rfl | decide +kernel)
    (case a3 => first | k_is | k_exc | rfl | decide +kernel)
    (case l3 => first | k_is | k_exc | rfl | decide +kernel)
    (case c3 => first | k_is | k_exc | rfl | decide +kernel)
    (case k3 => first | k_is | k_exc | rfl | decide +kernel)
    (case a4 => first | k_is | k_exc | rfl | decide +kernel)
    (case l4 => first | k_is | k_exc | rfl | decide +kernel)
    (case c4 => first | k_is | k_exc | rfl | decide +kernel)
    (case k4 => first | k_is | k_exc | rfl | decide +kernel)
    (case a5 => first | k_is | k_exc | rfl | decide +kernel)
    (case l5 => first | k_is | k_exc | rfl | decide +kernel)
    (case c5 => first | k_is | k_exc | rfl | decide +kernel)
    (case k5 => first | k_is | k_exc | rfl | decide +kernel)
    (case a6 => first | k_is | k_exc | rfl | decide +kernel)
    (case l6 => first | k_is | k_exc | rfl | decide +kernel)
    (case c6 => first | k_is | k_exc | rfl | decide +kernel)
    (case k6 => first | k_is | k_exc | rfl | decide +kernel)
    (case a7 => first | k_is | k_exc | rfl | decide +kernel)
    (case l7 => first | k_is | k_exc | rfl | decide +kernel)
    (case c7 => first | k_is | k_exc | rfl | decide +kernel)
    (case k7 => first | k_is | k_exc | rfl | decide +kernel)
    (case a8 => first | k_is | k_exc | rfl | decide +kernel)
    (case l8 => first | k_is | k_exc | rfl | decide +kernel)
    (case c8 => first | k_is | k_exc | rfl | decide +kernel)
    (case k8 => first | k_is | k_exc | rfl | decide +kernel)
    (case a9 => first | k_is | k_exc | rfl | decide +kernel)
    (case l9 => first | k_is | k_exc | rfl | decide +kernel)
    (case c9 => first | k_is | k_exc | rfl | decide +kernel)
    (case k9 => first | k_is | k_exc | rfl | decide +kernel)
    (case a10 => first | k_is | k_exc | rfl | decide +kernel)
    (case l10 => first | k_is | k_exc | rfl | decide +kernel)
    (case c10 => first | k_is | k_exc | rfl | decide +kernel)
    (case k10 => first | k_is | k_exc | rfl | decide +kernel)
    (case a11 => first | k_is | k_exc | rfl | decide +kernel)
    (case l11 => first | k_is | k_exc | rfl | decide +kernel)
    (case c11 => first | k_is | k_exc | rfl | decide +kernel)
    (case k11 => first | k_is | k_exc | rfl | decide +kernel)
    (case a12 => first | k_is | k_exc | rfl | decide +kernel)
    (case l12 => first | k_is | k_exc | rfl | decide +kernel)
    (case c12 => first | k_is | k_exc | rfl | decide +kernel)
    (case k12 => first | k_is | k_exc | rfl | decide +kernel)
    (case a13 => first | k_is | k_exc | rfl | decide +kernel)
    (case l13 => first | k_is | k_exc | rfl | decide +kernel)
    (case c13 => first | k_is | k_exc | rfl | decide +kernel)
    (case k13 => first | k_is | k_exc | rfl | decide +kernel)
    (case a14 => first | k_is | k_exc | rfl | decide +kernel)
    (case l14 => first | k_is | k_exc | rfl | decide +kernel)
    (case c14 => first | k_is | k_exc | rfl | decide +kernel)
    (case k14 => first | k_is | k_exc | rfl | decide +kernel)
    (case a15 => first | k_is | k_exc | rfl | decide +kernel)
    (case l15 => first | k_is | k_exc | rfl | decide +kernel)
    (case c15 => first | k_is | k_exc | rfl | decide +kernel)
    (case k15 => first | k_is | k_exc | rfl | decide +kernel)
    (case a16 => first | k_is | k_exc | rfl | decide +kernel)
    (case l16 => first | k_is | k_exc | rfl | decide +kernel)
    (case c16 => first | k_is | k_exc | rfl | decide +kernel)
    (case k16 => first | k_is | k_exc | rfl | decide +kernel)
    (case a17 => first | k_is | k_exc | rfl | decide +kernel)
    (case l17 => first | k_is | k_exc | rfl | decide +kernel)
    (case c17 => first | k_is | k_exc | rfl | decide +kernel)
    (case k17 => first | k_is | k_exc | rfl | decide +kernel)
    (case a18 => first | k_is | k_exc | rfl | decide +kernel)
    (case l18 => first | k_is | k_exc | rfl | decide +kernel)
    (case c18 => first | k_is | k_exc | rfl | decide +kernel)
    (case k18 => first | k_is | k_exc | rfl | decide +kernel)
    (case aU => first | k_is | k_exc | rfl | decide +kernel)
    (case xU => first | k_is | k_exc | rfl | decide +kernel)
    (case kU => first | k_is | k_exc | rfl | decide +kernel)
    (case bU => first | k_is | k_exc | rfl | decide +kernel)
    (case tU => first | k_is | k_exc | rfl | decide +kernel)
    (case hgU => first | k_is | k_exc | rfl | decide +kernel)
    (case hkU => first | k_is | k_exc | rfl | decide +kernel)
    (case hdU => first | k_is | k_exc | rfl | decide +kernel)
    (case haU => first | k_is | k_exc | rfl | decide +kernel)
    (case hmU => first | k_is | k_exc | rfl | decide +kernel)
    (case ktU => first | k_is | k_exc | rfl | decide +kernel)
    (case aW => first | k_is | k_exc | rfl | decide +kernel)
    (case xW => first | k_is | k_exc | rfl | decide +kernel)
    (case kW => first | k_is | k_exc | rfl | decide +kernel)
    (case bW => first | k_is | k_exc | rfl | decide +kernel)
    (case tW => first | k_is | k_exc | rfl | decide +kernel)
    (case hgW => first | k_is | k_exc | rfl | decide +kernel)
    (case hkW => first | k_is | k_exc | rfl | decide +kernel)
    (case hdW => first | k_is | k_exc | rfl | decide +kernel)
    (case haW => first | k_is | k_exc | rfl | decide +kernel)
    (case hmW => first | k_is | k_exc | rfl | decide +kernel)
    (case ktW => first | k_is | k_exc | rfl | decide +kernel)
    (case eUU => first | k_is | k_exc | rfl | decide +kernel)
    (case eUW => first | k_is | k_exc | rfl | decide +kernel)
    (case eWU => first | k_is | k_exc | rfl | decide +kernel)
    (case eWW => first | k_is | k_exc | rfl | decide +kernel)
    (case hn => first | k_is | k_exc | rfl | decide +kernel)
    (case ht => first | k_is | k_exc | rfl | decide +kernel)
    (case z_len => first | k_is | k_exc | rfl | decide +kernel)
    (case z_isinstance => first | k_is | k_exc | rfl | decide +kernel)
    (case z_int => first | k_is | k_exc | rfl | decide +kernel)
    (case z_bool => first | k_is | k_exc | rfl | decide +kernel)
    (case z_str => first | k_is | k_exc | rfl | decide +kernel)
    (case z_tuple => first | k_is | k_exc | rfl | decide +kernel)
    (case z_list => first | k_is | k_exc | rfl | decide +kernel)
    (case z_range => first | k_is | k_exc | rfl | decide +kernel)
    (case z_sorted => first | k_is | k_exc | rfl | decide +kernel)
    (case z_sum => first | k_is | k_exc | rfl | decide +kernel)
    (case z_max => first | k_is | k_exc | rfl | decide +kernel)
    (case z_min => first | k_is | k_exc | rfl | decide +kernel)
    (case z_abs => first | k_is | k_exc | rfl | decide +kernel)
    (case z_set => first | k_is | k_exc | rfl | decide +kernel)
    (case z_repr => first | k_is | k_exc | rfl | decide +kernel)
    (case z_enumerate => first | k_is | k_exc | rfl | decide +kernel)
    (case z_zip => first | k_is | k_exc | rfl | decide +kernel)
    (case z_dict => first | k_is | k_exc | rfl | decide +kernel)
    (case z_ValueError => first | k_is | k_exc | rfl | decide +kernel)
