import PyProof.Rows.All
import Wide.All
import OpenK.AllK
import Wide.FinOn
import HandS.ForMost
import HandS.TupAny
import HandS.TupMul
import HandS.Deep
import HandS.DeepEq
import HandS.IsInst
import HandS.CallSlots
import HandS.Lambda
import HandS.Zip
import HandS.Style
import HandS.DictComp
import HandS.DictTup
import HandS.SortOrd
import HandS.SortRule
import HandS.TupLe
import HandS.Strs
import HandS.RaiseMore
import HandS.SortInts
import HandS.More
import HandS.Replace
import HandS.Small
import KE.GoesEnum
import HandS.WordsExc
import HandS.TryOnly
import HandS.TryMany
import HandS.ExcOwn
import HandS.CallLocal
import HandS.ExcCtx
import HandS.EndTab
import HandS.EndOwn
import KE.KNestM
import HandS.ExcIs
import HandS.Iter
import HandS.TupLen
import KE.KPairComp
import KE.KSortTup
import KE.KDictSum
import KE.KDictCopyH
import HandS.HotCalls
import HandS.ExcField
import KE.GoesZip
import KE.GoesMore
import HandS.SetFor
import PyProof.FString5
import PySem.Challenge.RW_ringread_k77_whole_lists_over_lists
set_option Elab.async false
set_option linter.all false
set_option maxRecDepth 100000
namespace Eng
open PySem PySem.Spec PyProof.Rows L2

/-! ### plain data -/
inductive Val where
  | non | bl (b : Bool) | int (i : Int) | str (s : List Nat) | tup (xs : List Val) | lst (xs : List Val) | dic (t : Bool) (kvs : List (Val × Val)) | glb (x : Str) | ty (n : String) | seq (xs : List Val) | exn (c : Str) (lim : Option Int) | prs (xs : List Val)
/-- what an expression yields -/
inductive SV where
  | v (x : Val) | loc (l : Nat) | fl (xs : List Val) | fd (t : Bool) (kvs : List (Val × Val))
/-- a mutable cell -/
inductive SO where
  | dead | lst (xs : List Val) | dic (t : Bool) (kvs : List (Val × Val))
abbrev Sto := List SO
abbrev Env := List (Option SV)
structure Ex where
  cls : Str
  arg : Option Val
inductive Rv (α : Type) where
  | ok (a : α) (st : Sto) | exc (e : Ex) (st : Sto) | bad
inductive Rs where
  | nx (env : Env) (st : Sto) | rt (z : SV) (st : Sto) | exc (e : Ex) (env : Env) (st : Sto) | bad
abbrev Fe := Env → Sto → Rv SV
abbrev Ft := Env → Sto → Rv Bool
abbrev Fs := Env → Sto → Rs
def Rv.bind {α β : Type} (r : Rv α) (f : α → Sto → Rv β) : Rv β := match r with
  | .ok a st => f a st
  | .exc e st => .exc e st
  | .bad => .bad
abbrev toS (l : List Nat) : Str := ⟨l.toArray⟩
/-- signs that a text may have, not too many -/
def SOk (l : List Nat) : Bool := decide (l.length ≤ 1000000) && l.all fun c => decide (c < 1114112)

/-- the value that is read of a yield, now -/
def SV.val (st : Sto) : SV → Option Val
  | .v x => some x
  | .loc l => match st[l]? with
    | some (.lst xs) => some (.lst xs)
    | some (.dic t kvs) => some (.dic t kvs)
    | _ => none
  | .fl xs => some (.lst xs)
  | .fd t kvs => some (.dic t kvs)

def keyOf : Val → Option Key
  | .int i => some (.inl i)
  | .str l => some (.inr (toS l))
  | _ => none
def keysOf : List Val → Option (List Key)
  | [] => some []
  | x :: r => match keyOf x, keysOf r with
    | some k, some ks => some (k :: ks)
    | _, _ => none

/-! ### what of the module is known -/
structure Gc where
  K : PySem.W.Frag
  mg : Str → Option Value
  T : List (Addr × Str)
  ex : Option (Addr × Str × Option Addr)
  tn : Bool
/-- a tuple as it is laid: known to its object (which has no dict), or told by its items -/
def tpO (tn : Bool) (o : Obj) (vs : List V) : HO := if tn = true then .frz o (.tup vs) else .tup vs
def TupH (tn : Bool) (H : Hp) (a : Addr) (vs : List V) : Prop := ∃ o : Obj, o.dict = none ∧ H a = some (tpO tn o vs)
/-- addresses of the cells -/
abbrev Rho := List (Option Addr)
def Tr (ρ : Rho) (a : Addr) : Prop := some a ∈ ρ

/-- a set of addresses: what may be written -/
abbrev Ts := Addr → Prop
mutual
/-- a frozen value -/
inductive RepV (G : Gc) (H : Hp) (T : Ts) : Val → V → Prop
  | non : RepV G H T .non .non
  | bl (b : Bool) : RepV G H T (.bl b) (.bl b)
  | int (i : Int) : RepV G H T (.int i) (.int i)
  | str (l : List Nat) : SOk l = true → RepV G H T (.str l) (.str (toS l))
  | tup {xs : List Val} {vs : List V} {a : Addr} : TupH G.tn H a vs → RepVs G H T xs vs → RepV G H T (.tup xs) (.ref a)
  | prs {xs : List Val} {vs : List V} {a : Addr} : H a = some (.tup vs) → RepVs G H T xs vs → RepV G H T (.prs xs) (.ref a)
  | lst {xs : List Val} {vs : List V} {a : Addr} : H a = some (.lst vs) → ¬ T a → RepVs G H T xs vs → RepV G H T (.lst xs) (.ref a)
  | dicK {kvs : List (Val × Val)} {ks : List (Key × V)} {a : Addr} : Rd H a (.dK ks) → ¬ T a → RepK G H T kvs ks → RepV G H T (.dic false kvs) (.ref a)
  | dicT {kvs : List (Val × Val)} {ks : List (List Key × V)} {a : Addr} : Rd H a (.dT ks) → ¬ T a → RepT G H T kvs ks → RepV G H T (.dic true kvs) (.ref a)
  | glb {x : Str} {u : Value} {v : V} : G.mg x = some u → RelV v u → RepV G H T (.glb x) v
  | ty (n : String) : RepV G H T (.ty n) (.ty n)
  | seqH {xs : List Val} {vs : List V} {a : Addr} : Rd H a (.lst vs) → ¬ T a → RepVs G H T xs vs → RepV G H T (.seq xs) (.ref a)
  | seqK {xs : List Val} {vs : List V} {a : Addr} : (∀ H', SqL G.K H' a vs) → RepVs G H T xs vs → RepV G H T (.seq xs) (.ref a)
  | exn {c : Str} {lim : Option Int} {a : Addr} {d : Option Addr} : G.ex = some (a, c, d) → (lim = none → d = none) → (∀ i, lim = some i → ∃ dx, d = some dx ∧ H dx = some (.xd [("limit", .int i)]) ∧ ¬ T dx) → RepV G H T (.exn c lim) (.ref a)
inductive RepVs (G : Gc) (H : Hp) (T : Ts) : List Val → List V → Prop
  | nil : RepVs G H T [] []
  | cons {x : Val} {v : V} {xs : List Val} {vs : List V} : RepV G H T x v → RepVs G H T xs vs → RepVs G H T (x :: xs) (v :: vs)
inductive RepK (G : Gc) (H : Hp) (T : Ts) : List (Val × Val) → List (Key × V) → Prop
  | nil : RepK G H T [] []
  | cons {x y : Val} {k : Key} {v : V} {kvs : List (Val × Val)} {ks : List (Key × V)} : keyOf x = some k → RepV G H T x (kV k) → RepV G H T y v → RepK G H T kvs ks → RepK G H T ((x, y) :: kvs) ((k, v) :: ks)
inductive RepT (G : Gc) (H : Hp) (T : Ts) : List (Val × Val) → List (List Key × V) → Prop
  | nil : G.tn = false → RepT G H T [] []
  | cons {xs : List Val} {y : Val} {k : List Key} {v : V} {kvs : List (Val × Val)} {ks : List (List Key × V)} : keysOf xs = some k → RepVs G H T xs (k.map kV) → RepV G H T y v → RepT G H T kvs ks → RepT G H T ((.tup xs, y) :: kvs) ((k, v) :: ks)
end
/-- a value that is read now: the top may be a cell's object -/
inductive Now (G : Gc) (H : Hp) (T : Ts) : Val → V → Prop
  | rep {x : Val} {v : V} : RepV G H T x v → Now G H T x v
  | lst {xs : List Val} {vs : List V} {a : Addr} : H a = some (.lst vs) → RepVs G H T xs vs → Now G H T (.lst xs) (.ref a)
  | dicK {kvs : List (Val × Val)} {ks : List (Key × V)} {a : Addr} : H a = some (.dK ks) → RepK G H T kvs ks → Now G H T (.dic false kvs) (.ref a)
  | dicT {kvs : List (Val × Val)} {ks : List (List Key × V)} {a : Addr} : H a = some (.dT ks) → RepT G H T kvs ks → Now G H T (.dic true kvs) (.ref a)

inductive RepO (G : Gc) (H : Hp) (T : Ts) : SO → Addr → Prop
  | lst {xs : List Val} {vs : List V} {a : Addr} : H a = some (.lst vs) → RepVs G H T xs vs → RepO G H T (.lst xs) a
  | dicK {kvs : List (Val × Val)} {ks : List (Key × V)} {a : Addr} : H a = some (.dK ks) → RepK G H T kvs ks → RepO G H T (.dic false kvs) a
  | dicT {kvs : List (Val × Val)} {ks : List (List Key × V)} {a : Addr} : H a = some (.dT ks) → RepT G H T kvs ks → RepO G H T (.dic true kvs) a

/-- what may be written, and what is held back -/
abbrev TP (P : Ts) (ρ : Rho) : Ts := fun a => P a ∨ Tr ρ a
def Plus (T : Ts) (a : Addr) : Ts := fun b => T b ∨ b = a
def Plain (u : HO) : Prop := (∀ ps, u ≠ .tbl ps) ∧ (∀ xs, u ≠ .tup xs) ∧ (∀ o xs, u ≠ .frz o xs) ∧ (∀ φ, u ≠ .ext φ)
/-- the store; P: things held back (lists in the making) -/
structure RepS (G : Gc) (H : Hp) (P : Ts) (ρ : Rho) (st : Sto) : Prop where
  len : ρ.length = st.length
  nd : ∀ (l l' : Nat) (a : Addr), ρ[l]? = some (some a) → ρ[l']? = some (some a) → l = l'
  obj : ∀ (l : Nat) (a : Addr), ρ[l]? = some (some a) → ∃ o, st[l]? = some o ∧ RepO G H (TP P ρ) o a
  dead : ∀ (l : Nat), ρ[l]? = some none → st[l]? = some .dead
  tab : LamX.Tabs G.T H
  prv : ∀ a, P a → ∃ u, H a = some u ∧ Plain u
  apart : ∀ a, P a → ¬ Tr ρ a

/-- nothing that we know stands there -/
def NN (H : Hp) (a : Addr) : Prop := H a = none ∨ ∃ ps, H a = some (.tbl ps)
/-- what is yielded; H0: the heap ahead of the expression -/
inductive RepX (G : Gc) (H0 H : Hp) (P : Ts) (ρ : Rho) (st : Sto) : SV → V → Prop
  | v {x : Val} {v : V} : RepV G H (TP P ρ) x v → RepX G H0 H P ρ st (.v x) v
  | loc {l : Nat} {a : Addr} : ρ[l]? = some (some a) → RepX G H0 H P ρ st (.loc l) (.ref a)
  | fl {xs : List Val} {vs : List V} {a : Addr} : H a = some (.lst vs) → NN H0 a → RepVs G H (TP (Plus P a) ρ) xs vs → RepS G H (Plus P a) ρ st → ¬ P a → RepX G H0 H P ρ st (.fl xs) (.ref a)
  | fdK {kvs : List (Val × Val)} {ks : List (Key × V)} {a : Addr} : H a = some (.dK ks) → NN H0 a → RepK G H (TP (Plus P a) ρ) kvs ks → RepS G H (Plus P a) ρ st → ¬ P a → RepX G H0 H P ρ st (.fd false kvs) (.ref a)
  | fdT {kvs : List (Val × Val)} {ks : List (List Key × V)} {a : Addr} : H a = some (.dT ks) → NN H0 a → RepT G H (TP (Plus P a) ρ) kvs ks → RepS G H (Plus P a) ρ st → ¬ P a → RepX G H0 H P ρ st (.fd true kvs) (.ref a)

/-- the slots: frozen values and cells -/
inductive RepZ (G : Gc) (H : Hp) (P : Ts) (ρ : Rho) : SV → V → Prop
  | v {x : Val} {v : V} : RepV G H (TP P ρ) x v → RepZ G H P ρ (.v x) v
  | loc {l : Nat} {a : Addr} : ρ[l]? = some (some a) → RepZ G H P ρ (.loc l) (.ref a)
structure RepE (G : Gc) (H : Hp) (P : Ts) (ρ : Rho) (env : Env) (σ : L2.St) : Prop where
  len : env.length = σ.length
  get : ∀ (i : Nat) (z : SV), env[i]? = some (some z) → ∃ v, σ[i]? = some (some v) ∧ RepZ G H P ρ z v

/-- what was is kept, but what may be written; new writable things are new things -/
def IsD : HO → Bool
  | .dK _ => true
  | .dT _ => true
  | _ => false
structure Kp (T : Ts) (H : Hp) (T' : Ts) (H' : Hp) : Prop where
  keep : ∀ a o, ¬ T a → H a = some o → (∀ ps, o ≠ .tbl ps) → H' a = some o ∨ (IsD o = true ∧ ∃ od, H' a = some (.frz od o))
  stay : ∀ a, NN H' a → NN H a
  new : ∀ a, T' a → T a ∨ NN H a
/-- what a statement may do: the cells in B may be bound anew; from n on they are the def's own -/
structure ExtS (B : List Nat) (n : Nat) (ρ : Rho) (H : Hp) (ρ' : Rho) (H' : Hp) : Prop where
  len : ρ'.length = ρ.length
  fix : ∀ l : Nat, (∀ j ∈ B, l ≠ n + j) → ρ'[l]? = ρ[l]?
  kp : Kp (Tr ρ) H (Tr ρ') H'

section
variable {G : Gc} {H H0 H1 H2 H' : Hp} {ρ ρ1 ρ2 ρ' : Rho} {T T1 T2 T' P P1 : Ts} {B B1 B2 : List Nat} {n : Nat} {st st' : Sto}
theorem Kp.refl : Kp T H T H := ⟨fun _ _ _ h _ => .inl h, fun _ h => h, fun _ h => .inl h⟩
theorem NN.no {a : Addr} {o : HO} (h : NN H a) (e : H a = some o) (t : ∀ ps, o ≠ .tbl ps) : False := by
  rcases h with h | ⟨ps, h⟩
  · rw [h] at e; cases e
  · rw [h] at e; cases e; exact t ps rfl
theorem NN.ne {a D : Addr} {o : HO} (n : NN H D) (e : H a = some o) (t : ∀ ps, o ≠ .tbl ps) : a ≠ D := fun z => n.no (by rw [← z]; exact e) t
theorem NN.over {a D : Addr} {o : HO} (n : NN H D) (k : ∀ a, NN H1 a → NN H a) (h : NN (upd H1 D o) a) : NN H a := by
  by_cases z : a = D
  · rw [z]; exact n
  · unfold NN at h; rw [upd_ne z] at h; exact k a h
theorem Kp.none (a : Kp T H T1 H1) {p : Addr} (h : NN H1 p) : NN H p := a.stay p h
theorem Kp.trans (x : Kp T H T1 H1) (y : Kp T1 H1 T2 H2) : Kp T H T2 H2 := by
  refine ⟨fun a o na h t => ?_, fun a h => x.stay a (y.stay a h), fun a t => ?_⟩
  · have na1 : ¬ T1 a := fun z => by
      rcases x.new a z with z | z
      · exact na z
      · exact z.no h t
    rcases x.keep a o na h t with e | ⟨d, od, e⟩
    · exact y.keep a o na1 e t
    · rcases y.keep a _ na1 e (by intros; simp) with e | ⟨d2, _⟩
      · exact .inr ⟨d, od, e⟩
      · cases d2
  · rcases y.new a t with z | z
    · exact x.new a z
    · exact .inr (x.none z)
theorem Kp.keepX (x : Kp T H T1 H1) {a : Addr} {o : HO} (na : ¬ T a) (h : H a = some o) (t : ∀ ps, o ≠ .tbl ps) (d : IsD o = false) : H1 a = some o := by
  rcases x.keep a o na h t with e | ⟨d2, _⟩
  · exact e
  · rw [d] at d2; cases d2
/-- with what is held back -/
theorem Kp.tp (x : Kp (Tr ρ) H (Tr ρ1) H1) : Kp (TP P ρ) H (TP P ρ1) H1 :=
  ⟨fun a o na h t => x.keep a o (fun z => na (.inr z)) h t, x.stay, fun a t => t.elim (fun z => .inl (.inl z)) fun z => (x.new a z).imp .inr id⟩
theorem ExtS.refl : ExtS B n ρ H ρ H := ⟨rfl, fun _ _ => rfl, Kp.refl⟩
theorem ExtS.of (k : Kp (Tr ρ) H (Tr ρ) H1) : ExtS B n ρ H ρ H1 := ⟨rfl, fun _ _ => rfl, k⟩
theorem ExtS.mono (x : ExtS B1 n ρ H ρ1 H1) (h : ∀ l ∈ B1, l ∈ B) : ExtS B n ρ H ρ1 H1 := ⟨x.len, fun l z => x.fix l fun j q => z j (h j q), x.kp⟩
theorem ExtS.trans (x : ExtS B n ρ H ρ1 H1) (y : ExtS B n ρ1 H1 ρ2 H2) : ExtS B n ρ H ρ2 H2 :=
  ⟨y.len.trans x.len, fun l h => (y.fix l h).trans (x.fix l h), x.kp.trans y.kp⟩
theorem ExtS.old (x : ExtS B n ρ H ρ1 H1) {l : Nat} (h : l < n) : ρ1[l]? = ρ[l]? := x.fix l fun j _ => by omega
theorem SO.plain {o : SO} {a : Addr} (r : RepO G H T o a) : ∃ u, H a = some u ∧ Plain u := by
  cases r with
  | lst h _ => exact ⟨_, h, by intros; simp, by intros; simp, by intros; simp, by intros; simp⟩
  | dicK h _ => exact ⟨_, h, by intros; simp, by intros; simp, by intros; simp, by intros; simp⟩
  | dicT h _ => exact ⟨_, h, by intros; simp, by intros; simp, by intros; simp, by intros; simp⟩
theorem tr_at {l : Nat} {a : Addr} (h : ρ[l]? = some (some a)) : Tr ρ a := List.mem_of_getElem? h
theorem at_tr {a : Addr} (t : Tr ρ a) : ∃ l : Nat, ρ[l]? = some (some a) := by
  obtain ⟨l, h1, h2⟩ := List.mem_iff_getElem.mp t
  exact ⟨l, by rw [List.getElem?_eq_getElem h1, h2]⟩
theorem RepS.tr (rs : RepS G H P ρ st) {a : Addr} (t : TP P ρ a) : ∃ u, H a = some u ∧ Plain u := by
  rcases t with t | t
  · exact rs.prv a t
  · obtain ⟨l, h⟩ := at_tr t
    obtain ⟨o, _, r⟩ := rs.obj l a h
    exact SO.plain r
theorem RepS.ntrN (rs : RepS G H P ρ st) {a : Addr} (h : NN H a) : ¬ TP P ρ a := fun t => by
  obtain ⟨u, e, q⟩ := rs.tr t
  exact h.no e q.1
theorem RepS.ntr (rs : RepS G H P ρ st) {a : Addr} (h : H a = none) : ¬ TP P ρ a := rs.ntrN (.inl h)
/-- what may be written is no tuple -/
def NoTup (H : Hp) (T : Ts) : Prop := ∀ a u, T a → H a = some u → (∀ xs, u ≠ .tup xs) ∧ (∀ o xs, u ≠ .frz o xs)
theorem RepS.nt (rs : RepS G H P ρ st) : NoTup H (TP P ρ) := fun a u t e => by
  obtain ⟨u', e', _, n1, n2, _⟩ := rs.tr t
  rw [e] at e'; cases e'; exact ⟨n1, n2⟩
theorem Kp.sqT (x : Kp T H T1 H1) (nt : NoTup H T) {a : Addr} {vs : List V} (h : SqT G.K H a vs) : SqT G.K H1 a vs := by
  rcases h with (h | ⟨o, h⟩) | h
  · exact .inl (.inl (x.keepX (fun t => (nt _ _ t h).1 _ rfl) h (by intros; simp) rfl))
  · exact .inl (.inr ⟨o, x.keepX (fun t => (nt _ _ t h).2 _ _ rfl) h (by intros; simp) rfl⟩)
  · exact .inr h
theorem tpO_tbl (tn : Bool) (o : Obj) (vs : List V) : ∀ ps, tpO tn o vs ≠ .tbl ps := by
  intro ps
  unfold tpO
  split <;> simp
theorem TupH.rd {tn : Bool} {a : Addr} {vs : List V} (h : TupH tn H a vs) : Rd H a (.tup vs) := by
  obtain ⟨o, _, h⟩ := h
  unfold tpO at h
  split at h
  · exact .inr ⟨o, h⟩
  · exact .inl h
theorem TupH.sq {tn : Bool} {K : PySem.W.Frag} {a : Addr} {vs : List V} (h : TupH tn H a vs) : SqT K H a vs := .inl h.rd
theorem TupH.off {tn : Bool} {a : Addr} {vs : List V} (h : TupH tn H a vs) (e : tn = false) : H a = some (.tup vs) := by
  obtain ⟨o, _, h⟩ := h
  subst e
  exact h
theorem TupH.on {tn : Bool} {a : Addr} {vs : List V} (h : TupH tn H a vs) (e : tn = true) : ∃ o : Obj, o.dict = none ∧ H a = some (.frz o (.tup vs)) := by
  obtain ⟨o, d, h⟩ := h
  subst e
  exact ⟨o, d, h⟩
theorem TupH.of {tn : Bool} {a : Addr} {vs : List V} (h : H a = some (.tup vs)) (e : tn = false) : TupH tn H a vs := by
  subst e
  exact ⟨{ cls := .none }, rfl, h⟩
theorem TupH.nt {tn : Bool} {a : Addr} {vs : List V} (nt : NoTup H T) (h : TupH tn H a vs) : ¬ T a := fun t => by
  obtain ⟨o, _, h⟩ := h
  unfold tpO at h
  split at h
  · exact (nt _ _ t h).2 _ _ rfl
  · exact (nt _ _ t h).1 _ rfl
theorem Kp.tupH (x : Kp T H T1 H1) (nt : NoTup H T) {tn : Bool} {a : Addr} {vs : List V} (h : TupH tn H a vs) : TupH tn H1 a vs := by
  have na := h.nt nt
  obtain ⟨o, d, h⟩ := h
  refine ⟨o, d, x.keepX na h (tpO_tbl _ _ _) ?_⟩
  unfold tpO
  split <;> rfl
theorem Kp.ntr (x : Kp T H T1 H1) {a : Addr} {o : HO} (h : H a = some o) (nt : ¬ T a) (t : ∀ ps, o ≠ .tbl ps := by intros; simp) : ¬ T1 a := fun tt => by
  rcases x.new a tt with z | z
  · exact nt z
  · exact z.no h t
theorem Kp.rd (x : Kp T H T1 H1) {a : Addr} {vs : List V} (na : ¬ T a) (h : Rd H a (.lst vs)) : Rd H1 a (.lst vs) := by
  rcases h with h | ⟨o, h⟩
  · exact .inl (x.keepX na h (by intros; simp) rfl)
  · exact .inr ⟨o, x.keepX na h (by intros; simp) rfl⟩
theorem Kp.ntrL (x : Kp T H T1 H1) {a : Addr} {vs : List V} (h : Rd H a (.lst vs)) (na : ¬ T a) : ¬ T1 a := by
  rcases h with h | ⟨o, h⟩
  · exact x.ntr h na
  · exact x.ntr h na
theorem Kp.ntrR (x : Kp T H T1 H1) {a : Addr} {u : HO} (h : Rd H a u) (na : ¬ T a) (ht : ∀ ps, u ≠ .tbl ps := by intros; simp) : ¬ T1 a := by
  rcases h with h | ⟨o, h⟩
  · exact x.ntr h na ht
  · exact x.ntr h na
theorem Kp.rdD (x : Kp T H T1 H1) {a : Addr} {u : HO} (na : ¬ T a) (ht : ∀ ps, u ≠ .tbl ps) (h : Rd H a u) : Rd H1 a u := by
  rcases h with h | ⟨o, h⟩
  · rcases x.keep a u na h ht with e | ⟨_, od, e⟩
    · exact .inl e
    · exact .inr ⟨od, e⟩
  · exact .inr ⟨o, x.keepX na h (by intros; simp) rfl⟩
mutual
theorem RepV.ext (x : Kp T H T1 H1) (nt : NoTup H T) : ∀ {y : Val} {v : V}, RepV G H T y v → RepV G H1 T1 y v
  | _, _, .non => .non
  | _, _, .bl b => .bl b
  | _, _, .int i => .int i
  | _, _, .str l h => .str l h
  | _, _, .tup h r => .tup (x.tupH nt h) (RepVs.ext x nt r)
  | _, _, .prs h r => .prs (x.keepX (fun t => (nt _ _ t h).1 _ rfl) h (by intros; simp) rfl) (RepVs.ext x nt r)
  | _, _, .lst h t r => .lst (x.keepX t h (by intros; simp) rfl) (x.ntr h t) (RepVs.ext x nt r)
  | _, _, .dicK h t r => .dicK (x.rdD t (by intros; simp) h) (x.ntrR h t) (RepK.ext x nt r)
  | _, _, .dicT h t r => .dicT (x.rdD t (by intros; simp) h) (x.ntrR h t) (RepT.ext x nt r)
  | _, _, .glb h r => .glb h r
  | _, _, .ty n => .ty n
  | _, _, .seqH h t r => .seqH (x.rd t h) (x.ntrL h t) (RepVs.ext x nt r)
  | _, _, .seqK h r => .seqK h (RepVs.ext x nt r)
  | _, _, .exn h n k => .exn h n fun i e => let ⟨dx, e1, e2, e3⟩ := k i e; ⟨dx, e1, x.keepX e3 e2 (by intros; simp) rfl, x.ntr e2 e3⟩
theorem RepVs.ext (x : Kp T H T1 H1) (nt : NoTup H T) : ∀ {ys : List Val} {vs : List V}, RepVs G H T ys vs → RepVs G H1 T1 ys vs
  | _, _, .nil => .nil
  | _, _, .cons r t => .cons (RepV.ext x nt r) (RepVs.ext x nt t)
theorem RepK.ext (x : Kp T H T1 H1) (nt : NoTup H T) : ∀ {ys : List (Val × Val)} {vs : List (Key × V)}, RepK G H T ys vs → RepK G H1 T1 ys vs
  | _, _, .nil => .nil
  | _, _, .cons k r q t => .cons k (RepV.ext x nt r) (RepV.ext x nt q) (RepK.ext x nt t)
theorem RepT.ext (x : Kp T H T1 H1) (nt : NoTup H T) : ∀ {ys : List (Val × Val)} {vs : List (List Key × V)}, RepT G H T ys vs → RepT G H1 T1 ys vs
  | _, _, .nil h => .nil h
  | _, _, .cons k r q t => .cons k (RepVs.ext x nt r) (RepV.ext x nt q) (RepT.ext x nt t)
end
theorem RepT.off : ∀ {ys : List (Val × Val)} {vs : List (List Key × V)}, RepT G H T ys vs → G.tn = false
  | _, _, .nil h => h
  | _, _, .cons _ _ _ t => RepT.off t
theorem RepO.ext (x : Kp T H T1 H1) (nt : NoTup H T) {o : SO} {a : Addr} (ha : H1 a = H a) : RepO G H T o a → RepO G H1 T1 o a
  | .lst h r => .lst (ha.trans h) (RepVs.ext x nt r)
  | .dicK h r => .dicK (ha.trans h) (RepK.ext x nt r)
  | .dicT h r => .dicT (ha.trans h) (RepT.ext x nt r)

/-! ### the heap's steps -/
theorem nn_new {p a : Addr} {o : HO} (h : H p = none) (n : NN (upd H p o) a) : NN H a := by
  by_cases z : a = p
  · subst z; exact .inl h
  · unfold NN at n; rw [upd_ne z] at n; exact n
theorem kp_new {p : Addr} {o : HO} (h : H p = none) : Kp T H T (upd H p o) :=
  ⟨fun a u _ e _ => .inl (by rw [upd_ne (ne_of_none e h)]; exact e), fun a n => nn_new h n, fun _ t => .inl t⟩
/-- .. which is held back from now on -/
theorem kp_newP {p : Addr} {o : HO} (h : H p = none) : Kp (TP P ρ) H (TP (Plus P p) ρ) (upd H p o) :=
  ⟨fun a u _ e _ => .inl (by rw [upd_ne (ne_of_none e h)]; exact e), fun a n => nn_new h n, fun _ t => t.elim (fun z => z.elim (fun z => .inl (.inl z)) fun z => .inr (by rw [z]; exact .inl h)) fun z => .inl (.inr z)⟩
theorem kp_write {a : Addr} {o : HO} (h : T a) (ho : ∀ ps, o ≠ .tbl ps := by intros; simp) : Kp T H T (upd H a o) :=
  ⟨fun b u nt e _ => .inl (by rw [upd_ne (fun z => nt (by rw [z]; exact h))]; exact e), fun b n => by
    by_cases z : b = a
    · subst z; exact (n.no upd_same ho).elim
    · unfold NN at n; rw [upd_ne z] at n; exact n, fun _ t => .inl t⟩
theorem Tabs_new {p : Addr} {o : HO} {L : List (Addr × Str)} (t : LamX.Tabs L H) (h : H p = none) : LamX.Tabs L (upd H p o) := t.ext fun b u e => by rw [upd_ne (ne_of_none e h)]; exact e
theorem Tabs_write {a : Addr} {o u : HO} {L : List (Addr × Str)} (t : LamX.Tabs L H) (h : H a = some u) (n1 : ∀ ps, u ≠ .tbl ps) (n2 : ∀ φ, u ≠ .ext φ) : LamX.Tabs L (upd H a o) := fun q hq => by
  obtain ⟨ps, h1, h2, h3⟩ := t q hq
  refine ⟨ps, ?_, h2, fun pos cv hc => ?_⟩
  · rw [upd_ne (fun z => by rw [z, h] at h1; exact n1 ps (Option.some.inj h1))]; exact h1
  · obtain ⟨c, e1, e2⟩ := h3 pos cv hc
    refine ⟨c, e1, ?_⟩
    rw [upd_ne (fun z => by rw [z, h] at e2; exact n2 _ (Option.some.inj e2))]; exact e2
/-- a new thing -/
theorem RepS.fresh (rs : RepS G H P ρ st) {p : Addr} {o : HO} (h : H p = none) : RepS G (upd H p o) P ρ st :=
  ⟨rs.len, rs.nd, fun l a e => by
    obtain ⟨o', e1, r⟩ := rs.obj l a e
    obtain ⟨u, e2, _⟩ := SO.plain r
    exact ⟨o', e1, r.ext (kp_new h) rs.nt (upd_ne (ne_of_none e2 h))⟩, rs.dead, Tabs_new rs.tab h, fun a pa => by
    obtain ⟨u, e, q⟩ := rs.prv a pa
    exact ⟨u, by rw [upd_ne (ne_of_none e h)]; exact e, q⟩, rs.apart⟩
/-- .. held back -/
theorem RepS.freshP (rs : RepS G H P ρ st) {p : Addr} {o : HO} (h : H p = none) (ho : Plain o) : RepS G (upd H p o) (Plus P p) ρ st :=
  ⟨rs.len, rs.nd, fun l a e => by
    obtain ⟨o', e1, r⟩ := rs.obj l a e
    obtain ⟨u, e2, _⟩ := SO.plain r
    exact ⟨o', e1, r.ext (kp_newP h) rs.nt (upd_ne (ne_of_none e2 h))⟩, rs.dead, Tabs_new rs.tab h, fun a pa => by
    rcases pa with pa | pa
    · obtain ⟨u, e, q⟩ := rs.prv a pa
      exact ⟨u, by rw [upd_ne (ne_of_none e h)]; exact e, q⟩
    · subst pa; exact ⟨o, upd_same, ho⟩, fun a pa t => by
    rcases pa with pa | pa
    · exact rs.apart a pa t
    · subst pa; exact rs.ntr h (.inr t)⟩
/-- what is held back no longer -/
theorem RepS.drop {a : Addr} (rs : RepS G H (Plus P a) ρ st) : RepS G H P ρ st :=
  have x : Kp (TP (Plus P a) ρ) H (TP P ρ) H := ⟨fun _ _ _ h _ => .inl h, fun _ h => h, fun _ t => .inl (t.elim (fun z => .inl (.inl z)) .inr)⟩
  ⟨rs.len, rs.nd, fun l b e => let ⟨o, e1, r⟩ := rs.obj l b e; ⟨o, e1, r.ext x rs.nt rfl⟩, rs.dead, rs.tab, fun b pb => rs.prv b (.inl pb), fun b pb => rs.apart b (.inl pb)⟩
theorem kp_drop {a : Addr} : Kp (TP (Plus P a) ρ) H (TP P ρ) H := ⟨fun _ _ _ h _ => .inl h, fun _ h => h, fun _ t => .inl (t.elim (fun z => .inl (.inl z)) .inr)⟩
/-- a held back thing is written -/
theorem RepS.writeP (rs : RepS G H P ρ st) {p : Addr} {o : HO} (h : P p) (ho : Plain o) : RepS G (upd H p o) P ρ st := by
  have x : Kp (TP P ρ) H (TP P ρ) (upd H p o) := kp_write (.inl h) ho.1
  obtain ⟨u, e, q⟩ := rs.prv p h
  refine ⟨rs.len, rs.nd, fun l a e1 => ?_, rs.dead, Tabs_write rs.tab e q.1 q.2.2.2, fun a pa => ?_, rs.apart⟩
  · obtain ⟨o', e2, r⟩ := rs.obj l a e1
    exact ⟨o', e2, r.ext x rs.nt (upd_ne fun z => rs.apart p h (by rw [← z]; exact tr_at e1))⟩
  · by_cases z : a = p
    · subst z; exact ⟨o, upd_same, ho⟩
    · obtain ⟨u, e, q⟩ := rs.prv a pa
      exact ⟨u, by rw [upd_ne z]; exact e, q⟩
/-- a cell is written -/
theorem RepS.write (rs : RepS G H P ρ st) {l : Nat} {a : Addr} {o : HO} {so : SO} (h : ρ[l]? = some (some a)) (r : RepO G (upd H a o) (TP P ρ) so a) : RepS G (upd H a o) P ρ (st.set l so) := by
  have ho : ∀ ps, o ≠ .tbl ps := by
    obtain ⟨u, e, q⟩ := SO.plain r
    rw [upd_same] at e; cases e; exact q.1
  have x : Kp (TP P ρ) H (TP P ρ) (upd H a o) := kp_write (.inr (tr_at h)) ho
  obtain ⟨o0, e0, r0⟩ := rs.obj l a h
  have hl : l < st.length := (List.getElem?_eq_some_iff.mp e0).1
  refine ⟨by rw [List.length_set]; exact rs.len, rs.nd, fun l' a' e => ?_, fun l' e => ?_, ?_, fun b pb => ?_, rs.apart⟩
  · by_cases z : l' = l
    · subst z
      rw [h] at e; cases e
      exact ⟨so, List.getElem?_set_self hl, r⟩
    · obtain ⟨o', e1, r'⟩ := rs.obj l' a' e
      refine ⟨o', by rw [List.getElem?_set_ne (Ne.symm z)]; exact e1, r'.ext x rs.nt (upd_ne fun q => z (rs.nd l' l a (by rw [← q]; exact e) h))⟩
  · have z : l' ≠ l := fun z => by subst z; rw [h] at e; cases e
    rw [List.getElem?_set_ne (Ne.symm z)]; exact rs.dead l' e
  · obtain ⟨u, e1, n1, _, _, n2⟩ := SO.plain r0
    exact Tabs_write rs.tab e1 n1 n2
  · obtain ⟨u, e, q⟩ := rs.prv b pb
    exact ⟨u, by rw [upd_ne fun z => rs.apart b pb (by rw [z]; exact tr_at h)]; exact e, q⟩
/-- a cell is bound anew, to a thing that nothing else leans on -/
theorem RepS.bind {l : Nat} {a : Addr} {so : SO} (rs : RepS G H (Plus P a) ρ st) (hl : l < st.length) (np : ¬ P a) (r : RepO G H (TP (Plus P a) ρ) so a) :
    RepS G H P (ρ.set l (some a)) (st.set l so) := by
  have hl' : l < ρ.length := by rw [rs.len]; exact hl
  have nt : ¬ Tr ρ a := rs.apart a (.inr rfl)
  have ntp := rs.nt
  have x : Kp (TP (Plus P a) ρ) H (TP P (ρ.set l (some a))) H := ⟨fun _ _ _ h _ => .inl h, fun _ h => h, fun b t => by
    rcases t with t | t
    · exact .inl (.inl (.inl t))
    · rcases List.mem_or_eq_of_mem_set t with t | t
      · exact .inl (.inr t)
      · exact .inl (.inl (.inr (Option.some.inj t)))⟩
  have key : ∀ {l1 : Nat} {b : Addr}, (ρ.set l (some a))[l1]? = some (some b) → (l1 = l ∧ b = a) ∨ (l1 ≠ l ∧ ρ[l1]? = some (some b)) := fun {l1 b} e => by
    by_cases z : l1 = l
    · subst z; rw [List.getElem?_set_self hl'] at e; exact .inl ⟨rfl, (Option.some.inj (Option.some.inj e)).symm⟩
    · rw [List.getElem?_set_ne (Ne.symm z)] at e; exact .inr ⟨z, e⟩
  refine ⟨by rw [List.length_set, List.length_set]; exact rs.len, fun l1 l2 b e1 e2 => ?_, fun l' b e => ?_, fun l' e => ?_, rs.tab, fun b pb => rs.prv b (.inl pb), fun b pb t => ?_⟩
  · rcases key e1 with ⟨z1, q1⟩ | ⟨z1, q1⟩ <;> rcases key e2 with ⟨z2, q2⟩ | ⟨z2, q2⟩
    · rw [z1, z2]
    · rw [q1] at q2; exact absurd (tr_at q2) nt
    · rw [q2] at q1; exact absurd (tr_at q1) nt
    · exact rs.nd _ _ _ q1 q2
  · rcases key e with ⟨z, q⟩ | ⟨z, q⟩
    · subst z; subst q
      exact ⟨so, List.getElem?_set_self hl, r.ext x ntp rfl⟩
    · obtain ⟨o', e1, r'⟩ := rs.obj l' b q
      exact ⟨o', by rw [List.getElem?_set_ne (Ne.symm z)]; exact e1, r'.ext x ntp rfl⟩
  · by_cases z : l' = l
    · subst z; rw [List.getElem?_set_self hl'] at e; cases e
    · rw [List.getElem?_set_ne (Ne.symm z)] at e ⊢
      exact rs.dead l' e
  · obtain ⟨l1, e⟩ := at_tr t
    rcases key e with ⟨z, q⟩ | ⟨z, q⟩
    · rw [q] at pb; exact np pb
    · exact rs.apart b (.inl pb) (tr_at q)
theorem kp_bind {l : Nat} {a : Addr} (h0 : NN H0 a) (k : Kp (Tr ρ) H0 (Tr ρ) H) : Kp (Tr ρ) H0 (Tr (ρ.set l (some a))) H :=
  ⟨k.keep, k.stay, fun b t => by
    rcases List.mem_or_eq_of_mem_set t with t | t
    · exact .inl t
    · exact .inr (by rw [Option.some.inj t]; exact h0)⟩
theorem kp_kill {l : Nat} : Kp (Tr ρ) H (Tr (ρ.set l none)) H :=
  ⟨fun _ _ _ h _ => .inl h, fun _ h => h, fun b t => by
    rcases List.mem_or_eq_of_mem_set t with t | t
    · exact .inl t
    · cases t⟩
/-- a cell dies: its thing is frozen -/
theorem RepS.kill (rs : RepS G H P ρ st) {l : Nat} {a : Addr} (h : ρ[l]? = some (some a)) : RepS G H P (ρ.set l none) (st.set l .dead) := by
  have hl' : l < ρ.length := (List.getElem?_eq_some_iff.mp h).1
  have hl : l < st.length := by rw [← rs.len]; exact hl'
  have x : Kp (TP P ρ) H (TP P (ρ.set l none)) H := (kp_kill (ρ := ρ) (H := H) (l := l)).tp
  have key : ∀ {l1 : Nat} {b : Addr}, (ρ.set l none)[l1]? = some (some b) → l1 ≠ l ∧ ρ[l1]? = some (some b) := fun {l1 b} e => by
    by_cases z : l1 = l
    · subst z; rw [List.getElem?_set_self hl'] at e; cases e
    · rw [List.getElem?_set_ne (Ne.symm z)] at e; exact ⟨z, e⟩
  refine ⟨by rw [List.length_set, List.length_set]; exact rs.len, fun l1 l2 b e1 e2 => rs.nd _ _ _ (key e1).2 (key e2).2, fun l' b e => ?_, fun l' e => ?_, rs.tab, rs.prv, fun b pb t => ?_⟩
  · obtain ⟨z, e⟩ := key e
    obtain ⟨o', e1, r'⟩ := rs.obj l' b e
    exact ⟨o', by rw [List.getElem?_set_ne (Ne.symm z)]; exact e1, r'.ext x rs.nt rfl⟩
  · by_cases z : l' = l
    · subst z; exact List.getElem?_set_self hl
    · rw [List.getElem?_set_ne (Ne.symm z)] at e ⊢
      exact rs.dead l' e
  · obtain ⟨l1, e⟩ := at_tr t
    exact rs.apart b pb (tr_at (key e).2)
theorem kill_ntr (rs : RepS G H P ρ st) {l : Nat} {a : Addr} (h : ρ[l]? = some (some a)) : ¬ TP P (ρ.set l none) a := fun t => by
  have hl' : l < ρ.length := (List.getElem?_eq_some_iff.mp h).1
  rcases t with t | t
  · exact rs.apart a t (tr_at h)
  · obtain ⟨l', e⟩ := at_tr t
    by_cases z : l' = l
    · subst z; rw [List.getElem?_set_self hl'] at e; cases e
    · rw [List.getElem?_set_ne (Ne.symm z)] at e
      exact z (rs.nd _ _ _ e h)
/-- the value that is read -/
theorem RepX.now (rs : RepS G H P ρ st) {z : SV} {v : V} {x : Val} (r : RepX G H0 H P ρ st z v) (e : z.val st = some x) : Now G H (TP P ρ) x v := by
  cases r with
  | v r => cases e; exact .rep r
  | loc h =>
    obtain ⟨o, e1, ro⟩ := rs.obj _ _ h
    cases ro with
    | lst h1 r => simp only [SV.val, e1, Option.some.injEq] at e; subst e; exact .lst h1 r
    | dicK h1 r => simp only [SV.val, e1, Option.some.injEq] at e; subst e; exact .dicK h1 r
    | dicT h1 r => simp only [SV.val, e1, Option.some.injEq] at e; subst e; exact .dicT h1 r
  | fl h n0 r rp np => cases e; exact .lst h (RepVs.ext kp_drop rp.nt r)
  | fdK h n0 r rp np => cases e; exact .dicK h (RepK.ext kp_drop rp.nt r)
  | fdT h n0 r rp np => cases e; exact .dicT h (RepT.ext kp_drop rp.nt r)
end
end Eng

namespace Eng
open PySem PySem.Spec PyProof.Rows L2

/-- tables of code objects; the exception that a suite holds -/
structure Lx where
  T : List (Addr × Str)
  ex : Option (Addr × Str × Option Addr)
  tn : Bool
abbrev gx (L : Lx) (X : Cx) : Gc := ⟨X.K, X.mg, L.T, L.ex, L.tn⟩
/-- an exception as it lies -/
def RepEx (G : Gc) (H : Hp) (e : Ex) (cls : Value) (d : Option Addr) : Prop :=
  G.mg e.cls = some cls ∧ (match e.arg with
    | none => d = none
    | some x => ∃ dx v, d = some dx ∧ H dx = some (.xd [("limit", v)]) ∧ RepV G H (fun _ => False) x v)
/-- the wish behind an expression -/
def Post (G : Gc) (W : WX) (σ : L2.St) (P : Ts) (ρ : Rho) (H : Hp) (r : Rv SV) (Q : VK) : Prop := match r with
  | .ok z st' => ∀ v H', Kp (Tr ρ) H (Tr ρ) H' → RepS G H' P ρ st' → RepX G H H' P ρ st' z v → Q v H'
  | .exc e st' => ∀ cls d H', Kp (Tr ρ) H (Tr ρ) H' → RepS G H' P ρ st' → RepEx G H' e cls d → W cls d σ H'
  | .bad => False
def PostB (G : Gc) (W : WX) (σ : L2.St) (P : Ts) (ρ : Rho) (H : Hp) (r : Rv Bool) (Q : Bool → Hp → Prop) : Prop := match r with
  | .ok b st' => ∀ H', Kp (Tr ρ) H (Tr ρ) H' → RepS G H' P ρ st' → Q b H'
  | .exc e st' => ∀ cls d H', Kp (Tr ρ) H (Tr ρ) H' → RepS G H' P ρ st' → RepEx G H' e cls d → W cls d σ H'
  | .bad => False
inductive RepZs (G : Gc) (H : Hp) (P : Ts) (ρ : Rho) : List SV → List V → Prop
  | nil : RepZs G H P ρ [] []
  | cons {z : SV} {v : V} {zs : List SV} {vs : List V} : RepZ G H P ρ z v → RepZs G H P ρ zs vs → RepZs G H P ρ (z :: zs) (v :: vs)
def PostA (G : Gc) (W : WX) (σ : L2.St) (P : Ts) (ρ : Rho) (H : Hp) (r : Rv (List SV)) (Q : List V → Hp → Prop) : Prop := match r with
  | .ok zs st' => ∀ vs H', Kp (Tr ρ) H (Tr ρ) H' → RepS G H' P ρ st' → RepZs G H' P ρ zs vs → Q vs H'
  | .exc e st' => ∀ cls d H', Kp (Tr ρ) H (Tr ρ) H' → RepS G H' P ρ st' → RepEx G H' e cls d → W cls d σ H'
  | .bad => False
def TEm (G : Gc) (W : WX) (f : Fe) : TE := fun σ H Q => ∃ env st ρ P, RepE G H P ρ env σ ∧ RepS G H P ρ st ∧ Post G W σ P ρ H (f env st) Q
def TTm (G : Gc) (W : WX) (f : Ft) : TT := fun σ H Q => ∃ env st ρ P, RepE G H P ρ env σ ∧ RepS G H P ρ st ∧ PostB G W σ P ρ H (f env st) Q
def TAm (G : Gc) (W : WX) (f : Env → Sto → Rv (List SV)) : TA := fun σ H Q => ∃ env st ρ P, RepE G H P ρ env σ ∧ RepS G H P ρ st ∧ PostA G W σ P ρ H (f env st) Q
abbrev EE (L : Lx) (X : Cx) (W : WX) (e : Expr) (f : Fe) : Prop := PE X e (TEm (gx L X) W f)
abbrev ET (L : Lx) (X : Cx) (W : WX) (e : Expr) (f : Ft) : Prop := PT X e (TTm (gx L X) W f)
abbrev EA (L : Lx) (X : Cx) (W : WX) (es : List Expr) (f : Env → Sto → Rv (List SV)) : Prop := PA X es (TAm (gx L X) W f)

theorem PE.weak {X : Cx} {e : Expr} {t t' : TE} (h : PE X e t) (w : ∀ σ H Q, t' σ H Q → t σ H Q) : PE X e t' := ⟨fun pins s σ H Q I q => h.run pins s σ H Q I (w σ H Q q)⟩
theorem PT.weak {X : Cx} {e : Expr} {t t' : TT} (h : PT X e t) (w : ∀ σ H Q, t' σ H Q → t σ H Q) : PT X e t' := ⟨fun pins s σ H Q I q => h.run pins s σ H Q I (w σ H Q q)⟩
theorem PW.weak {X : Cx} {e : Expr} {t t' : TT} (h : PW X e t) (w : ∀ σ H Q, t' σ H Q → t σ H Q) : PW X e t' := ⟨fun wh pins s σ H Q I q => h.run wh pins s σ H Q I (w σ H Q q)⟩
theorem PA.weak {X : Cx} {e : List Expr} {t t' : TA} (h : PA X e t) (w : ∀ σ H Q, t' σ H Q → t σ H Q) : PA X e t' := ⟨fun pos pins s σ H Q I q => h.run pos pins s σ H Q I (w σ H Q q)⟩
theorem PS.weak {X : Cx} {e : Stmt} {t t' : TS} (h : PS X e t) (w : ∀ D σ H, t' D σ H → t D σ H) : PS X e t' := ⟨fun pins s σ H D I q => h.run pins s σ H D I (w D σ H q)⟩
theorem PSs.weak {X : Cx} {e : List Stmt} {t t' : TS} (h : PSs X e t) (w : ∀ D σ H, t' D σ H → t D σ H) : PSs X e t' := ⟨fun pins s σ H D I q => h.run pins s σ H D I (w D σ H q)⟩
theorem PG.weak {X : Cx} {e : Expr} {t t' : TG} (h : PG X e t) (w : ∀ v σ H Q, t' v σ H Q → t v σ H Q) : PG X e t' := ⟨fun pins s σ H v u Q I r q => h.run pins s σ H v u Q I r (w v σ H Q q)⟩
theorem PI.weak {X : Cx} {tg e : Expr} {t t' : TI} (h : PI X tg e t) (w : ∀ σ H Q, t' σ H Q → t σ H Q) : PI X tg e t' := ⟨fun pins s σ H Q I q => h.run pins s σ H Q I (w σ H Q q)⟩

section
variable {G : Gc} {W : WX} {σ : L2.St} {H H0 H1 H2 H' : Hp} {ρ ρ1 ρ2 ρ' : Rho} {P P1 : Ts} {env env' : Env} {st st' st1 st2 : Sto}
theorem RepX.base {ρ0 ρ1 : Rho} {z : SV} {v : V} (k : Kp (Tr ρ0) H0 (Tr ρ1) H1) (r : RepX G H1 H P ρ st z v) : RepX G H0 H P ρ st z v := by
  cases r with
  | v r => exact .v r
  | loc h => exact .loc h
  | fl h n0 r rs np => exact .fl h (k.none n0) r rs np
  | fdK h n0 r rs np => exact .fdK h (k.none n0) r rs np
  | fdT h n0 r rs np => exact .fdT h (k.none n0) r rs np
def SV.froz : SV → SV
  | .fl xs => .v (.lst xs)
  | .fd t kvs => .v (.dic t kvs)
  | z => z
theorem RepX.z {z : SV} {v : V} (r : RepX G H0 H P ρ st z v) : RepZ G H P ρ z.froz v := by
  cases r with
  | v r => exact .v r
  | loc h => exact .loc h
  | fl h n0 r rp np => exact .v (.lst h (fun t => t.elim np (rp.apart _ (.inr rfl))) (RepVs.ext kp_drop rp.nt r))
  | fdK h n0 r rp np => exact .v (.dicK (.inl h) (fun t => t.elim np (rp.apart _ (.inr rfl))) (RepK.ext kp_drop rp.nt r))
  | fdT h n0 r rp np => exact .v (.dicT (.inl h) (fun t => t.elim np (rp.apart _ (.inr rfl))) (RepT.ext kp_drop rp.nt r))
theorem RepZ.ext (k : Kp (Tr ρ) H (Tr ρ) H1) (rs : RepS G H P ρ st) {z : SV} {v : V} (r : RepZ G H P ρ z v) : RepZ G H1 P ρ z v := by
  cases r with
  | v r => exact .v (r.ext k.tp rs.nt)
  | loc h => exact .loc h
theorem RepZ.x {z : SV} {v : V} (r : RepZ G H P ρ z v) : RepX G H0 H P ρ st z v := by
  cases r with
  | v r => exact .v r
  | loc h => exact .loc h
theorem RepZs.ext (k : Kp (Tr ρ) H (Tr ρ) H1) (rs : RepS G H P ρ st) : ∀ {zs : List SV} {vs : List V}, RepZs G H P ρ zs vs → RepZs G H1 P ρ zs vs
  | _, _, .nil => .nil
  | _, _, .cons r t => .cons (r.ext k rs) (RepZs.ext k rs t)
theorem froz_val (z : SV) (st : Sto) : z.froz.val st = z.val st := by cases z <;> rfl
theorem RepZ.now (rs : RepS G H P ρ st) {z : SV} {v : V} {x : Val} (r : RepZ G H P ρ z v) (e : z.val st = some x) : Now G H (TP P ρ) x v := RepX.now (H0 := H) rs r.x e
/-- what came earlier, read later -/
theorem RepX.now2 (rs : RepS G H P ρ st) (k : Kp (Tr ρ) H (Tr ρ) H1) (rs1 : RepS G H1 P ρ st1) {z : SV} {v : V} {x : Val} (r : RepX G H0 H P ρ st z v) (e : z.val st1 = some x) : Now G H1 (TP P ρ) x v :=
  RepZ.now rs1 ((r.z).ext k rs) (by rw [froz_val]; exact e)
theorem RepE.ext (k : Kp (Tr ρ) H (Tr ρ) H1) (rs : RepS G H P ρ st) (re : RepE G H P ρ env σ) : RepE G H1 P ρ env σ :=
  ⟨re.len, fun i z h => let ⟨v, e, r⟩ := re.get i z h; ⟨v, e, r.ext k rs⟩⟩
theorem Post.step {r : Rv SV} {Q : VK} (k : Kp (Tr ρ) H (Tr ρ) H1) (p : Post G W σ P ρ H r Q) : Post G W σ P ρ H1 r Q := by
  cases r with
  | ok z st' => exact fun v H' k' rs r => p v H' (k.trans k') rs (r.base k)
  | exc e st' => exact fun c d H' k' rs r => p c d H' (k.trans k') rs r
  | bad => exact p
theorem PostB.step {r : Rv Bool} {Q : Bool → Hp → Prop} (k : Kp (Tr ρ) H (Tr ρ) H1) (p : PostB G W σ P ρ H r Q) : PostB G W σ P ρ H1 r Q := by
  cases r with
  | ok z st' => exact fun H' k' rs => p H' (k.trans k') rs
  | exc e st' => exact fun c d H' k' rs r => p c d H' (k.trans k') rs r
  | bad => exact p
theorem PostA.step {r : Rv (List SV)} {Q : List V → Hp → Prop} (k : Kp (Tr ρ) H (Tr ρ) H1) (p : PostA G W σ P ρ H r Q) : PostA G W σ P ρ H1 r Q := by
  cases r with
  | ok z st' => exact fun v H' k' rs r => p v H' (k.trans k') rs r
  | exc e st' => exact fun c d H' k' rs r => p c d H' (k.trans k') rs r
  | bad => exact p
/-- one expression, and what is done with it -/
theorem Post.then {r : Rv SV} {f : SV → Sto → Rv SV} {Q Q' : VK} (p : Post G W σ P ρ H (r.bind f) Q) (w : ∀ z st1 v H1, Kp (Tr ρ) H (Tr ρ) H1 → RepS G H1 P ρ st1 → RepX G H H1 P ρ st1 z v → Post G W σ P ρ H1 (f z st1) Q → Q' v H1) : Post G W σ P ρ H r Q' := by
  cases r with
  | ok z st1 => exact fun v H1 k rs rx => w z st1 v H1 k rs rx (Post.step k p)
  | exc e st1 => exact p
  | bad => exact p
theorem Post.thenB {r : Rv SV} {f : SV → Sto → Rv Bool} {Q : Bool → Hp → Prop} {Q' : VK} (p : PostB G W σ P ρ H (r.bind f) Q) (w : ∀ z st1 v H1, Kp (Tr ρ) H (Tr ρ) H1 → RepS G H1 P ρ st1 → RepX G H H1 P ρ st1 z v → PostB G W σ P ρ H1 (f z st1) Q → Q' v H1) : Post G W σ P ρ H r Q' := by
  cases r with
  | ok z st1 => exact fun v H1 k rs rx => w z st1 v H1 k rs rx (PostB.step k p)
  | exc e st1 => exact p
  | bad => exact p
theorem Post.thenA {r : Rv SV} {f : SV → Sto → Rv (List SV)} {Q : List V → Hp → Prop} {Q' : VK} (p : PostA G W σ P ρ H (r.bind f) Q) (w : ∀ z st1 v H1, Kp (Tr ρ) H (Tr ρ) H1 → RepS G H1 P ρ st1 → RepX G H H1 P ρ st1 z v → PostA G W σ P ρ H1 (f z st1) Q → Q' v H1) : Post G W σ P ρ H r Q' := by
  cases r with
  | ok z st1 => exact fun v H1 k rs rx => w z st1 v H1 k rs rx (PostA.step k p)
  | exc e st1 => exact p
  | bad => exact p
theorem PostB.then {r : Rv Bool} {f : Bool → Sto → Rv SV} {Q : VK} {Q' : Bool → Hp → Prop} (p : Post G W σ P ρ H (r.bind f) Q) (w : ∀ z st1 H1, Kp (Tr ρ) H (Tr ρ) H1 → RepS G H1 P ρ st1 → Post G W σ P ρ H1 (f z st1) Q → Q' z H1) : PostB G W σ P ρ H r Q' := by
  cases r with
  | ok z st1 => exact fun H1 k rs => w z st1 H1 k rs (Post.step k p)
  | exc e st1 => exact p
  | bad => exact p
theorem PostB.thenB {r : Rv Bool} {f : Bool → Sto → Rv Bool} {Q Q' : Bool → Hp → Prop} (p : PostB G W σ P ρ H (r.bind f) Q) (w : ∀ z st1 H1, Kp (Tr ρ) H (Tr ρ) H1 → RepS G H1 P ρ st1 → PostB G W σ P ρ H1 (f z st1) Q → Q' z H1) : PostB G W σ P ρ H r Q' := by
  cases r with
  | ok z st1 => exact fun H1 k rs => w z st1 H1 k rs (PostB.step k p)
  | exc e st1 => exact p
  | bad => exact p
theorem PostA.then {r : Rv (List SV)} {f : List SV → Sto → Rv SV} {Q : VK} {Q' : List V → Hp → Prop} (p : Post G W σ P ρ H (r.bind f) Q) (w : ∀ z st1 v H1, Kp (Tr ρ) H (Tr ρ) H1 → RepS G H1 P ρ st1 → RepZs G H1 P ρ z v → Post G W σ P ρ H1 (f z st1) Q → Q' v H1) : PostA G W σ P ρ H r Q' := by
  cases r with
  | ok z st1 => exact fun v H1 k rs rx => w z st1 v H1 k rs rx (Post.step k p)
  | exc e st1 => exact p
  | bad => exact p
theorem PostA.thenA {r : Rv (List SV)} {f : List SV → Sto → Rv (List SV)} {Q Q' : List V → Hp → Prop} (p : PostA G W σ P ρ H (r.bind f) Q) (w : ∀ z st1 v H1, Kp (Tr ρ) H (Tr ρ) H1 → RepS G H1 P ρ st1 → RepZs G H1 P ρ z v → PostA G W σ P ρ H1 (f z st1) Q → Q' v H1) : PostA G W σ P ρ H r Q' := by
  cases r with
  | ok z st1 => exact fun v H1 k rs rx => w z st1 v H1 k rs rx (PostA.step k p)
  | exc e st1 => exact p
  | bad => exact p
end

/-! ### what ops are, on plain data -/
def eVar (i : Nat) : Fe := fun env st => match env[i]? with
  | some (some z) => .ok z st
  | _ => .bad
def eC (x : Val) : Fe := fun _ st => .ok (.v x) st
def outO (r : Option SV) (st : Sto) : Rv SV := match r with
  | some z => .ok z st
  | none => .bad
def e1 (o : Val → Option SV) (fa : Fe) : Fe := fun env st => (fa env st).bind fun x st1 => outO ((x.val st1).bind o) st1
def e2 (o : Val → Val → Option SV) (fa fb : Fe) : Fe := fun env st => (fa env st).bind fun x st1 => (fb env st1).bind fun y st2 => outO ((x.val st2).bind fun a => (y.val st2).bind fun b => o a b) st2
def outB (r : Option SV) (st : Sto) : Rv Bool := match r with
  | some (.v (.bl b)) => .ok b st
  | _ => .bad
def tV (fa : Fe) : Ft := fun env st => (fa env st).bind fun x st1 => outB (some x) st1
def tAnd (fa fb : Ft) : Ft := fun env st => (fa env st).bind fun b st1 => if b = true then fb env st1 else .ok false st1
def tOr (fa fb : Ft) : Ft := fun env st => (fa env st).bind fun b st1 => if b = true then .ok true st1 else fb env st1
def tNot (fa : Ft) : Ft := fun env st => (fa env st).bind fun b st1 => .ok (!b) st1
def asB : SV → Option Bool
  | .v (.bl b) => some b
  | _ => none
def eAnd (fa fb : Fe) : Fe := fun env st => (fa env st).bind fun x st1 => match asB x with
  | some true => fb env st1
  | some false => .ok (.v (.bl false)) st1
  | none => .bad
def eOr (fa fb : Fe) : Fe := fun env st => (fa env st).bind fun x st1 => match asB x with
  | some true => .ok (.v (.bl true)) st1
  | some false => fb env st1
  | none => .bad
def eNot (fa : Fe) : Fe := fun env st => (fa env st).bind fun x st1 => match asB x with
  | some b => .ok (.v (.bl (!b))) st1
  | none => .bad
def eIf (t : Ft) (fa fb : Fe) : Fe := fun env st => (t env st).bind fun b st1 => if b = true then fa env st1 else fb env st1
def aNil : Env → Sto → Rv (List SV) := fun _ st => .ok [] st
def aCons (fa : Fe) (fr : Env → Sto → Rv (List SV)) : Env → Sto → Rv (List SV) := fun env st => (fa env st).bind fun x st1 => (fr env st1).bind fun xs st2 => .ok (x.froz :: xs) st2

/-- ops: what of two values comes -/
def POp (G : Gc) (P : Ts) (ρ : Rho) (st : Sto) (H : Hp) (r : Option SV) (Q : VK) : Prop := match r with
  | some z => ∀ v H', Kp (Tr ρ) H (Tr ρ) H' → RepS G H' P ρ st → RepX G H H' P ρ st z v → Q v H'
  | none => False
def R2m (G : Gc) (o : Val → Val → Option SV) : R2 := fun x y H Q => ∃ ρ P st a b, RepS G H P ρ st ∧ Now G H (TP P ρ) a x ∧ Now G H (TP P ρ) b y ∧ POp G P ρ st H (o a b) Q
def R1m (G : Gc) (o : Val → Option SV) : V → Hp → VK → Prop := fun x H Q => ∃ ρ P st a, RepS G H P ρ st ∧ Now G H (TP P ρ) a x ∧ POp G P ρ st H (o a) Q
theorem POp.of {G : Gc} {W : WX} {σ : L2.St} {P : Ts} {ρ : Rho} {st : Sto} {H : Hp} {r : Option SV} {Q : VK} (p : Post G W σ P ρ H (outO r st) Q) : POp G P ρ st H r Q := by
  cases r with
  | some z => exact p
  | none => exact p

section
variable {L : Lx} {X : Cx} {W : WX} {a b c e : Expr} {es rest : List Expr} {fa fb fc : Fe} {ta tb : Ft} {pos : Pos}
theorem ee_var (i : Nat) {x : Str} (hN : X.N[i]? = some x := by rfl) (hv : Vis X.env.scope x := by first | exact Or.inl rfl | exact Or.inr (Or.inl rfl) | exact Or.inr (Or.inr rfl)) (hd : (x == ("__debug__" : Str)) = false := by decide)
    (hcd : (x == ("__classdict__" : Str)) = false := by decide) : EE L X W (.Name x pos) (eVar i) := by
  refine PE.weak (pe_var hN hv hd hcd) fun σ H Q ⟨env, st, ρ, P, re, rs, p⟩ => ?_
  unfold eVar at p
  cases h : env[i]? with
  | none => rw [h] at p; exact p.elim
  | some o =>
    cases o with
    | none => rw [h] at p; exact p.elim
    | some z =>
      rw [h] at p
      obtain ⟨v, e, r⟩ := re.get i z h
      exact ⟨v, e, p v H Kp.refl rs r.x⟩
theorem ee_C {t : V} {x : Val} (h : PE X e (tC t)) (r : ∀ H T, RepV (gx L X) H T x t) : EE L X W e (eC x) :=
  PE.weak h fun σ H Q ⟨env, st, ρ, P, re, rs, p⟩ => p t H Kp.refl rs (.v (r _ _))
theorem ee_int {i : Int} {j} : EE L X W (.Constant (.int i) j pos) (eC (.int i)) := ee_C pe_int fun _ _ => .int i
theorem ee_bl {i : Bool} {j} : EE L X W (.Constant (.bool i) j pos) (eC (.bl i)) := ee_C pe_bl fun _ _ => .bl i
theorem ee_non {j} : EE L X W (.Constant .none j pos) (eC .non) := ee_C pe_non fun _ _ => .non
theorem ee_str {s : Str} (l : List Nat) {j} (hs : s = toS l := by rfl) (hl : SOk l = true := by rfl) : EE L X W (.Constant (.str s) j pos) (eC (.str l)) := by
  subst hs
  exact ee_C pe_str fun _ _ => .str l hl

theorem two {ta' tb' : TE} {r : R2} {o : Val → Val → Option SV} (σ : L2.St) (H : Hp) (Q : VK) (h : TEm (gx L X) W (e2 o fa fb) σ H Q) (w : ∀ x y H2 Q, R2m (gx L X) o x y H2 Q → r x y H2 Q)
    (ea : ∀ σ H Q, TEm (gx L X) W fa σ H Q → ta' σ H Q) (eb : ∀ σ H Q, TEm (gx L X) W fb σ H Q → tb' σ H Q) : tOp r ta' tb' σ H Q := by
  obtain ⟨env, st, ρ, P, re, rs, p⟩ := h
  refine ea _ _ _ ⟨env, st, ρ, P, re, rs, p.then fun x st1 v H1 k1 rs1 rx p => ?_⟩
  refine eb _ _ _ ⟨env, st1, ρ, P, re.ext k1 rs, rs1, p.then fun y st2 u H2 k2 rs2 ry p => ?_⟩
  have p := POp.of p
  cases h1 : x.val st2 with
  | none => rw [h1] at p; exact p.elim
  | some a =>
    cases h2 : y.val st2 with
    | none => rw [h1, h2] at p; exact p.elim
    | some b =>
      rw [h1, h2] at p
      exact w _ _ _ _ ⟨ρ, P, st2, a, b, rs2, rx.now2 rs1 k2 rs2 h1, ry.now rs2 h2, p⟩
theorem ee_op {op : Operator} {o : Val → Val → Option SV} (ho : OpR X (binaryOp op) (R2m (gx L X) o)) (ha : EE L X W a fa) (hb : EE L X W b fb) : EE L X W (.BinOp a op b pos) (e2 o fa fb) :=
  PE.weak (pe_op ho ha hb) fun σ H Q h => two σ H Q h (fun _ _ _ _ q => q) (fun _ _ _ q => q) fun _ _ _ q => q
theorem ee_cmp {op : CmpOp} {o : Val → Val → Option SV} (ho : OpR X (compareOp op) (R2m (gx L X) o)) (ha : EE L X W a fa) (hb : EE L X W b fb) (hm : behindInMarks op b = false := by with_unfolding_all rfl) : EE L X W (.Compare a [op] [b] pos) (e2 o fa fb) :=
  PE.weak (pe_cmpR ho ha hb hm) fun σ H Q h => two σ H Q h (fun _ _ _ _ q => q) (fun _ _ _ q => q) fun _ _ _ q => q
theorem ee_ix {o : Val → Val → Option SV} (ho : IxR X (R2m (gx L X) o)) (ha : EE L X W a fa) (hb : EE L X W b fb) (hs : PlainIx b := by exact fun _ _ => rfl) : EE L X W (.Subscript a b pos) (e2 o fa fb) :=
  PE.weak (pe_ix ho ha hb hs) fun σ H Q h => two σ H Q h (fun _ _ _ _ q => q) (fun _ _ _ q => q) fun _ _ _ q => q
theorem one {ta' : TE} {o : Val → Option SV} (σ : L2.St) (H : Hp) (Q : VK) (h : TEm (gx L X) W (e1 o fa) σ H Q) (ea : ∀ σ H Q, TEm (gx L X) W fa σ H Q → ta' σ H Q) : ta' σ H fun x H1 => R1m (gx L X) o x H1 Q := by
  obtain ⟨env, st, ρ, P, re, rs, p⟩ := h
  refine ea _ _ _ ⟨env, st, ρ, P, re, rs, p.then fun x st1 v H1 k1 rs1 rx p => ?_⟩
  have p := POp.of p
  cases h1 : x.val st1 with
  | none => rw [h1] at p; exact p.elim
  | some a => rw [h1] at p; exact ⟨ρ, P, st1, a, rs1, rx.now rs1 h1, p⟩
theorem ee_un {op : UnaryOp} {o : Val → Option SV} (ho : UnR X (unaryOp op) (R1m (gx L X) o)) (ha : EE L X W a fa) : EE L X W (.UnaryOp op a pos) (e1 o fa) :=
  PE.weak (pe_un ho ha) fun σ H Q h => one σ H Q h fun _ _ _ q => q

/-! ### tests -/
theorem asB_some {z : SV} {b : Bool} (h : asB z = some b) : z = .v (.bl b) := by
  cases z with
  | v x => cases x <;> simp [asB] at h; subst h; rfl
  | _ => simp [asB] at h
theorem et_of {t : TE} (h : EE L X W a fa) (hp : ∀ {t : TE}, PE X a t → PT X a (tB t)) : ET L X W a (tV fa) := by
  refine PT.weak (hp h) fun σ H Q ⟨env, st, ρ, P, re, rs, p⟩ => ⟨env, st, ρ, P, re, rs, Post.thenB p fun z st1 v H1 k rs1 rx p => ?_⟩
  cases q : asB z with
  | none =>
    exfalso
    cases z with
    | v x => cases x <;> first | exact p | simp [asB] at q
    | _ => exact p
  | some b =>
    obtain rfl := asB_some q
    cases rx with
    | v r => cases r; exact ⟨b, rfl, p H1 Kp.refl rs1⟩
theorem et_val (h : EE L X W a fa) (he : ∀ whole, isTrue a X.env whole = (do let v ← whole; standAt a.pos; holding [v] (truthy v)) := by intro _; rfl) : ET L X W a (tV fa) := et_of (t := tC .non) h fun h => pt_val h he
theorem tTestB {t : TE} {o : TT} (h : ∀ σ H Q, o σ H Q → tTest t σ H Q) : ∀ σ H Q, o σ H Q → tTest t σ H Q := h
theorem et_cmp {op : CmpOp} {o : Val → Val → Option SV} (ho : OpR X (compareOp op) (R2m (gx L X) o)) (ha : EE L X W a fa) (hb : EE L X W b fb) (hm : behindInMarks op b = false := by with_unfolding_all rfl) : ET L X W (.Compare a [op] [b] pos) (tV (e2 o fa fb)) := by
  refine PT.weak (pt_cmpR ho ha hb hm) fun σ H Q ⟨env, st, ρ, P, re, rs, p⟩ => ?_
  have := two (r := R2m (gx L X) o) (ta' := TEm (gx L X) W fa) (tb' := TEm (gx L X) W fb) σ H (fun x H' => ∃ k, x = .bl k ∧ Q k H') ⟨env, st, ρ, P, re, rs, Post.thenB p fun z st1 v H1 k rs1 rx p => ?_⟩ (fun _ _ _ _ q => q) (fun _ _ _ q => q) (fun _ _ _ q => q)
  · exact this
  · cases q : asB z with
    | none =>
      exfalso
      cases z with
      | v x => cases x <;> first | exact p | simp [asB] at q
      | _ => exact p
    | some b =>
      obtain rfl := asB_some q
      cases rx with
      | v r => cases r; exact ⟨b, rfl, p H1 Kp.refl rs1⟩
theorem et_not (ha : ET L X W a ta) : ET L X W (.UnaryOp .Not a pos) (tNot ta) := by
  refine PT.weak (pt_not ha) fun σ H Q ⟨env, st, ρ, P, re, rs, p⟩ => ⟨env, st, ρ, P, re, rs, p.thenB fun z st1 H1 k rs1 p => ?_⟩
  exact p H1 Kp.refl rs1
abbrev EW (L : Lx) (X : Cx) (W : WX) (e : Expr) (f : Ft) : Prop := PW X e (TTm (gx L X) W f)
theorem ew_and1 (ha : ET L X W a ta) : EW L X W (.BoolOp .And [a] pos) ta := pw_and1 ha
theorem ew_or1 (ha : ET L X W a ta) : EW L X W (.BoolOp .Or [a] pos) ta := pw_or1 ha
theorem ew_and (ha : ET L X W a ta) (hb : EW L X W (.BoolOp .And (b :: rest) pos) tb) : EW L X W (.BoolOp .And (a :: b :: rest) pos) (tAnd ta tb) := by
  refine PW.weak (pw_and ha hb) fun σ H Q ⟨env, st, ρ, P, re, rs, p⟩ => ⟨env, st, ρ, P, re, rs, p.thenB fun z st1 H1 k rs1 p => ?_⟩
  cases z with
  | true => exact ⟨env, st1, ρ, P, re.ext k rs, rs1, p⟩
  | false => exact p H1 Kp.refl rs1
theorem ew_or (ha : ET L X W a ta) (hb : EW L X W (.BoolOp .Or (b :: rest) pos) tb) : EW L X W (.BoolOp .Or (a :: b :: rest) pos) (tOr ta tb) := by
  refine PW.weak (pw_or ha hb) fun σ H Q ⟨env, st, ρ, P, re, rs, p⟩ => ⟨env, st, ρ, P, re, rs, p.thenB fun z st1 H1 k rs1 p => ?_⟩
  cases z with
  | true => exact p H1 Kp.refl rs1
  | false => exact ⟨env, st1, ρ, P, re.ext k rs, rs1, p⟩
theorem et_w (h : EW L X W a ta) : ET L X W a ta := h.pt

/-! ### and, or, not, if as values -/
theorem bl_of {G : Gc} {H0 H : Hp} {P : Ts} {ρ : Rho} {st : Sto} {z : SV} {v : V} {b : Bool} (q : asB z = some b) (r : RepX G H0 H P ρ st z v) : v = .bl b := by
  obtain rfl := asB_some q
  cases r with
  | v r => cases r; rfl
theorem ee_one {op} (h : EE L X W a fa) : EE L X W (.BoolOp op [a] pos) fa := pe_one h
theorem ee_and (ha : EE L X W a fa) (hb : EE L X W (.BoolOp .And (b :: rest) pos) fb) : EE L X W (.BoolOp .And (a :: b :: rest) pos) (eAnd fa fb) := by
  refine PE.weak (pe_and ha hb) fun σ H Q ⟨env, st, ρ, P, re, rs, p⟩ => ⟨env, st, ρ, P, re, rs, p.then fun z st1 v H1 k rs1 rx p => ?_⟩
  cases q : asB z with
  | none => simp only [q] at p; exact p.elim
  | some b =>
    simp only [q] at p
    refine ⟨b, bl_of q rx, ?_⟩
    cases b with
    | true => exact ⟨env, st1, ρ, P, re.ext k rs, rs1, p⟩
    | false => exact p _ H1 Kp.refl rs1 (.v (.bl false))
theorem ee_or (ha : EE L X W a fa) (hb : EE L X W (.BoolOp .Or (b :: rest) pos) fb) : EE L X W (.BoolOp .Or (a :: b :: rest) pos) (eOr fa fb) := by
  refine PE.weak (pe_or ha hb) fun σ H Q ⟨env, st, ρ, P, re, rs, p⟩ => ⟨env, st, ρ, P, re, rs, p.then fun z st1 v H1 k rs1 rx p => ?_⟩
  cases q : asB z with
  | none => simp only [q] at p; exact p.elim
  | some b =>
    simp only [q] at p
    refine ⟨b, bl_of q rx, ?_⟩
    cases b with
    | true => exact p _ H1 Kp.refl rs1 (.v (.bl true))
    | false => exact ⟨env, st1, ρ, P, re.ext k rs, rs1, p⟩
theorem ee_not (ha : EE L X W a fa) : EE L X W (.UnaryOp .Not a pos) (eNot fa) := by
  refine PE.weak (pe_not ha) fun σ H Q ⟨env, st, ρ, P, re, rs, p⟩ => ⟨env, st, ρ, P, re, rs, p.then fun z st1 v H1 k rs1 rx p => ?_⟩
  cases q : asB z with
  | none => simp only [q] at p; exact p.elim
  | some b =>
    simp only [q] at p
    exact ⟨b, bl_of q rx, p _ H1 Kp.refl rs1 (.v (.bl _))⟩
theorem ee_if (hc : ET L X W c ta) (ha : EE L X W a fa) (hb : EE L X W b fb) : EE L X W (.IfExp c a b pos) (eIf ta fa fb) := by
  refine PE.weak (pe_ifExp hc ha hb) fun σ H Q ⟨env, st, ρ, P, re, rs, p⟩ => ⟨env, st, ρ, P, re, rs, PostB.then p fun z st1 H1 k rs1 p => ?_⟩
  cases z with
  | true => exact ⟨env, st1, ρ, P, re.ext k rs, rs1, p⟩
  | false => exact ⟨env, st1, ρ, P, re.ext k rs, rs1, p⟩
/-! ### argument lists -/
variable {fr : Env → Sto → Rv (List SV)}
theorem ea_nil : EA L X W [] aNil := PA.weak pa_nil fun σ H Q ⟨env, st, ρ, P, re, rs, p⟩ => p [] H Kp.refl rs .nil
theorem ea_cons (ha : EE L X W e fa) (hr : EA L X W es fr) (hs : starEach (e :: es) X.env = (false, eval e X.env) :: starEach es X.env := by rfl) : EA L X W (e :: es) (aCons fa fr) := by
  refine PA.weak (pa_cons ha hr hs) fun σ H Q ⟨env, st, ρ, P, re, rs, p⟩ => ⟨env, st, ρ, P, re, rs, Post.thenA p fun z st1 v H1 k rs1 rx p => ?_⟩
  refine ⟨env, st1, ρ, P, re.ext k rs, rs1, p.thenA fun zs st2 vs H2 k2 rs2 rz p => ?_⟩
  exact p _ H2 Kp.refl rs2 (.cons ((rx.z).ext k2 rs1) rz)
end
end Eng

namespace Eng
open PySem PySem.Spec PyProof.Rows L2

/-! ### a chain of two comparisons -/
def eChain (o o' : Val → Val → Option SV) (fa fb fc : Fe) : Fe := fun env st => (fa env st).bind fun x st1 => (fb env st1).bind fun y st2 =>
  match ((x.val st2).bind fun a => (y.val st2).bind fun b => o a b).bind asB with
  | some true => (fc env st2).bind fun z st3 => outO ((y.val st3).bind fun b => (z.val st3).bind fun c => o' b c) st3
  | some false => .ok (.v (.bl false)) st2
  | none => .bad
section
variable {L : Lx} {X : Cx} {W : WX} {a b c e : Expr} {es rest : List Expr} {fa fb fc : Fe} {ta tb : Ft} {pos : Pos} {op op' : CmpOp} {o o' : Val → Val → Option SV}
theorem chain_tm (σ : L2.St) (H : Hp) (Q : VK) (h : TEm (gx L X) W (eChain o o' fa fb fc) σ H Q) : tChain (R2m (gx L X) o) (R2m (gx L X) o') (TEm (gx L X) W fa) (TEm (gx L X) W fb) (TEm (gx L X) W fc) σ H Q := by
  obtain ⟨env, st, ρ, P, re, rs, p⟩ := h
  refine ⟨env, st, ρ, P, re, rs, Post.then p fun x st1 v H1 k1 rs1 rx p => ?_⟩
  refine ⟨env, st1, ρ, P, re.ext k1 rs, rs1, Post.then p fun y st2 u H2 k2 rs2 ry p => ?_⟩
  cases h1 : x.val st2 with
  | none => rw [h1] at p; exact p.elim
  | some a =>
    cases h2 : y.val st2 with
    | none => rw [h1, h2] at p; exact p.elim
    | some b =>
      rw [h1, h2] at p
      refine ⟨ρ, P, st2, a, b, rs2, rx.now2 rs1 k2 rs2 h1, ry.now rs2 h2, ?_⟩
      have p : Post (gx L X) W σ P ρ H2 (match (o a b).bind asB with
        | some true => (fc env st2).bind fun z st3 => outO ((y.val st3).bind fun b => (z.val st3).bind fun c => o' b c) st3
        | some false => .ok (.v (.bl false)) st2
        | none => .bad) Q := p
      cases h3 : o a b with
      | none => rw [h3] at p; exact p.elim
      | some r =>
        rw [h3] at p
        intro v' H3 k3 rs3 rx3
        have p : Post (gx L X) W σ P ρ H2 (match asB r with
          | some true => (fc env st2).bind fun z st3 => outO ((y.val st3).bind fun b => (z.val st3).bind fun c => o' b c) st3
          | some false => .ok (.v (.bl false)) st2
          | none => .bad) Q := p
        cases h4 : asB r with
        | none => simp only [h4] at p; exact p.elim
        | some k =>
          simp only [h4] at p
          refine ⟨k, bl_of h4 rx3, ?_⟩
          cases k with
          | false => exact p _ H3 k3 rs3 (.v (.bl false))
          | true =>
            refine ⟨env, st2, ρ, P, ((re.ext k1 rs).ext k2 rs1).ext k3 rs2, rs3, Post.then (Post.step k3 p) fun z st4 w4 H4 k4 rs4 rz p => ?_⟩
            have p := POp.of p
            cases h5 : y.val st4 with
            | none => rw [h5] at p; exact p.elim
            | some b' =>
              cases h6 : z.val st4 with
              | none => rw [h5, h6] at p; exact p.elim
              | some c' =>
                rw [h5, h6] at p
                exact ⟨ρ, P, st4, b', c', rs4, ry.now2 rs2 (k3.trans k4) rs4 h5, rz.now rs4 h6, p⟩
theorem ee_chain (ho : OpR X (compareOp op) (R2m (gx L X) o)) (ho' : OpR X (compareOp op') (R2m (gx L X) o')) (ha : EE L X W a fa) (hb : EE L X W b fb) (hc : EE L X W c fc)
    (hm : lastMarks [op, op'] [b, c] = false := by with_unfolding_all rfl) : EE L X W (.Compare a [op, op'] [b, c] pos) (eChain o o' fa fb fc) :=
  PE.weak (pe_chain ho ho' ha hb hc hm) chain_tm
theorem tB_of {G : Gc} {f : Fe} {σ : L2.St} {H : Hp} {Q : Bool → Hp → Prop} (h : TTm G W (tV f) σ H Q) : TEm G W f σ H fun x H' => ∃ k, x = .bl k ∧ Q k H' := by
  obtain ⟨env, st, ρ, P, re, rs, p⟩ := h
  refine ⟨env, st, ρ, P, re, rs, Post.thenB p fun z st1 v H1 k rs1 rx p => ?_⟩
  cases q : asB z with
  | none =>
    exfalso
    cases z with
    | v x => cases x <;> first | exact p | simp [asB] at q
    | _ => exact p
  | some b =>
    obtain rfl := asB_some q
    cases rx with
    | v r => cases r; exact ⟨b, rfl, p H1 Kp.refl rs1⟩
theorem et_chain (ho : OpR X (compareOp op) (R2m (gx L X) o)) (ho' : OpR X (compareOp op') (R2m (gx L X) o')) (ha : EE L X W a fa) (hb : EE L X W b fb) (hc : EE L X W c fc)
    (hm : lastMarks [op, op'] [b, c] = false := by with_unfolding_all rfl) : ET L X W (.Compare a [op, op'] [b, c] pos) (tV (eChain o o' fa fb fc)) :=
  PT.weak (pt_chain ho ho' ha hb hc hm) fun σ H Q h => chain_tm _ _ _ (tB_of h)
end

/-! ### statements -/
def PostS (G : Gc) (W : WX) (B : List Nat) (n : Nat) (P : Ts) (ρ : Rho) (H : Hp) (r : Rs) (D : Ends) : Prop := match r with
  | .nx env' st' => ∀ σ' H' ρ', ExtS B n ρ H ρ' H' → RepS G H' P ρ' st' → RepE G H' P ρ' env' σ' → D.nx σ' H'
  | .rt z st' => ∀ v H' ρ', ExtS B n ρ H ρ' H' → RepS G H' P ρ' st' → RepX G H H' P ρ' st' z v → D.rt v H'
  | .exc e env' st' => ∀ cls d σ' H' ρ', ExtS B n ρ H ρ' H' → RepS G H' P ρ' st' → RepE G H' P ρ' env' σ' → RepEx G H' e cls d → W cls d σ' H'
  | .bad => False
def TSm (G : Gc) (W : WX) (B : List Nat) (n : Nat) (f : Fs) : TS := fun D σ H => ∃ env st ρ P, RepE G H P ρ env σ ∧ RepS G H P ρ st ∧ PostS G W B n P ρ H (f env st) D
abbrev ES (L : Lx) (X : Cx) (W : WX) (B : List Nat) (n : Nat) (s : Stmt) (f : Fs) : Prop := PS X s (TSm (gx L X) W B n f)
abbrev ESs (L : Lx) (X : Cx) (W : WX) (B : List Nat) (n : Nat) (s : List Stmt) (f : Fs) : Prop := PSs X s (TSm (gx L X) W B n f)

def Rs.andThen (r : Rs) (g : Fs) : Rs := match r with
  | .nx env st => g env st
  | r => r
def Rv.toS (env : Env) (r : Rv SV) (f : SV → Sto → Rs) : Rs := match r with
  | .ok z st => f z st
  | .exc e st => .exc e env st
  | .bad => .bad
def Rv.toSB (env : Env) (r : Rv Bool) (f : Bool → Sto → Rs) : Rs := match r with
  | .ok z st => f z st
  | .exc e st => .exc e env st
  | .bad => .bad
def sNil : Fs := fun env st => .nx env st
def sBad : Fs := fun _ _ => .bad
def sSeq (f g : Fs) : Fs := fun env st => (f env st).andThen g
def sExpr (fa : Fe) : Fs := fun env st => (fa env st).toS env fun _ st1 => .nx env st1
def sRet (fa : Fe) : Fs := fun env st => (fa env st).toS env fun z st1 => .rt z st1
def sIf (t : Ft) (f g : Fs) : Fs := fun env st => (t env st).toSB env fun b st1 => if b = true then f env st1 else g env st1

section
variable {G : Gc} {W : WX} {σ : L2.St} {H H0 H1 H2 H' : Hp} {ρ ρ1 ρ2 ρ' : Rho} {P : Ts} {env env' : Env} {st st' st1 st2 : Sto} {B B1 B2 : List Nat} {n : Nat} {D D' : Ends} {r : Rs}
theorem PostS.step (x : ExtS B n ρ H ρ1 H1) (p : PostS G W B n P ρ H r D) : PostS G W B n P ρ1 H1 r D := by
  cases r with
  | nx e s => exact fun σ' H' ρ' x' => p σ' H' ρ' (x.trans x')
  | rt z s => exact fun v H' ρ' x' rs rx => p v H' ρ' (x.trans x') rs (rx.base x.kp)
  | exc e en s => exact fun c d σ' H' ρ' x' => p c d σ' H' ρ' (x.trans x')
  | bad => exact p
theorem PostS.kp (k : Kp (Tr ρ) H (Tr ρ) H1) (p : PostS G W B n P ρ H r D) : PostS G W B n P ρ H1 r D := p.step (.of k)
theorem PostS.imp (h : ∀ l ∈ B1, l ∈ B) (p : PostS G W B n P ρ H r D) : PostS G W B1 n P ρ H r D := by
  cases r with
  | nx e s => exact fun σ' H' ρ' x' => p σ' H' ρ' (x'.mono h)
  | rt z s => exact fun v H' ρ' x' => p v H' ρ' (x'.mono h)
  | exc e en s => exact fun c d σ' H' ρ' x' => p c d σ' H' ρ' (x'.mono h)
  | bad => exact p
theorem PostS.then {f : Fs} (h1 : ∀ l ∈ B1, l ∈ B) (p : PostS G W B n P ρ H (r.andThen f) D) {Nx : L2.St → Hp → Prop}
    (w : ∀ env' st' σ' H' ρ', ExtS B n ρ H ρ' H' → RepS G H' P ρ' st' → RepE G H' P ρ' env' σ' → PostS G W B n P ρ' H' (f env' st') D → Nx σ' H') : PostS G W B1 n P ρ H r { D with nx := Nx } := by
  cases r with
  | nx e s => exact fun σ' H' ρ' x rs re => w e s σ' H' ρ' (x.mono h1) rs re (p.step (x.mono h1))
  | rt z s => exact fun v H' ρ' x' => p v H' ρ' (x'.mono h1)
  | exc e en s => exact fun c d σ' H' ρ' x' => p c d σ' H' ρ' (x'.mono h1)
  | bad => exact p
theorem Post.thenS {r : Rv SV} {f : SV → Sto → Rs} {Q : VK} (re : RepE G H P ρ env σ) (rs : RepS G H P ρ st) (p : PostS G W B n P ρ H (r.toS env f) D) (w : ∀ z st1 v H1, Kp (Tr ρ) H (Tr ρ) H1 → RepS G H1 P ρ st1 → RepX G H H1 P ρ st1 z v → PostS G W B n P ρ H1 (f z st1) D → Q v H1) : Post G W σ P ρ H r Q := by
  cases r with
  | ok z st1 => exact fun v H1 k rs rx => w z st1 v H1 k rs rx (p.kp k)
  | exc e st1 => exact fun c d H1 k rs1 rx => p c d σ H1 ρ (.of k) rs1 (re.ext k rs) rx
  | bad => exact p
theorem PostB.thenS {r : Rv Bool} {f : Bool → Sto → Rs} {Q : Bool → Hp → Prop} (re : RepE G H P ρ env σ) (rs : RepS G H P ρ st) (p : PostS G W B n P ρ H (r.toSB env f) D) (w : ∀ z st1 H1, Kp (Tr ρ) H (Tr ρ) H1 → RepS G H1 P ρ st1 → PostS G W B n P ρ H1 (f z st1) D → Q z H1) : PostB G W σ P ρ H r Q := by
  cases r with
  | ok z st1 => exact fun H1 k rs => w z st1 H1 k rs (p.kp k)
  | exc e st1 => exact fun c d H1 k rs1 rx => p c d σ H1 ρ (.of k) rs1 (re.ext k rs) rx
  | bad => exact p
theorem RepE.set (re : RepE G H P ρ env σ) {z : SV} {v : V} (r : RepZ G H P ρ z v) (i : Nat) : RepE G H P ρ (env.set i (some z)) (σ.set i (some v)) := by
  refine ⟨by rw [List.length_set, List.length_set]; exact re.len, fun j y e => ?_⟩
  by_cases h : j = i
  · subst h
    have hl : j < env.length := by
      have := (List.getElem?_eq_some_iff.mp e).1
      rw [List.length_set] at this; exact this
    rw [List.getElem?_set_self hl] at e
    cases e
    exact ⟨v, List.getElem?_set_self (by rw [← re.len]; exact hl), r⟩
  · rw [List.getElem?_set_ne (Ne.symm h)] at e ⊢
    exact re.get j y e
end
section
variable {L : Lx} {X : Cx} {W : WX} {a b c e : Expr} {fa fb fc : Fe} {ta tb : Ft} {pos : Pos} {s : Stmt} {rest sa sb : List Stmt} {f g : Fs} {B B1 B2 : List Nat} {n : Nat}
theorem es_nil : ESs L X W [] n [] sNil := PSs.weak pss_nil fun D σ H ⟨env, st, ρ, P, re, rs, p⟩ => p σ H ρ .refl rs re
theorem es_cons (h1 : ES L X W B1 n s f) (h2 : ESs L X W B2 n rest g) : ESs L X W (B1 ++ B2) n (s :: rest) (sSeq f g) := by
  refine PSs.weak (pss_cons h1 h2) fun D σ H ⟨env, st, ρ, P, re, rs, p⟩ => ⟨env, st, ρ, P, re, rs, p.then (fun l hl => List.mem_append_left _ hl) fun env' st' σ' H' ρ' x rs' re' p => ?_⟩
  exact ⟨env', st', ρ', P, re', rs', p.imp fun l hl => List.mem_append_right _ hl⟩
theorem es_one (h1 : ES L X W B n s f) : ESs L X W B n [s] f := pss_one h1
theorem es_bad : ES L X W B n s sBad := PS.weak ps_never fun D σ H ⟨env, st, ρ, P, re, rs, p⟩ => p
theorem es_expr (ha : EE L X W e fa) (hs : swapsWith e none pos.line X.env = pure false := by rfl) : ES L X W [] n (.Expr e pos) (sExpr fa) := by
  refine PS.weak (ps_expr ha hs) fun D σ H ⟨env, st, ρ, P, re, rs, p⟩ => ⟨env, st, ρ, P, re, rs, Post.thenS re rs p fun z st1 v H1 k rs1 rx p => ?_⟩
  exact p σ H1 ρ .refl rs1 (re.ext k rs)
theorem es_ret (ha : EE L X W e fa) : ES L X W [] n (.Return (some e) pos) (sRet fa) := by
  refine PS.weak (ps_ret ha) fun D σ H ⟨env, st, ρ, P, re, rs, p⟩ => ⟨env, st, ρ, P, re, rs, ?_⟩
  unfold sRet at p
  cases h : fa env st with
  | ok z st1 => rw [h] at p; exact fun v H1 k rs1 rx => p v H1 ρ (.of k) rs1 rx
  | exc e st1 => rw [h] at p; exact fun c d H1 k rs1 rx => p c d σ H1 ρ (.of k) rs1 (re.ext k rs) rx
  | bad => rw [h] at p; exact p
theorem es_if (hc : ET L X W c ta) (ha : ESs L X W B1 n sa f) (hb : ESs L X W B2 n sb g) : ES L X W (B1 ++ B2) n (.If c sa sb pos) (sIf ta f g) := by
  refine PS.weak (ps_if hc ha hb) fun D σ H ⟨env, st, ρ, P, re, rs, p⟩ => ⟨env, st, ρ, P, re, rs, PostB.thenS re rs p fun z st1 H1 k rs1 p => ?_⟩
  cases z with
  | true => exact ⟨env, st1, ρ, P, re.ext k rs, rs1, p.imp fun l hl => List.mem_append_left _ hl⟩
  | false => exact ⟨env, st1, ρ, P, re.ext k rs, rs1, p.imp fun l hl => List.mem_append_right _ hl⟩
end

/-! ### names bound: a frozen value, a cell -/
def killE (l : Nat) (env : Env) : Env := env.map fun z => match z with
  | some (.loc l') => if l' = l then none else some (.loc l')
  | z => z
/-- to a frozen value; a cell that is handed on dies -/
def frz (n : Nat) (B : List Nat) (z : SV) (env : Env) (st : Sto) : Option (SV × Env × Sto) := match z with
  | .v x => some (.v x, env, st)
  | .fl xs => some (.v (.lst xs), env, st)
  | .fd t kvs => some (.v (.dic t kvs), env, st)
  | .loc l => if n ≤ l ∧ (l - n) ∈ B then (match st[l]? with
    | some (.lst xs) => some (.v (.lst xs), killE l env, st.set l .dead)
    | some (.dic t kvs) => some (.v (.dic t kvs), killE l env, st.set l .dead)
    | _ => none) else none
/-- to the cell n + j -/
def bnd (n j : Nat) (z : SV) (env : Env) (st : Sto) : Option (SV × Env × Sto) := if n + j < st.length then (match z with
  | .fl xs => some (.loc (n + j), killE (n + j) env, st.set (n + j) (.lst xs))
  | .fd t kvs => some (.loc (n + j), killE (n + j) env, st.set (n + j) (.dic t kvs))
  | _ => none) else none
inductive Md where
  | f | c (j : Nat)
def Md.run (m : Md) (n : Nat) (B : List Nat) (z : SV) (env : Env) (st : Sto) : Option (SV × Env × Sto) := match m with
  | .f => frz n B z env st
  | .c j => bnd n j z env st
def Md.cells : Md → List Nat
  | .f => []
  | .c j => [j]
section
variable {G : Gc} {W : WX} {σ : L2.St} {H H0 H1 H2 H' : Hp} {ρ ρ1 ρ2 ρ' : Rho} {P : Ts} {env env' : Env} {st st' st1 st2 : Sto} {B B1 B2 : List Nat} {n : Nat}
theorem killE_get {l i : Nat} {z : SV} (h : (killE l env)[i]? = some (some z)) : env[i]? = some (some z) ∧ z ≠ .loc l := by
  unfold killE at h
  rw [List.getElem?_map] at h
  cases q : env[i]? with
  | none => rw [q] at h; cases h
  | some o =>
    rw [q] at h
    cases o with
    | none => cases h
    | some y =>
      cases y with
      | loc l' =>
        simp only [Option.map_some] at h
        split at h
        · cases h
        · cases h; exact ⟨rfl, fun e => by cases e; contradiction⟩
      | v x => cases h; exact ⟨rfl, fun e => by cases e⟩
      | fl x => cases h; exact ⟨rfl, fun e => by cases e⟩
      | fd x => cases h; exact ⟨rfl, fun e => by cases e⟩
theorem killE_rep {l : Nat} {o : Option Addr} (re : RepE G H P ρ env σ) (x : Kp (TP P ρ) H (TP P (ρ.set l o)) H1) (nt : NoTup H (TP P ρ)) : RepE G H1 P (ρ.set l o) (killE l env) σ := by
  refine ⟨by unfold killE; rw [List.length_map]; exact re.len, fun i z h => ?_⟩
  obtain ⟨e, ne⟩ := killE_get h
  obtain ⟨v, e1, r⟩ := re.get i z e
  refine ⟨v, e1, ?_⟩
  cases r with
  | v r => exact .v (r.ext x nt)
  | loc q => exact .loc (by rw [List.getElem?_set_ne (fun z => ne (by rw [z]))]; exact q)
/-- what is bound is so -/
theorem md_ok {m : Md} {z : SV} {v : V} {z' : SV} (re : RepE G H0 P ρ env σ) (rs0 : RepS G H0 P ρ st) (k : Kp (Tr ρ) H0 (Tr ρ) H) (rs : RepS G H P ρ st1) (rx : RepX G H0 H P ρ st1 z v) (h : m.run n B z env st1 = some (z', env', st')) :
    ∃ ρ', ExtS (B ++ m.cells) n ρ H0 ρ' H ∧ RepS G H P ρ' st' ∧ RepE G H P ρ' env' σ ∧ RepZ G H P ρ' z' v := by
  have re1 := re.ext k rs0
  cases m with
  | f =>
    have h : frz n B z env st1 = some (z', env', st') := h
    cases rx with
    | v r => cases h; exact ⟨ρ, .of k, rs, re1, .v r⟩
    | @loc l a q =>
      simp only [frz] at h
      split at h
      · rename_i hl
        obtain ⟨o, e1, ro⟩ := rs.obj l a q
        have nt := kill_ntr rs q
        have x : Kp (TP P ρ) H (TP P (ρ.set l none)) H := (kp_kill (ρ := ρ) (H := H) (l := l)).tp
        have ex : ExtS (B ++ Md.f.cells) n ρ H0 (ρ.set l none) H := ⟨List.length_set, fun l' hl' => List.getElem?_set_ne fun z => hl' (l - n) (List.mem_append_left _ hl.2) (by omega), k.trans kp_kill⟩
        rw [e1] at h
        cases ro with
        | lst h1 r => cases h; exact ⟨_, ex, rs.kill q, killE_rep re1 x rs.nt, .v (.lst h1 nt (RepVs.ext x rs.nt r))⟩
        | dicK h1 r => cases h; exact ⟨_, ex, rs.kill q, killE_rep re1 x rs.nt, .v (.dicK (.inl h1) nt (RepK.ext x rs.nt r))⟩
        | dicT h1 r => cases h; exact ⟨_, ex, rs.kill q, killE_rep re1 x rs.nt, .v (.dicT (.inl h1) nt (RepT.ext x rs.nt r))⟩
      · cases h
    | fl h1 n0 r rp np => cases h; exact ⟨ρ, .of k, rs, re1, (RepX.fl h1 n0 r rp np).z⟩
    | fdK h1 n0 r rp np => cases h; exact ⟨ρ, .of k, rs, re1, (RepX.fdK h1 n0 r rp np).z⟩
    | fdT h1 n0 r rp np => cases h; exact ⟨ρ, .of k, rs, re1, (RepX.fdT h1 n0 r rp np).z⟩
  | c j =>
    have h : bnd n j z env st1 = some (z', env', st') := h
    unfold bnd at h
    split at h
    · rename_i hl
      have go : ∀ {a : Addr} {so : SO}, NN H0 a → RepS G H (Plus P a) ρ st1 → ¬ P a → RepO G H (TP (Plus P a) ρ) so a →
          ∃ ρ', ExtS (B ++ (Md.c j).cells) n ρ H0 ρ' H ∧ RepS G H P ρ' (st1.set (n + j) so) ∧ RepE G H P ρ' (killE (n + j) env) σ ∧ RepZ G H P ρ' (.loc (n + j)) (.ref a) := fun {a so} n0 rp np ro => by
        have hl' : n + j < ρ.length := by rw [rs.len]; exact hl
        have x : Kp (Tr ρ) H0 (Tr (ρ.set (n + j) (some a))) H := kp_bind n0 k
        refine ⟨ρ.set (n + j) (some a), ⟨List.length_set, fun l' hl' => List.getElem?_set_ne fun z => hl' j (List.mem_append_right _ List.mem_cons_self) z.symm, x⟩, rp.bind hl np ro, killE_rep re x.tp rs0.nt, .loc (List.getElem?_set_self hl')⟩
      cases rx with
      | v r => cases h
      | loc q => cases h
      | fl h1 n0 r rp np => cases h; exact go n0 rp np (.lst h1 r)
      | fdK h1 n0 r rp np => cases h; exact go n0 rp np (.dicK h1 r)
      | fdT h1 n0 r rp np => cases h; exact go n0 rp np (.dicT h1 r)
    · cases h
end
def sSet (m : Md) (n : Nat) (B : List Nat) (i : Nat) (fa : Fe) : Fs := fun env st => (fa env st).toS env fun z st1 => match m.run n B z env st1 with
  | some (z', env', st') => .nx (env'.set i (some z')) st'
  | none => .bad
section
variable {L : Lx} {X : Cx} {W : WX} {a b c e : Expr} {fa fb fc : Fe} {pos : Pos} {B : List Nat} {n : Nat}
theorem set_tm {m : Md} {i : Nat} (D : Ends) (σ : L2.St) (H : Hp) (h : TSm (gx L X) W (B ++ m.cells) n (sSet m n B i fa) D σ H) : tAsg (TEm (gx L X) W fa) (gName i) D σ H := by
  obtain ⟨env, st, ρ, P, re, rs, p⟩ := h
  refine ⟨env, st, ρ, P, re, rs, ?_⟩
  unfold sSet at p
  cases h : fa env st with
  | ok z st1 =>
    rw [h] at p
    intro v H1 k rs1 rx
    cases q : m.run n B z env st1 with
    | none => simp only [Rv.toS, q] at p; exact p.elim
    | some r =>
      obtain ⟨z', env', st'⟩ := r
      simp only [Rv.toS, q] at p
      obtain ⟨ρ', x, rs', re', rz⟩ := md_ok re rs k rs1 rx q
      exact p _ H1 ρ' x rs' (re'.set rz i)
  | exc e st1 => rw [h] at p; exact fun c d H1 k rs1 rx => p c d σ H1 ρ (.of k) rs1 (re.ext k rs) rx
  | bad => rw [h] at p; exact p
theorem es_set {i : Nat} {x : Str} {pos' : Pos} (m : Md) (B : List Nat) (hN : X.N.Nodup) (ha : EE L X W e fa) (hi : X.N[i]? = some x := by rfl) (hx : Loc X.env.scope x := by first | exact .inl rfl | exact .inr rfl) (hs : swapsWith e (some (.Name x pos')) pos.line X.env = pure false := by rfl)
    (hf : X.fn x = true ∨ X.env.scope.names.lookup x = some .local := by first | exact .inl rfl | exact .inr rfl) : ES L X W (B ++ m.cells) n (.Assign [.Name x pos'] e pos) (sSet m n B i fa) :=
  PS.weak (ps_set hN hi hx ha hs hf) set_tm
end
end Eng

namespace Eng
open PySem PySem.Spec PyProof.Rows L2

/-! ### several names at once -/
inductive Rb where
  | ok (zs : List SV) (env : Env) (st : Sto) | exc (e : Ex) (env : Env) (st : Sto) | bad
abbrev Fb := Env → Sto → Rb
def bNil : Fb := fun env st => .ok [] env st
def Rb.cons (z : SV) : Rb → Rb
  | .ok zs env st => .ok (z :: zs) env st
  | r => r
def bCons (m : Md) (n : Nat) (B : List Nat) (fa : Fe) (fr : Fb) : Fb := fun env st => match fa env st with
  | .ok z st1 => match m.run n B z env st1 with
    | some (z', env', st') => (fr env' st').cons z'
    | none => .bad
  | .exc e st1 => .exc e env st1
  | .bad => .bad
def PostM (G : Gc) (W : WX) (σ : L2.St) (B : List Nat) (n : Nat) (P : Ts) (ρ : Rho) (H : Hp) (r : Rb) (Q : List V → Hp → Prop) : Prop := match r with
  | .ok zs env' st' => ∀ vs H' ρ', ExtS B n ρ H ρ' H' → RepS G H' P ρ' st' → RepE G H' P ρ' env' σ → RepZs G H' P ρ' zs vs → Q vs H'
  | .exc e env' st' => ∀ cls d H' ρ', ExtS B n ρ H ρ' H' → RepS G H' P ρ' st' → RepE G H' P ρ' env' σ → RepEx G H' e cls d → W cls d σ H'
  | .bad => False
def TMm (G : Gc) (W : WX) (B : List Nat) (n : Nat) (f : Fb) : TA := fun σ H Q => ∃ env st ρ P, RepE G H P ρ env σ ∧ RepS G H P ρ st ∧ PostM G W σ B n P ρ H (f env st) Q
abbrev EM (L : Lx) (X : Cx) (W : WX) (B : List Nat) (n : Nat) (es : List Expr) (f : Fb) : Prop := PA X es (TMm (gx L X) W B n f)
section
variable {L : Lx} {X : Cx} {W : WX} {a b c e : Expr} {es : List Expr} {fa fb fc : Fe} {fr : Fb} {pos : Pos} {B B1 B2 : List Nat} {n : Nat}
theorem em_nil : EM L X W [] n [] bNil := PA.weak pa_nil fun σ H Q ⟨env, st, ρ, P, re, rs, p⟩ => p [] H ρ .refl rs re .nil
theorem RepZ.extS {G : Gc} {H H1 : Hp} {P : Ts} {ρ ρ1 : Rho} {st : Sto} {z : SV} {v : V} (x : ExtS B2 n ρ H ρ1 H1) (rs : RepS G H P ρ st) (hz : ∀ l, z = .loc l → ∀ j ∈ B2, l ≠ n + j) (r : RepZ G H P ρ z v) : RepZ G H1 P ρ1 z v := by
  cases r with
  | v r => exact .v (r.ext x.kp.tp rs.nt)
  | loc q => exact .loc (by rw [x.fix _ (hz _ rfl)]; exact q)
theorem em_cons (m : Md) (B : List Nat) (ha : EE L X W e fa) (hr : EM L X W B2 n es fr) (hd : ∀ j ∈ m.cells, j ∉ B2 := by decide) (hs : starEach (e :: es) X.env = (false, eval e X.env) :: starEach es X.env := by rfl) :
    EM L X W ((B ++ m.cells) ++ B2) n (e :: es) (bCons m n B fa fr) := by
  refine PA.weak (pa_cons ha hr hs) fun σ H Q ⟨env, st, ρ, P, re, rs, p⟩ => ⟨env, st, ρ, P, re, rs, ?_⟩
  unfold bCons at p
  cases h : fa env st with
  | ok z st1 =>
    rw [h] at p
    intro v H1 k rs1 rx
    cases q : m.run n B z env st1 with
    | none => simp only [q] at p; exact p.elim
    | some r =>
      obtain ⟨z', env', st'⟩ := r
      simp only [q] at p
      obtain ⟨ρ', x, rs', re', rz⟩ := md_ok re rs k rs1 rx q
      have x' : ExtS ((B ++ m.cells) ++ B2) n ρ H ρ' H1 := x.mono fun l h => List.mem_append_left _ h
      refine ⟨env', st', ρ', P, re', rs', ?_⟩
      cases h2 : fr env' st' with
      | ok zs en s2 =>
        rw [h2] at p
        intro vs H2 ρ2 x2 rs2 re2 rz2
        refine p (v :: vs) H2 ρ2 (x'.trans (x2.mono fun l h => List.mem_append_right _ h)) rs2 re2 (.cons (rz.extS x2 rs' fun l e j hj => ?_) rz2)
        subst e
        cases m with
        | f =>
          exfalso
          have q : frz n B z env st1 = some (.loc l, env', st') := q
          cases z with
          | loc l1 =>
            simp only [frz] at q
            split at q
            · split at q <;> cases q
            · cases q
          | _ => cases q
        | c j0 =>
          have q : bnd n j0 z env st1 = some (.loc l, env', st') := q
          unfold bnd at q
          split at q
          · have hj0 := hd j0 List.mem_cons_self
            have : l = n + j0 := by cases z <;> cases q <;> rfl
            intro z
            exact hj0 (by
              have : j = j0 := by omega
              exact this ▸ hj)
          · cases q
      | exc e en s2 =>
        rw [h2] at p
        exact fun c d H2 ρ2 x2 => p c d H2 ρ2 (x'.trans (x2.mono fun l h => List.mem_append_right _ h))
      | bad => rw [h2] at p; exact p
  | exc e st1 => rw [h] at p; exact fun c d H1 k rs1 rx => p c d H1 ρ (.of k) rs1 (re.ext k rs) rx
  | bad => rw [h] at p; exact p
end
def setAll (env : Env) : List Nat → List SV → Option Env
  | [], [] => some env
  | i :: is, z :: zs => setAll (env.set i (some z)) is zs
  | _, _ => none
def Rb.toS (r : Rb) (f : List SV → Env → Sto → Rs) : Rs := match r with
  | .ok zs env st => f zs env st
  | .exc e env st => .exc e env st
  | .bad => .bad
/-- a, b = x, y with plain names -/
def sPar (is : List Nat) (fb : Fb) : Fs := fun env st => (fb env st).toS fun zs env' st' => match setAll env' is zs with
  | some env2 => .nx env2 st'
  | none => .bad
section
variable {L : Lx} {X : Cx} {W : WX} {a b c e : Expr} {es : List Expr} {fa fc : Fe} {fb : Fb} {pos : Pos} {B B1 B2 : List Nat} {n : Nat}
theorem PostM.toS {G : Gc} {σ : L2.St} {H : Hp} {P : Ts} {ρ : Rho} {r : Rb} {f : List SV → Env → Sto → Rs} {D : Ends} {Q : List V → Hp → Prop} (p : PostS G W B n P ρ H (r.toS f) D)
    (w : ∀ zs env' st' vs H' ρ', ExtS B n ρ H ρ' H' → RepS G H' P ρ' st' → RepE G H' P ρ' env' σ → RepZs G H' P ρ' zs vs → PostS G W B n P ρ' H' (f zs env' st') D → Q vs H') : PostM G W σ B n P ρ H r Q := by
  cases r with
  | ok zs en s => exact fun vs H' ρ' x rs re rz => w zs en s vs H' ρ' x rs re rz (p.step x)
  | exc e en s => exact fun c d H' ρ' x rs re rx => p c d σ H' ρ' x rs re rx
  | bad => exact p
theorem es_par2 {i j : Nat} {x y : Str} {px py pt : Pos} {kt k2 pt2} (hc : X.calm = true) (hN : X.N.Nodup) (ha : EM L X W B n [a, b] fb) (hi : X.N[i]? = some x := by rfl) (hj : X.N[j]? = some y := by rfl) (hij : i ≠ j := by decide)
    (hx : X.env.scope.names.lookup x = some .local := by rfl) (hy : X.env.scope.names.lookup y = some .local := by rfl)
    (hw : swappedStores [.Tuple [.Name x px, .Name y py] kt pt] (.Tuple [a, b] k2 pt2) X.env = pure (some [x, y]) := by with_unfolding_all rfl)
    (hs : swapsWithSole [.Tuple [.Name x px, .Name y py] kt pt] (.Tuple [a, b] k2 pt2) pos.line X.env = pure false := by rfl) :
    ES L X W B n (.Assign [.Tuple [.Name x px, .Name y py] kt pt] (.Tuple [a, b] k2 pt2) pos) (sPar [i, j] fb) := by
  refine PS.weak (ps_par hc hN hi hj hij hx hy ha hw hs) fun D σ H ⟨env, st, ρ, P, re, rs, p⟩ => ⟨env, st, ρ, P, re, rs, PostM.toS p fun zs env' st' vs H' ρ' x rs' re' rz p => ?_⟩
  cases rz with
  | nil => exact p.elim
  | cons r1 t =>
    cases t with
    | nil => exact p.elim
    | cons r2 t =>
      cases t with
      | nil => exact ⟨_, _, rfl, p _ H' ρ' .refl rs' ((re'.set r1 i).set r2 j)⟩
      | cons r3 t => exact p.elim
theorem es_par3 {i j l : Nat} {x y z : Str} {px py pz pt : Pos} {kt k2 pt2} (hc : X.calm = true) (hN : X.N.Nodup) (ha : EM L X W B n [a, b, c] fb) (hi : X.N[i]? = some x := by rfl) (hj : X.N[j]? = some y := by rfl) (hl : X.N[l]? = some z := by rfl) (hij : i ≠ j := by decide) (hil : i ≠ l := by decide) (hjl : j ≠ l := by decide)
    (hx : X.env.scope.names.lookup x = some .local := by rfl) (hy : X.env.scope.names.lookup y = some .local := by rfl) (hz : X.env.scope.names.lookup z = some .local := by rfl)
    (hw : swappedStores [.Tuple [.Name x px, .Name y py, .Name z pz] kt pt] (.Tuple [a, b, c] k2 pt2) X.env = pure (some [x, y, z]) := by with_unfolding_all rfl)
    (hs : swapsWithSole [.Tuple [.Name x px, .Name y py, .Name z pz] kt pt] (.Tuple [a, b, c] k2 pt2) pos.line X.env = pure false := by rfl) :
    ES L X W B n (.Assign [.Tuple [.Name x px, .Name y py, .Name z pz] kt pt] (.Tuple [a, b, c] k2 pt2) pos) (sPar [i, j, l] fb) := by
  refine PS.weak (ps_par3 hc hN hi hj hl hij hil hjl hx hy hz ha hw hs) fun D σ H ⟨env, st, ρ, P, re, rs, p⟩ => ⟨env, st, ρ, P, re, rs, PostM.toS p fun zs env' st' vs H' ρ' x rs' re' rz p => ?_⟩
  cases rz with
  | nil => exact p.elim
  | cons r1 t =>
    cases t with
    | nil => exact p.elim
    | cons r2 t =>
      cases t with
      | nil => exact p.elim
      | cons r3 t =>
        cases t with
        | nil => exact ⟨_, _, _, rfl, p _ H' ρ' .refl rs' (((re'.set r1 i).set r2 j).set r3 l)⟩
        | cons r4 t => exact p.elim
end
/-! ### targets in general -/
abbrev Fg := SV → Fs
def PostG (G : Gc) (B : List Nat) (n : Nat) (P : Ts) (ρ : Rho) (H : Hp) (r : Rs) (Q : L2.St → Hp → Prop) : Prop := match r with
  | .nx env' st' => ∀ σ' H' ρ', ExtS B n ρ H ρ' H' → RepS G H' P ρ' st' → RepE G H' P ρ' env' σ' → Q σ' H'
  | _ => False
def TGm (G : Gc) (B : List Nat) (n : Nat) (g : Fg) : TG := fun v σ H Q => ∃ env st ρ P z, RepE G H P ρ env σ ∧ RepS G H P ρ st ∧ RepZ G H P ρ z v ∧ PostG G B n P ρ H (g z env st) Q
def TGsm (G : Gc) (B : List Nat) (n : Nat) (g : List SV → Fs) : TGs := fun vs σ H Q => ∃ env st ρ P zs, RepE G H P ρ env σ ∧ RepS G H P ρ st ∧ RepZs G H P ρ zs vs ∧ PostG G B n P ρ H (g zs env st) Q
abbrev EG (L : Lx) (X : Cx) (B : List Nat) (n : Nat) (t : Expr) (g : Fg) : Prop := PG X t (TGm (gx L X) B n g)
abbrev EGs (L : Lx) (X : Cx) (B : List Nat) (n : Nat) (ts : List Expr) (g : List SV → Fs) : Prop := PGs X ts (TGsm (gx L X) B n g)
def gN (i : Nat) : Fg := fun z env st => .nx (env.set i (some z)) st
def gsNil : List SV → Fs := fun zs env st => match zs with
  | [] => .nx env st
  | _ => .bad
def gsCons (g : Fg) (r : List SV → Fs) : List SV → Fs := fun zs env st => match zs with
  | z :: zs => (g z env st).andThen (r zs)
  | [] => .bad
/-- targets = the display of a tuple -/
def sTup (fb : Fb) (g : List SV → Fs) : Fs := fun env st => (fb env st).toS fun zs env' st' => match g zs env' st' with
  | .nx env2 st2 => .nx env2 st2
  | _ => .bad
def BLen (fb : Fb) (k : Nat) : Prop := ∀ env st zs env' st', fb env st = .ok zs env' st' → zs.length = k
theorem blen_nil : BLen bNil 0 := fun env st zs env' st' h => by cases h; rfl
theorem blen_cons {m : Md} {n k : Nat} {B : List Nat} {fa : Fe} {fr : Fb} (h : BLen fr k) : BLen (bCons m n B fa fr) (k + 1) := fun env st zs env' st' e => by
  unfold bCons at e
  split at e
  · split at e
    · rename_i z s1 _ _ z' en s2 _
      cases q : fr en s2 with
      | ok ys en3 s3 => rw [q] at e; cases e; exact congrArg (· + 1) (h _ _ _ _ _ q)
      | exc _ _ _ => rw [q] at e; cases e
      | bad => rw [q] at e; cases e
    · cases e
  · cases e
  · cases e
theorem PGs.weak {X : Cx} {e : List Expr} {t t' : TGs} (h : PGs X e t) (w : ∀ v σ H Q, t' v σ H Q → t v σ H Q) : PGs X e t' := ⟨fun pins s σ H v u Q I r q => h.run pins s σ H v u Q I r (w v σ H Q q)⟩
section
variable {L : Lx} {X : Cx} {W : WX} {a b c e t : Expr} {es ts : List Expr} {fa fc fo fi : Fe} {fb : Fb} {pos : Pos} {B B1 B2 : List Nat} {n : Nat} {g : Fg} {gr : List SV → Fs}
theorem PostG.imp {G : Gc} {P : Ts} {ρ : Rho} {H : Hp} {r : Rs} {Q : L2.St → Hp → Prop} (h : ∀ l ∈ B1, l ∈ B) (p : PostG G B n P ρ H r Q) : PostG G B1 n P ρ H r Q := by
  cases r with
  | nx e s => exact fun σ' H' ρ' x => p σ' H' ρ' (x.mono h)
  | _ => exact p
theorem PostG.step {G : Gc} {P : Ts} {ρ ρ1 : Rho} {H H1 : Hp} {r : Rs} {Q : L2.St → Hp → Prop} (x : ExtS B n ρ H ρ1 H1) (p : PostG G B n P ρ H r Q) : PostG G B n P ρ1 H1 r Q := by
  cases r with
  | nx e s => exact fun σ' H' ρ' x' => p σ' H' ρ' (x.trans x')
  | _ => exact p
theorem eg_name (i : Nat) {x : Str} (hN : X.N.Nodup) (hi : X.N[i]? = some x := by rfl) (hx : Loc X.env.scope x := by first | exact .inl rfl | exact .inr rfl)
    (hf : X.fn x = true ∨ X.env.scope.names.lookup x = some .local := by first | exact .inl rfl | exact .inr rfl) : EG L X [] n (.Name x pos) (gN i) :=
  PG.weak (pg_name hN hi hx hf) fun v σ H Q ⟨env, st, ρ, P, z, re, rs, rz, p⟩ => p _ H ρ .refl rs (re.set rz i)
theorem egs_nil : EGs L X [] n [] gsNil := PGs.weak pgs_nil fun vs σ H Q ⟨env, st, ρ, P, zs, re, rs, rz, p⟩ => by
  cases rz with
  | nil => exact ⟨rfl, p σ H ρ .refl rs re⟩
  | cons _ _ => exact p.elim
theorem egs_cons (h1 : EG L X [] n t g) (h2 : EGs L X [] n ts gr) (hs : (assignEach (t :: ts) X.env).map (·.2) = assign t X.env :: (assignEach ts X.env).map (·.2) := by rfl) : EGs L X [] n (t :: ts) (gsCons g gr) :=
  PGs.weak (pgs_cons h1 h2 hs) fun vs σ H Q ⟨env, st, ρ, P, zs, re, rs, rz, p⟩ => by
    cases rz with
    | nil => exact p.elim
    | @cons z v zs vs r t' =>
      refine ⟨v, vs, rfl, env, st, ρ, P, z, re, rs, r, ?_⟩
      have p : PostG (gx L X) [] n P ρ H ((g z env st).andThen (gr zs)) Q := p
      cases h : g z env st with
      | nx en s =>
        rw [h] at p
        intro σ' H' ρ' x rs' re'
        have k : ∀ {zs : List SV} {vs : List V}, RepZs (gx L X) H P ρ zs vs → RepZs (gx L X) H' P ρ' zs vs := fun {zs vs} q => by
          induction q with
          | nil => exact .nil
          | cons r _ ih => exact .cons (r.extS x rs fun _ _ j hj => absurd hj (by simp)) ih
        exact ⟨en, s, ρ', P, zs, re', rs', k t', PostG.step x p⟩
      | rt _ _ => rw [h] at p; exact p.elim
      | exc _ _ _ => rw [h] at p; exact p.elim
      | bad => rw [h] at p; exact p.elim
theorem es_tup {k kt : Nat} {px pe : Pos} (hc : X.calm = true) (ha : EM L X W B n es fb) (hg : EGs L X [] n ts gr) (hn : (assignEach ts X.env).length = es.length := by rfl) (hst : (assignEach ts X.env).findIdx? (·.1) = none := by rfl)
    (hw : swappedStores [.Tuple ts k px] (.Tuple es kt pe) X.env = pure none := by with_unfolding_all rfl) (hl : es.length ≤ sizeLine := by decide)
    (hs : swapsWithSole [.Tuple ts k px] (.Tuple es kt pe) pos.line X.env = pure false := by rfl) (h1 : (assignEach [.Tuple ts k px] X.env).map (·.2) = [assign (.Tuple ts k px) X.env] := by rfl)
    (hlen : BLen fb es.length) :
    ES L X W B n (.Assign [.Tuple ts k px] (.Tuple es kt pe) pos) (sTup fb gr) := by
  refine PS.weak (ps_asg (pe_tup ha) (pg_tup hc hg hn hst) hs hw h1) fun D σ H ⟨env, st, ρ, P, re, rs, p⟩ => ⟨env, st, ρ, P, re, rs, ?_⟩
  unfold sTup at p
  cases hz : fb env st with
  | bad => rw [hz] at p; exact p
  | exc e en s => rw [hz] at p; exact fun c d H' ρ' x rs re rx => p c d σ H' ρ' x rs re rx
  | ok zs env' st' =>
    rw [hz] at p
    intro vs H' ρ' x rs' re' rz
    have hvl : ∀ {zs : List SV} {vs : List V}, RepZs (gx L X) H' P ρ' zs vs → zs.length = vs.length := fun q => by
      induction q with
      | nil => rfl
      | cons _ _ ih => exact congrArg (· + 1) ih
    have e1 := hvl rz
    have e2 := hlen env st zs env' st' hz
    refine ⟨by rw [← e1, e2]; exact hl, fun p' hp => ?_⟩
    have k := kp_new (T := Tr ρ') (o := HO.tup vs) hp
    have rs2 : RepS (gx L X) (upd H' p' (.tup vs)) P ρ' st' := rs'.fresh hp
    refine ⟨p', vs, rfl, .inl (.inl upd_same), by rw [← e1]; exact e2, env', st', ρ', P, zs, re'.ext k rs', rs2, rz.ext k rs', ?_⟩
    have p : PostS (gx L X) W B n P ρ H (match gr zs env' st' with
      | .nx env2 st2 => .nx env2 st2
      | _ => .bad) D := p
    cases h : gr zs env' st' with
    | nx en s =>
      rw [h] at p
      exact fun σ3 H3 ρ3 x3 rs3 re3 => p σ3 H3 ρ3 ((x.trans (.of k)).trans (x3.mono fun _ h => absurd h (by simp))) rs3 re3
    | rt _ _ => rw [h] at p; exact p.elim
    | exc _ _ _ => rw [h] at p; exact p.elim
    | bad => rw [h] at p; exact p.elim
/-! ### o[i] = v: a cell's thing written -/
/-- what a store makes of a cell -/
def gSt (o : SO → Val → Val → Option SO) (fo fi : Fe) : Fg := fun z env st => match fo env st with
  | .ok (.loc l) st1 => match fi env st1 with
    | .ok y st2 => match st2[l]?, y.val st2, z with
      | some so, some k, .v x => match o so k x with
        | some so' => .nx env (st2.set l so')
        | none => .bad
      | _, _, _ => .bad
    | _ => .bad
  | _ => .bad
def SetM (X : Cx) (G : Gc) (t : V → V → V → Hp → (Hp → Prop) → Prop) (o : SO → Val → Val → Option SO) : Prop :=
  ∀ (H : Hp) (P : Ts) (ρ : Rho) (st : Sto) (l : Nat) (a : Addr) (so so' : SO) (y z : V) (k x : Val) (Q : Hp → Prop), RepS G H P ρ st → ρ[l]? = some (some a) → st[l]? = some so → Now G H (TP P ρ) k y → RepV G H (TP P ρ) x z → o so k x = some so' →
    (∀ H', Kp (Tr ρ) H (Tr ρ) H' → RepS G H' P ρ (st.set l so') → Q H') → t (.ref a) y z H Q
theorem eg_sub {o i : Expr} {tset : TSet} {os : SO → Val → Val → Option SO} (ho : EE L X (fun _ _ _ _ => False) o fo) (hi : EE L X (fun _ _ _ _ => False) i fi) (hs : PSet X tset) (hm : SetM X (gx L X) tset os)
    (ha : ∀ v, assign (.Subscript o i pos) X.env v = (do
      let ov ← holding [v] (eval o X.env)
      let iv ← holding [v, ov] (eval i X.env)
      standAt pos
      holding [v, ov, iv] (setItem ov iv v)
      release [v, ov, iv] []) := by intro _; rfl) : EG L X [] n (.Subscript o i pos) (gSt os fo fi) := by
  refine PG.weak (pg_sub ho hi hs ha) fun v σ H Q ⟨env, st, ρ, P, z, re, rs, rz, p⟩ => ⟨env, st, ρ, P, re, rs, ?_⟩
  unfold gSt at p
  cases h1 : fo env st with
  | bad => rw [h1] at p; exact p
  | exc e s => rw [h1] at p; exact p.elim
  | ok zo st1 =>
    rw [h1] at p
    intro ov H1 k1 rs1 rx1
    cases rx1 with
    | v _ => exact p.elim
    | fl _ _ _ _ _ => exact p.elim
    | fdK _ _ _ _ _ => exact p.elim
    | fdT _ _ _ _ _ => exact p.elim
    | @loc l a ql =>
      refine ⟨env, st1, ρ, P, re.ext k1 rs, rs1, ?_⟩
      cases h2 : fi env st1 with
      | bad => simp only [h2] at p; exact p
      | exc e s => simp only [h2] at p; exact p.elim
      | ok y st2 =>
        simp only [h2] at p
        intro iv H2 k2 rs2 rx2
        cases e1 : st2[l]? with
        | none => simp only [e1] at p; exact p.elim
        | some so =>
          cases e2 : y.val st2 with
          | none => simp only [e1, e2] at p; exact p.elim
          | some kk =>
            cases rz with
            | loc _ => simp only [e1, e2] at p; exact p.elim
            | @v x _ r =>
              simp only [e1, e2] at p
              cases e3 : os so kk x with
              | none => simp only [e3] at p; exact p.elim
              | some so' =>
                simp only [e3] at p
                refine hm H2 P ρ st2 l a so so' iv v kk x _ rs2 ql e1 (rx2.now rs2 e2) ((r.ext k1.tp rs.nt).ext k2.tp rs1.nt) e3 fun H3 k3 rs3 => ?_
                exact p σ H3 ρ (.of ((k1.trans k2).trans k3)) rs3 (((re.ext k1 rs).ext k2 rs1).ext k3 rs2)
/-- one target -/
def sAsg (fa : Fe) (g : Fg) : Fs := fun env st => (fa env st).toS env fun z st1 => match z.froz with
  | .v x => (match g (.v x) env st1 with
    | .nx env' st' => .nx env' st'
    | _ => .bad)
  | _ => .bad
theorem es_asg (ha : EE L X W e fa) (hg : EG L X [] n t g) (hs : swapsWithSole [t] e pos.line X.env = pure false := by rfl) (hw : swappedStores [t] e X.env = pure none := by rfl)
    (h1 : (assignEach [t] X.env).map (·.2) = [assign t X.env] := by rfl) : ES L X W [] n (.Assign [t] e pos) (sAsg fa g) := by
  refine PS.weak (ps_asg ha hg hs hw h1) fun D σ H ⟨env, st, ρ, P, re, rs, p⟩ => ⟨env, st, ρ, P, re, rs, Post.thenS re rs p fun z st1 v H1 k rs1 rx p => ?_⟩
  have rz := rx.z
  cases h : z.froz with
  | v x =>
    rw [h] at rz
    simp only [h] at p
    refine ⟨env, st1, ρ, P, .v x, re.ext k rs, rs1, rz, ?_⟩
    cases h2 : g (.v x) env st1 with
    | nx en s => rw [h2] at p; exact p
    | rt _ _ => rw [h2] at p; exact p.elim
    | exc _ _ _ => rw [h2] at p; exact p.elim
    | bad => rw [h2] at p; exact p.elim
  | loc l => simp only [h] at p; exact p.elim
  | fl l => simp only [h] at p; exact p.elim
  | fd l => simp only [h] at p; exact p.elim
end
end Eng

namespace Eng
open PySem PySem.Spec PyProof.Rows L2

/-! ### what is walked -/
inductive Src where
  | seq (xs : List Val) | cell (l : Nat)
abbrev Fi := Env → Sto → Rv Src
/-- the walk gives these, from the heap H0 on -/
def WalkS (G : Gc) (P0 : Ts) (ρ0 : Rho) (H0 : Hp) (J : It) (xs : List Val) : Prop :=
  ∀ (i : Nat) (H : Hp) (P : Ts) (ρ : Rho) (st : Sto), Kp (TP P0 ρ0) H0 (TP P ρ) H → RepS G H P ρ st →
    (∀ x, xs[i]? = some x → J.go i H ∧ ∀ v H', J.yld i H v H' → Kp (Tr ρ) H (Tr ρ) H' ∧ RepS G H' P ρ st ∧ RepV G H' (TP P ρ) x v) ∧ (xs.length ≤ i → J.stop i H)
def WalkC (G : Gc) (ρ0 : Rho) (J : It) (l : Nat) : Prop :=
  ∀ (i : Nat) (H : Hp) (P : Ts) (ρ : Rho) (st : Sto) (ys : List Val), ρ[l]? = ρ0[l]? → RepS G H P ρ st → st[l]? = some (.lst ys) →
    (∀ x, ys[i]? = some x → J.go i H ∧ ∀ v H', J.yld i H v H' → Kp (Tr ρ) H (Tr ρ) H' ∧ RepS G H' P ρ st ∧ RepV G H' (TP P ρ) x v) ∧ (ys.length ≤ i → J.stop i H)
def Walk (G : Gc) (P0 : Ts) (ρ0 : Rho) (H0 : Hp) (J : It) : Src → Prop
  | .seq xs => WalkS G P0 ρ0 H0 J xs
  | .cell l => WalkC G ρ0 J l
def PostI (G : Gc) (W : WX) (σ : L2.St) (P : Ts) (ρ : Rho) (H : Hp) (r : Rv Src) (R : It → Hp → Prop) : Prop := match r with
  | .ok s st' => ∀ J H', Kp (Tr ρ) H (Tr ρ) H' → RepS G H' P ρ st' → Walk G P ρ H' J s → R J H'
  | .exc e st' => ∀ cls d H', Kp (Tr ρ) H (Tr ρ) H' → RepS G H' P ρ st' → RepEx G H' e cls d → W cls d σ H'
  | .bad => False
def TIm (G : Gc) (W : WX) (f : Fi) : TI := fun σ H R => ∃ env st ρ P, RepE G H P ρ env σ ∧ RepS G H P ρ st ∧ PostI G W σ P ρ H (f env st) R
abbrev EI (L : Lx) (X : Cx) (W : WX) (tg e : Expr) (f : Fi) : Prop := PI X tg e (TIm (gx L X) W f)
/-- read as a sequence: a tuple, a text, a frozen list, a cell's list -/
def srcOf : SV → Sto → Option Src
  | .v (.tup xs), _ => some (.seq xs)
  | .v (.lst xs), _ => some (.seq xs)
  | .v (.str s), _ => some (.seq (s.map fun c => .str [c]))
  | .fl xs, _ => some (.seq xs)
  | .loc l, st => match st[l]? with
    | some (.lst _) => some (.cell l)
    | _ => none
  | _, _ => none
def iTupF (fa : Fe) : Fi := fun env st => (fa env st).bind fun z st1 => match z with
  | .v (.tup xs) => .ok (.seq xs) st1
  | _ => .bad
def iStrF (fa : Fe) : Fi := fun env st => (fa env st).bind fun z st1 => match z with
  | .v (.str s) => .ok (.seq (s.map fun c => .str [c])) st1
  | _ => .bad
def iLstF (fa : Fe) : Fi := fun env st => (fa env st).bind fun z st1 => match z with
  | .v (.lst xs) => .ok (.seq xs) st1
  | .fl xs => .ok (.seq xs) st1
  | .loc l => (match st1[l]? with
    | some (.lst _) => .ok (.cell l) st1
    | _ => .bad)
  | _ => .bad
def rngI (lo : Int) (n : Nat) : List Val := (List.range n).map fun k : Nat => .int (lo + (k : Int))
def rngC (lo c : Int) (n : Nat) : List Val := (List.range n).map fun k : Nat => .int (lo + (k : Int) * c)
def small (i : Int) : Bool := decide (-1000000 ≤ i) && decide (i ≤ 1000000)
def iRng1F (fa : Env → Sto → Rv (List SV)) : Fi := fun env st => (fa env st).bind fun zs st1 => match zs with
  | [.v (.int j)] => if small j = true then .ok (.seq (rngI 0 j.toNat)) st1 else .bad
  | _ => .bad
def iRng2F (fa : Env → Sto → Rv (List SV)) : Fi := fun env st => (fa env st).bind fun zs st1 => match zs with
  | [.v (.int i), .v (.int j)] => if (small i && small j) = true then .ok (.seq (rngI i (j - i).toNat)) st1 else .bad
  | _ => .bad
/-- range(i, j, c), c above 0 -/
def rngLen (i j c : Int) : Nat := if i < j then ((j - i - 1) / c + 1).toNat else 0
def iRng3F (fa : Env → Sto → Rv (List SV)) : Fi := fun env st => (fa env st).bind fun zs st1 => match zs with
  | [.v (.int i), .v (.int j), .v (.int c)] => if (small i && small j && small c && decide (0 < c)) = true then .ok (.seq (rngC i c (rngLen i j c))) st1 else .bad
  | _ => .bad
/-- zip(a, b) of two tuples, two lists -/
def zipV : List Val → List Val → List Val
  | x :: xs, y :: ys => .tup [x, y] :: zipV xs ys
  | _, _ => []
/-- the pair that a walk gives: transient where tuples are known to their objects -/
def prV (tn : Bool) (x y : Val) : Val := if tn = true then .prs [x, y] else .tup [x, y]
def zipQ (tn : Bool) : List Val → List Val → List Val
  | x :: xs, y :: ys => prV tn x y :: zipQ tn xs ys
  | _, _ => []
def iZipTF (tn : Bool) (fa : Env → Sto → Rv (List SV)) : Fi := fun env st => (fa env st).bind fun zs st1 => match zs with
  | [.v (.tup xs), .v (.tup ys)] => .ok (.seq (zipQ tn xs ys)) st1
  | _ => .bad
def iZipLF (tn : Bool) (fa : Env → Sto → Rv (List SV)) : Fi := fun env st => (fa env st).bind fun zs st1 => match zs with
  | [.v (.lst xs), .v (.lst ys)] => .ok (.seq (zipQ tn xs ys)) st1
  | _ => .bad

section
variable {G : Gc} {H H0 H1 H2 H' : Hp} {ρ ρ0 ρ1 ρ' : Rho} {T P P0 : Ts} {st st' : Sto}
theorem RepVs.len : ∀ {xs : List Val} {vs : List V}, RepVs G H T xs vs → xs.length = vs.length
  | _, _, .nil => rfl
  | _, _, .cons _ t => congrArg (· + 1) (RepVs.len t)
theorem RepVs.get : ∀ {xs : List Val} {vs : List V} {i : Nat} {x : Val}, RepVs G H T xs vs → xs[i]? = some x → ∃ v, vs[i]? = some v ∧ RepV G H T x v
  | _, _, _, _, .nil, e => by simp at e
  | _, _, 0, _, .cons r _, e => by simp at e; subst e; exact ⟨_, rfl, r⟩
  | _, _, i + 1, _, .cons _ t, e => by
    obtain ⟨v, h1, h2⟩ := RepVs.get (i := i) t (by simpa using e)
    exact ⟨v, by simpa using h1, h2⟩
theorem low_vs {a : Addr} (rp : RepS G H (Plus P a) ρ st) {xs : List Val} {vs : List V} (r : RepVs G H (TP (Plus P a) ρ) xs vs) : RepVs G H (TP P ρ) xs vs := r.ext kp_drop rp.nt
theorem walk_tup {K : PySem.W.Frag} (hK : G.K = K) {a : Addr} {xs : List Val} {vs : List V} (nt : NoTup H0 (TP P0 ρ0)) {tn : Bool} (h : TupH tn H0 a vs) (r : RepVs G H0 (TP P0 ρ0) xs vs) : WalkS G P0 ρ0 H0 (Itt K a) xs := by
  subst hK
  intro i H P ρ st k rs
  have hq := k.sqT (G := G) nt (show SqT G.K H0 a vs from h.sq)
  have hr := RepVs.ext k nt r
  refine ⟨fun x hx => ?_, fun hl => ⟨vs, hq, by rw [← hr.len]; exact hl⟩⟩
  obtain ⟨v, e, rv⟩ := hr.get hx
  refine ⟨⟨vs, v, hq, e⟩, fun u H' y => ?_⟩
  obtain ⟨rfl, hy⟩ := y
  rw [hy vs hq] at e; cases e
  exact ⟨Kp.refl, rs, rv⟩
theorem walk_lst {K : PySem.W.Frag} {a : Addr} {xs : List Val} {vs : List V} (nt : NoTup H0 (TP P0 ρ0)) (h : H0 a = some (.lst vs)) (ha : ¬ TP P0 ρ0 a) (r : RepVs G H0 (TP P0 ρ0) xs vs) : WalkS G P0 ρ0 H0 (Itl K a) xs := by
  intro i H P ρ st k rs
  have hq : SqL K H a vs := .inl (.inl (k.keepX ha h (by intros; simp) rfl))
  have hr := RepVs.ext k nt r
  refine ⟨fun x hx => ?_, fun hl => ⟨vs, hq, by rw [← hr.len]; exact hl⟩⟩
  obtain ⟨v, e, rv⟩ := hr.get hx
  refine ⟨⟨vs, v, hq, e⟩, fun u H' y => ?_⟩
  obtain ⟨rfl, hy⟩ := y
  rw [hy vs hq] at e; cases e
  exact ⟨Kp.refl, rs, rv⟩
theorem walk_cell {K : PySem.W.Frag} {a : Addr} {l : Nat} (h : ρ0[l]? = some (some a)) : WalkC G ρ0 (Itl K a) l := by
  intro i H P ρ st ys hl rs hy
  rw [h] at hl
  obtain ⟨o, e, ro⟩ := rs.obj l a hl
  rw [hy] at e; cases e
  cases ro with
  | @lst _ vs _ ha r =>
    have hq : SqL K H a vs := .inl (.inl ha)
    refine ⟨fun x hx => ?_, fun hl => ⟨vs, hq, by rw [← r.len]; exact hl⟩⟩
    obtain ⟨v, e, rv⟩ := r.get hx
    refine ⟨⟨vs, v, hq, e⟩, fun u H' y => ?_⟩
    obtain ⟨rfl, hy⟩ := y
    rw [hy vs hq] at e; cases e
    exact ⟨Kp.refl, rs, rv⟩
theorem sok_one {s : List Nat} {i c : Nat} (h : SOk s = true) (e : s[i]? = some c) : SOk [c] = true := by
  unfold SOk at h ⊢
  simp only [Bool.and_eq_true, List.all_eq_true, decide_eq_true_eq] at h ⊢
  exact ⟨by simp, fun x hx => by
    have : x = c := by simpa using hx
    subst this
    exact h.2 x (List.mem_of_getElem? e)⟩
theorem walk_str (s : List Nat) (hs : SOk s = true) : WalkS G P0 ρ0 H0 (Its (toS s)) (s.map fun c => .str [c]) := by
  intro i H P ρ st k rs
  refine ⟨fun x hx => ?_, fun hl => by show s.length ≤ i; simpa using hl⟩
  rw [List.getElem?_map] at hx
  cases q : s[i]? with
  | none => rw [q] at hx; cases hx
  | some c =>
    rw [q] at hx; cases hx
    have hi : i < s.length := (List.getElem?_eq_some_iff.mp q).1
    refine ⟨by simpa [Its] using hi, fun u H' y => ?_⟩
    obtain ⟨rfl, c', e, rfl⟩ := y
    have e : s[i]? = some c' := by simpa using e
    rw [q] at e; cases e
    exact ⟨Kp.refl, rs, .str [c] (sok_one hs q)⟩
theorem walk_rng (lo : Int) (n : Nat) : WalkS G P0 ρ0 H0 (Itr lo n) (rngI lo n) := by
  intro i H P ρ st k rs
  refine ⟨fun x hx => ?_, fun hl => by show n ≤ i; simpa [rngI] using hl⟩
  unfold rngI at hx
  rw [List.getElem?_map] at hx
  by_cases hi : i < n
  · rw [List.getElem?_range hi] at hx; cases hx
    refine ⟨hi, fun u H' y => ?_⟩
    obtain ⟨rfl, rfl⟩ := y
    exact ⟨Kp.refl, rs, .int _⟩
  · rw [List.getElem?_eq_none (by simpa using hi)] at hx; cases hx
theorem walk_rngC (lo c : Int) (n : Nat) : WalkS G P0 ρ0 H0 (Itc lo c n) (rngC lo c n) := by
  intro i H P ρ st k rs
  refine ⟨fun x hx => ?_, fun hl => by show n ≤ i; simpa [rngC] using hl⟩
  unfold rngC at hx
  rw [List.getElem?_map] at hx
  by_cases hi : i < n
  · rw [List.getElem?_range hi] at hx; cases hx
    refine ⟨hi, fun u H' y => ?_⟩
    obtain ⟨rfl, rfl⟩ := y
    exact ⟨Kp.refl, rs, .int _⟩
  · rw [List.getElem?_eq_none (by simpa using hi)] at hx; cases hx
theorem zipV_get : ∀ {xs ys : List Val} {i : Nat} {z : Val}, (zipV xs ys)[i]? = some z → ∃ x y, xs[i]? = some x ∧ ys[i]? = some y ∧ z = .tup [x, y]
  | x :: xs, y :: ys, 0, z, h => by simp [zipV] at h; exact ⟨x, y, rfl, rfl, h.symm⟩
  | x :: xs, y :: ys, i + 1, z, h => by
    obtain ⟨a, b, h1, h2, h3⟩ := zipV_get (xs := xs) (ys := ys) (i := i) (by simpa [zipV] using h)
    exact ⟨a, b, by simpa using h1, by simpa using h2, h3⟩
  | [], _, _, _, h => by simp [zipV] at h
  | _ :: _, [], _, _, h => by simp [zipV] at h
theorem zipV_len : ∀ (xs ys : List Val), (zipV xs ys).length = min xs.length ys.length
  | x :: xs, y :: ys => by simp only [zipV, List.length_cons, zipV_len xs ys]; omega
  | [], _ => by simp [zipV]
  | _ :: _, [] => by simp [zipV]
theorem zipQ_get {tn : Bool} : ∀ {xs ys : List Val} {i : Nat} {z : Val}, (zipQ tn xs ys)[i]? = some z → ∃ x y, xs[i]? = some x ∧ ys[i]? = some y ∧ z = prV tn x y
  | x :: xs, y :: ys, 0, z, h => by simp [zipQ] at h; exact ⟨x, y, rfl, rfl, h.symm⟩
  | x :: xs, y :: ys, i + 1, z, h => by
    obtain ⟨a, b, h1, h2, h3⟩ := zipQ_get (xs := xs) (ys := ys) (i := i) (by simpa [zipQ] using h)
    exact ⟨a, b, by simpa using h1, by simpa using h2, h3⟩
  | [], _, _, _, h => by simp [zipQ] at h
  | _ :: _, [], _, _, h => by simp [zipQ] at h
theorem zipQ_len {tn : Bool} : ∀ (xs ys : List Val), (zipQ tn xs ys).length = min xs.length ys.length
  | x :: xs, y :: ys => by simp only [zipQ, List.length_cons, zipQ_len xs ys]; omega
  | [], _ => by simp [zipQ]
  | _ :: _, [] => by simp [zipQ]
theorem zipQ_off : ∀ (xs ys : List Val), zipQ false xs ys = zipV xs ys
  | x :: xs, y :: ys => by simp only [zipQ, zipV, zipQ_off xs ys]; rfl
  | [], _ => by simp [zipQ, zipV]
  | _ :: _, [] => by simp [zipQ, zipV]
theorem yield_pair {T : Addr} {x y : Val} {v u : V} (rs : RepS G H P ρ st) (hT : H T = none) (rx : RepV G H (TP P ρ) x v) (ry : RepV G H (TP P ρ) y u) :
    Kp (Tr ρ) H (Tr ρ) (upd H T (.tup [v, u])) ∧ RepS G (upd H T (.tup [v, u])) P ρ st ∧ RepV G (upd H T (.tup [v, u])) (TP P ρ) (prV G.tn x y) (.ref T) := by
  have k : Kp (Tr ρ) H (Tr ρ) (upd H T (.tup [v, u])) := kp_new hT
  have rr : RepVs G (upd H T (.tup [v, u])) (TP P ρ) [x, y] [v, u] := .cons (rx.ext k.tp rs.nt) (.cons (ry.ext k.tp rs.nt) .nil)
  refine ⟨k, rs.fresh hT, ?_⟩
  unfold prV
  split
  · exact .prs upd_same rr
  · rename_i h
    exact .tup (TupH.of upd_same (by simpa using h)) rr
theorem yield_pairF (htn : G.tn = false) {T : Addr} {x y : Val} {v u : V} (rs : RepS G H P ρ st) (hT : H T = none) (rx : RepV G H (TP P ρ) x v) (ry : RepV G H (TP P ρ) y u) :
    Kp (Tr ρ) H (Tr ρ) (upd H T (.tup [v, u])) ∧ RepS G (upd H T (.tup [v, u])) P ρ st ∧ RepV G (upd H T (.tup [v, u])) (TP P ρ) (.tup [x, y]) (.ref T) := by
  have h := yield_pair rs hT rx ry
  unfold prV at h
  rw [htn] at h
  exact h
theorem walk_zipT {K : PySem.W.Frag} (hK : G.K = K) {a b : Addr} {xs ys : List Val} {vs us : List V} (nt : NoTup H0 (TP P0 ρ0)) {tn : Bool} (h : TupH tn H0 a vs) (r : RepVs G H0 (TP P0 ρ0) xs vs) (h' : TupH tn H0 b us) (r' : RepVs G H0 (TP P0 ρ0) ys us) :
    WalkS G P0 ρ0 H0 (RZ.ItzT K a b) (zipQ G.tn xs ys) := by
  subst hK
  intro i H P ρ st k rs
  have hq := k.sqT (G := G) nt (show SqT G.K H0 a vs from h.sq)
  have hr := RepVs.ext k nt r
  have hq' := k.sqT (G := G) nt (show SqT G.K H0 b us from h'.sq)
  have hr' := RepVs.ext k nt r'
  refine ⟨fun z hz => ?_, fun hl => ⟨vs, us, hq, hq', by rw [← hr.len, ← hr'.len]; rw [zipQ_len] at hl; omega⟩⟩
  obtain ⟨x, y, hx, hy, rfl⟩ := zipQ_get hz
  obtain ⟨v, e, rv⟩ := hr.get hx
  obtain ⟨u, e', rv'⟩ := hr'.get hy
  refine ⟨⟨vs, us, v, u, hq, hq', e, e'⟩, fun w H' q => ?_⟩
  obtain ⟨T, v', u', rfl, hT, rfl, f1, f2⟩ := q
  rw [f1 vs hq] at e; cases e
  rw [f2 us hq'] at e'; cases e'
  exact yield_pair rs hT rv rv'
theorem walk_zipL {K : PySem.W.Frag} {a b : Addr} {xs ys : List Val} {vs us : List V} (nt : NoTup H0 (TP P0 ρ0)) (h : H0 a = some (.lst vs)) (ha : ¬ TP P0 ρ0 a) (r : RepVs G H0 (TP P0 ρ0) xs vs) (h' : H0 b = some (.lst us)) (hb : ¬ TP P0 ρ0 b) (r' : RepVs G H0 (TP P0 ρ0) ys us) :
    WalkS G P0 ρ0 H0 (Itz K a b) (zipQ G.tn xs ys) := by
  intro i H P ρ st k rs
  have hq : SqL K H a vs := .inl (.inl (k.keepX ha h (by intros; simp) rfl))
  have hr := RepVs.ext k nt r
  have hq' : SqL K H b us := .inl (.inl (k.keepX hb h' (by intros; simp) rfl))
  have hr' := RepVs.ext k nt r'
  refine ⟨fun z hz => ?_, fun hl => ⟨vs, us, hq, hq', by rw [← hr.len, ← hr'.len]; rw [zipQ_len] at hl; omega⟩⟩
  obtain ⟨x, y, hx, hy, rfl⟩ := zipQ_get hz
  obtain ⟨v, e, rv⟩ := hr.get hx
  obtain ⟨u, e', rv'⟩ := hr'.get hy
  refine ⟨⟨vs, us, v, u, hq, hq', e, e'⟩, fun w H' q => ?_⟩
  obtain ⟨T, v', u', rfl, hT, rfl, f1, f2⟩ := q
  rw [f1 vs hq] at e; cases e
  rw [f2 us hq'] at e'; cases e'
  exact yield_pair rs hT rv rv'
end
theorem Post.thenI {G : Gc} {W : WX} {σ : L2.St} {H : Hp} {ρ : Rho} {P : Ts} {r : Rv SV} {f : SV → Sto → Rv Src} {R : It → Hp → Prop} {Q' : VK} (p : PostI G W σ P ρ H (r.bind f) R) (w : ∀ z st1 v H1, Kp (Tr ρ) H (Tr ρ) H1 → RepS G H1 P ρ st1 → RepX G H H1 P ρ st1 z v → PostI G W σ P ρ H1 (f z st1) R → Q' v H1) : Post G W σ P ρ H r Q' := by
  cases r with
  | ok z st1 =>
    refine fun v H1 k rs rx => w z st1 v H1 k rs rx ?_
    have p : PostI G W σ P ρ H (f z st1) R := p
    cases h : f z st1 with
    | ok s st' => rw [h] at p; exact fun J H' k' rs' wk => p J H' (k.trans k') rs' wk
    | exc e st' => rw [h] at p; exact fun c d H' k' rs' r => p c d H' (k.trans k') rs' r
    | bad => rw [h] at p; exact p
  | exc e st1 => exact p
  | bad => exact p
theorem PostA.thenI {G : Gc} {W : WX} {σ : L2.St} {H : Hp} {ρ : Rho} {P : Ts} {r : Rv (List SV)} {f : List SV → Sto → Rv Src} {R : It → Hp → Prop} {Q' : List V → Hp → Prop} (p : PostI G W σ P ρ H (r.bind f) R) (w : ∀ z st1 v H1, Kp (Tr ρ) H (Tr ρ) H1 → RepS G H1 P ρ st1 → RepZs G H1 P ρ z v → PostI G W σ P ρ H1 (f z st1) R → Q' v H1) : PostA G W σ P ρ H r Q' := by
  cases r with
  | ok z st1 =>
    refine fun v H1 k rs rx => w z st1 v H1 k rs rx ?_
    have p : PostI G W σ P ρ H (f z st1) R := p
    cases h : f z st1 with
    | ok s st' => rw [h] at p; exact fun J H' k' rs' wk => p J H' (k.trans k') rs' wk
    | exc e st' => rw [h] at p; exact fun c d H' k' rs' r => p c d H' (k.trans k') rs' r
    | bad => rw [h] at p; exact p
  | exc e st1 => exact p
  | bad => exact p
section
variable {L : Lx} {X : Cx} {W : WX} {tg a b c e : Expr} {fa fb fc : Fe} {fr : Env → Sto → Rv (List SV)} {pos p : Pos}
theorem ei_tup (ha : EE L X W e fa) : EI L X W tg e (iTupF fa) := by
  refine PI.weak (pi_tup ha) fun σ H R ⟨env, st, ρ, P, re, rs, p⟩ => ⟨env, st, ρ, P, re, rs, Post.thenI p fun z st1 v H1 k rs1 rx p => ?_⟩
  cases rx with
  | v r =>
    cases r with
    | tup h r => exact ⟨_, rfl, ⟨_, h.sq⟩, p _ H1 Kp.refl rs1 (walk_tup rfl rs1.nt h r)⟩
    | _ => exact p.elim
  | _ => exact p.elim
theorem ei_str (ha : EE L X W e fa) : EI L X W tg e (iStrF fa) := by
  refine PI.weak (pi_str ha) fun σ H R ⟨env, st, ρ, P, re, rs, p⟩ => ⟨env, st, ρ, P, re, rs, Post.thenI p fun z st1 v H1 k rs1 rx p => ?_⟩
  cases rx with
  | v r =>
    cases r with
    | str s h => exact ⟨_, rfl, p _ H1 Kp.refl rs1 (walk_str s h)⟩
    | _ => exact p.elim
  | _ => exact p.elim
theorem ei_lst (ha : EE L X W e fa) : EI L X W tg e (iLstF fa) := by
  refine PI.weak (pi_list ha) fun σ H R ⟨env, st, ρ, P, re, rs, p⟩ => ⟨env, st, ρ, P, re, rs, Post.thenI p fun z st1 v H1 k rs1 rx p => ?_⟩
  cases rx with
  | v r =>
    cases r with
    | lst h nt r => exact ⟨_, rfl, ⟨_, .inl (.inl h)⟩, p _ H1 Kp.refl rs1 (walk_lst rs1.nt h nt r)⟩
    | _ => exact p.elim
  | fl h n0 r rp np => exact ⟨_, rfl, ⟨_, .inl (.inl h)⟩, p _ H1 Kp.refl rs1 (walk_lst rs1.nt h (fun t => t.elim np (rp.apart _ (.inr rfl))) (low_vs rp r))⟩
  | fdK _ _ _ _ _ => exact p.elim
  | fdT _ _ _ _ _ => exact p.elim
  | @loc l a q =>
    obtain ⟨o, e, ro⟩ := rs1.obj l a q
    cases ro with
    | lst h r => simp only [e] at p; exact ⟨_, rfl, ⟨_, .inl (.inl h)⟩, p _ H1 Kp.refl rs1 (walk_cell q)⟩
    | dicK h r => simp only [e] at p; exact p.elim
    | dicT h r => simp only [e] at p; exact p.elim
theorem small_bd {i : Int} (h : small i = true) : -(2 ^ 62) ≤ i ∧ i < 2 ^ 62 := by
  unfold small at h
  simp only [Bool.and_eq_true, decide_eq_true_eq] at h
  omega
theorem ei_rng1 (hg : Gl X "range") (hm : X.mg "range" = none) (ha : EA L X W [a] fr) (hs : starEach [a] X.env = [(false, eval a X.env)] := by rfl) : EI L X W tg (.Call (.Name "range" p) [a] [] pos) (iRng1F fr) := by
  refine PI.weak (pi_range1 hg hm ha hs) fun σ H R ⟨env, st, ρ, P, re, rs, p⟩ => ⟨env, st, ρ, P, re, rs, PostA.thenI p fun z st1 v H1 k rs1 rx p => ?_⟩
  split at p
  · rename_i j
    split at p
    · rename_i hj
      have b := small_bd hj
      cases rx with
      | cons r t => cases t; cases r with
        | v r => cases r; exact ⟨j, rfl, b.1, b.2, p _ H1 Kp.refl rs1 (walk_rng 0 _)⟩
    · exact p.elim
  · exact p.elim
theorem ei_rng2 (hg : Gl X "range") (hm : X.mg "range" = none) (ha : EA L X W [a, b] fr) (hs : starEach [a, b] X.env = [(false, eval a X.env), (false, eval b X.env)] := by rfl) (hs2 : starEach [b] X.env = [(false, eval b X.env)] := by rfl) : EI L X W tg (.Call (.Name "range" p) [a, b] [] pos) (iRng2F fr) := by
  refine PI.weak (pi_range2 hg hm ha hs hs2) fun σ H R ⟨env, st, ρ, P, re, rs, p⟩ => ⟨env, st, ρ, P, re, rs, PostA.thenI p fun z st1 v H1 k rs1 rx p => ?_⟩
  split at p
  · rename_i i j
    split at p
    · rename_i hj
      rw [Bool.and_eq_true] at hj
      have b := small_bd hj.1
      have b' := small_bd hj.2
      cases rx with
      | cons r t => cases t with
        | cons r' t => cases t; cases r with
          | v r => cases r; cases r' with
            | v r' => cases r'; exact ⟨i, j, rfl, ⟨b.1, b.2, b'.1, b'.2⟩, p _ H1 Kp.refl rs1 (walk_rng i _)⟩
    · exact p.elim
  · exact p.elim
theorem rgC_of {i j c : Int} (hi : small i = true) (hj : small j = true) (hc : small c = true) (h0 : 0 < c) : RgC i j c (rngLen i j c) := by
  unfold small at hi hj hc
  simp only [Bool.and_eq_true, decide_eq_true_eq] at hi hj hc
  have sz : Builtin.Range.rangeSize i j c = ((rngLen i j c : Nat) : Int) := by
    unfold Builtin.Range.rangeSize rngLen
    rw [if_pos h0]
    split
    · have : 0 ≤ (j - i - 1) / c := Int.ediv_nonneg (by omega) (by omega)
      omega
    · rfl
  have up : Builtin.Range.rangeSize i j c ≤ 2000001 := by
    unfold Builtin.Range.rangeSize
    rw [if_pos h0]
    split
    · have : (j - i - 1) / c ≤ j - i - 1 := Int.ediv_le_self _ (by omega)
      omega
    · omega
  have dn : 0 ≤ Builtin.Range.rangeSize i j c := by rw [sz]; exact Int.natCast_nonneg _
  refine ⟨by omega, by omega, ?_, sz⟩
  unfold Builtin.Range.small
  have f : ∀ x : Int, -100000000 ≤ x → x ≤ 100000000 → Builtin.Range.rangeFitsLong x = true := fun x h1 h2 => by
    unfold Builtin.Range.rangeFitsLong
    simp only [Bool.and_eq_true, decide_eq_true_eq]
    omega
  simp only [f i (by omega) (by omega), f j (by omega) (by omega), f c (by omega) (by omega), f _ (by omega : -100000000 ≤ Builtin.Range.rangeSize i j c) (by omega), f (j + (c - 1)) (by omega) (by omega), if_pos (show c > 0 from h0), Bool.true_and, Bool.and_true, Bool.or_true]
theorem ei_rng3 (hg : Gl X "range") (hm : X.mg "range" = none) (ha : EA L X W [a, b, c] fr) (hs : starEach [a, b, c] X.env = (false, eval a X.env) :: starEach [b, c] X.env := by rfl) (hpl : (backTo pos (starEach [b, c] X.env)).any (·.1) = false := by rfl) : EI L X W tg (.Call (.Name "range" p) [a, b, c] [] pos) (iRng3F fr) := by
  refine PI.weak (pi_range3 hg hm ha hs hpl) fun σ H R ⟨env, st, ρ, P, re, rs, p⟩ => ⟨env, st, ρ, P, re, rs, PostA.thenI p fun z st1 v H1 k rs1 rx p => ?_⟩
  split at p
  · rename_i i j c'
    split at p
    · rename_i hj
      simp only [Bool.and_eq_true, decide_eq_true_eq] at hj
      cases rx with
      | cons r t => cases t with
        | cons r' t => cases t with
          | cons r2 t => cases t; cases r with
            | v r => cases r; cases r' with
              | v r' => cases r'; cases r2 with
                | v r2 => cases r2; exact ⟨i, j, c', _, rfl, rgC_of hj.1.1.1 hj.1.1.2 hj.1.2 hj.2, p _ H1 Kp.refl rs1 (walk_rngC i c' _)⟩
    · exact p.elim
  · exact p.elim
theorem ei_zipT {elts : List Expr} {kk : Nat} {tpos : Pos} (hg : Gl X "zip") (hm : X.mg "zip" = none) (ha : EA L X W [a, b] fr) (hs : starEach [a, b] X.env = (false, eval a X.env) :: starEach [b] X.env := by rfl) (hpl : (backTo pos (starEach [b] X.env)).any (·.1) = false := by rfl) : EI L X W (.Tuple elts kk tpos) (.Call (.Name "zip" p) [a, b] [] pos) (iZipTF L.tn fr) := by
  refine PI.weak (RZ.pi_zipA hg hm ha hs hpl) fun σ H R ⟨env, st, ρ, P, re, rs, p⟩ => ⟨env, st, ρ, P, re, rs, PostA.thenI p fun z st1 v H1 k rs1 rx p => ?_⟩
  split at p
  · cases rx with
    | cons r t => cases t with
      | cons r' t => cases t; cases r with
        | v r => cases r with
          | tup h r => cases r' with
            | v r' => cases r' with
              | tup h' r' => exact ⟨_, _, _, _, rfl, .inr ⟨h.sq, h'.sq, p _ H1 Kp.refl rs1 (walk_zipT rfl rs1.nt h r h' r')⟩⟩
  · exact p.elim
theorem ei_zipL {elts : List Expr} {kk : Nat} {tpos : Pos} (hg : Gl X "zip") (hm : X.mg "zip" = none) (ha : EA L X W [a, b] fr) (hs : starEach [a, b] X.env = (false, eval a X.env) :: starEach [b] X.env := by rfl) (hpl : (backTo pos (starEach [b] X.env)).any (·.1) = false := by rfl) : EI L X W (.Tuple elts kk tpos) (.Call (.Name "zip" p) [a, b] [] pos) (iZipLF L.tn fr) := by
  refine PI.weak (RZ.pi_zipA hg hm ha hs hpl) fun σ H R ⟨env, st, ρ, P, re, rs, p⟩ => ⟨env, st, ρ, P, re, rs, PostA.thenI p fun z st1 v H1 k rs1 rx p => ?_⟩
  split at p
  · cases rx with
    | cons r t => cases t with
      | cons r' t => cases t; cases r with
        | v r => cases r with
          | lst h nt r => cases r' with
            | v r' => cases r' with
              | lst h' nt' r' => exact ⟨_, _, _, _, rfl, .inl ⟨.inl (.inl h), .inl (.inl h'), p _ H1 Kp.refl rs1 (walk_zipL rs1.nt h nt r h' nt' r')⟩⟩
  · exact p.elim
end
end Eng

namespace Eng
open PySem PySem.Spec PyProof.Rows L2

/-! ### patterns: a name, a tuple of names -/
inductive Pat where
  | n (i : Nat) | t (is : List Nat)
def bindP (p : Pat) (x : Val) (env : Env) : Option Env := match p with
  | .n i => some (env.set i (some (.v x)))
  | .t is => match x with
    | .tup xs => setAll env is (xs.map .v)
    | .prs xs => setAll env is (xs.map .v)
    | _ => none
def Pat.names : Pat → List Nat
  | .n i => [i]
  | .t is => is
def Wiped (is : List Nat) (σ σ' : L2.St) : Prop := ∀ ws : List Nat, (∀ i ∈ is, i ∈ ws) → wipe σ' ws = wipe σ ws
theorem wipe_set {σ : L2.St} {i : Nat} {o : Option V} : ∀ {ws : List Nat}, i ∈ ws → wipe (σ.set i o) ws = wipe σ ws
  | [], h => by simp at h
  | v :: ws, h => by
    by_cases e : i = v
    · subst e
      have key : ∀ ws : List Nat, (wipe (σ.set i o) ws).set i none = (wipe σ ws).set i none := fun ws => by
        induction ws with
        | nil => show (σ.set i o).set i none = σ.set i none; simp
        | cons w ws ih =>
          show ((wipe (σ.set i o) ws).set w none).set i none = ((wipe σ ws).set w none).set i none
          by_cases q : w = i
          · subst q; rw [ih]
          · rw [List.set_comm _ _ q, ih, List.set_comm _ _ (Ne.symm q)]
      exact key ws
    · show (wipe (σ.set i o) ws).set v none = (wipe σ ws).set v none
      rw [wipe_set ((List.mem_cons.mp h).resolve_left e)]
theorem wipe_wipe {σ : L2.St} : ∀ {vs ws : List Nat}, (∀ i ∈ vs, i ∈ ws) → wipe (wipe σ vs) ws = wipe σ ws
  | [], _, _ => rfl
  | v :: vs, ws, h => by
    show wipe ((wipe σ vs).set v none) ws = wipe σ ws
    rw [wipe_set (h v List.mem_cons_self), wipe_wipe fun i hi => h i (List.mem_cons_of_mem _ hi)]
def gNames : List Nat → TGs
  | [] => gNil
  | i :: is => gCons (gName i) (gNames is)
/-- how a pattern is stored -/
inductive EP1 (X : Cx) : Pat → TG → Prop
  | n {i : Nat} : EP1 X (.n i) (gName i)
  | t {is : List Nat} : EP1 X (.t is) (gTup X.K is.length (gNames is))
section
variable {G : Gc} {W : WX} {σ : L2.St} {H H0 H1 H2 H' : Hp} {ρ ρ1 ρ2 ρ' : Rho} {P : Ts} {env env' : Env} {st st' st1 st2 : Sto}
theorem gNames_ok {Q : L2.St → Hp → Prop} : ∀ {is : List Nat} {xs : List Val} {vs : List V} {env env' : Env} {σ : L2.St}, RepE G H P ρ env σ → RepVs G H (TP P ρ) xs vs → setAll env is (xs.map .v) = some env' →
    (∀ σ', RepE G H P ρ env' σ' → Wiped is σ σ' → Q σ' H) → gNames is vs σ H Q
  | [], [], [], env, env', σ, re, rv, h, q => by
    cases h
    exact ⟨rfl, q σ re fun ws _ => rfl⟩
  | [], _ :: _, _, _, _, _, _, _, h, _ => by cases h
  | [], [], _ :: _, _, _, _, _, rv, _, _ => by cases rv
  | i :: is, [], _, _, _, _, _, _, h, _ => by cases h
  | i :: is, x :: xs, v :: vs, env, env', σ, re, rv, h, q => by
    cases rv with
    | cons r t =>
      refine ⟨v, vs, rfl, ?_⟩
      show gNames is vs (σ.set i (some v)) H Q
      refine gNames_ok (re.set (.v r) i) t h fun σ' re' w => q σ' re' fun ws hw => ?_
      rw [w ws fun j hj => hw j (List.mem_cons_of_mem _ hj), wipe_set (hw i List.mem_cons_self)]
  | _ :: _, _ :: _, [], _, _, _, _, rv, _, _ => by cases rv
theorem pat_ok {X : Cx} {p : Pat} {g : TG} {L : Lx} {x : Val} {v : V} {Q : L2.St → Hp → Prop} (h : EP1 X p g) (re : RepE (gx L X) H P ρ env σ) (rv : RepV (gx L X) H (TP P ρ) x v) (hb : bindP p x env = some env')
    (q : ∀ σ', RepE (gx L X) H P ρ env' σ' → Wiped p.names σ σ' → Q σ' H) : g v σ H Q := by
  cases h with
  | @n i =>
    cases hb
    exact q _ (re.set (.v rv) i) fun ws hw => wipe_set (hw i List.mem_cons_self)
  | @t is =>
    have this : ∀ {is : List Nat} {zs : List SV} {env env' : Env}, setAll env is zs = some env' → zs.length = is.length := fun {is} => by
      induction is with
      | nil => intro zs _ _ h; cases zs with
        | nil => rfl
        | cons _ _ => cases h
      | cons i is ih => intro zs _ _ h; cases zs with
        | nil => cases h
        | cons z zs => exact congrArg (· + 1) (ih h)
    cases rv with
    | tup hq r =>
      refine ⟨_, _, rfl, hq.sq, ?_, gNames_ok re r hb q⟩
      have l := this hb
      rw [List.length_map] at l
      rw [← r.len, l]
    | prs hq r =>
      refine ⟨_, _, rfl, .inl (.inl hq), ?_, gNames_ok re r hb q⟩
      have l := this hb
      rw [List.length_map] at l
      rw [← r.len, l]
    | _ => cases hb
end

/-! ### for -/
def forSeq (bd : Val → Fs) : List Val → Fs
  | [], env, st => .nx env st
  | x :: r, env, st => (bd x env st).andThen (forSeq bd r)
def forCell (bd : Val → Fs) (l : Nat) : Nat → Nat → Fs
  | 0, _, _, _ => .bad
  | k + 1, i, env, st => match st[l]? with
    | some (.lst ys) => match ys[i]? with
      | none => .nx env st
      | some x => (bd x env st).andThen (forCell bd l k (i + 1))
    | _ => .bad
def fuelN : Nat := 100000
def sFor (fi : Fi) (p : Pat) (n : Nat) (B : List Nat) (body : Fs) : Fs := fun env st => match fi env st with
  | .ok (.seq xs) st1 => forSeq (fun x env st => match bindP p x env with | some env' => body env' st | none => .bad) xs env st1
  | .ok (.cell l) st1 => if n ≤ l ∧ (l - n) ∈ B then .bad else forCell (fun x env st => match bindP p x env with | some env' => body env' st | none => .bad) l fuelN 0 env st1
  | .exc e st1 => .exc e env st1
  | .bad => .bad
section
variable {L : Lx} {X : Cx} {W : WX} {tg iter : Expr} {fi : Fi} {p : Pat} {g : TG} {pos : Pos} {body : List Stmt} {fb : Fs} {B : List Nat} {n : Nat}
theorem es_for (hp : PassesOwn (model X.prog X.w) X.A X.env X.xe) (hc : X.calm = true) (hi : EI L X W tg iter fi) (hg : PG X tg g) (hpat : EP1 X p g) (hb : ESs L X W B n body fb) (hs : ∀ x, foldedSetIterable iter X.env x = pure x := by intro _; rfl) :
    ES L X W B n (.For tg iter body [] pos) (sFor fi p n B fb) := by
  refine PS.weak (ps_for hp hc hi hg hb hs) fun D σ H ⟨env, st, ρ, P, re, rs, q⟩ => ⟨env, st, ρ, P, re, rs, ?_⟩
  unfold sFor at q
  cases h : fi env st with
  | exc e st1 => rw [h] at q; exact fun c d H1 k rs1 rx => q c d σ H1 ρ (.of k) rs1 (re.ext k rs) rx
  | bad => rw [h] at q; exact q
  | ok s st1 =>
    rw [h] at q
    intro J H1 k1 rs1 wk
    have re1 := re.ext k1 rs
    -- one turn
    have turn : ∀ {x : Val} {env2 : Env} {σ2 : L2.St} {H2 : Hp} {ρ2 : Rho} {st2 : Sto} {nxt : Fs} {v : V} {H3 : Hp} {Nx : L2.St → Hp → Prop}, RepE (gx L X) H2 P ρ2 env2 σ2 → RepS (gx L X) H2 P ρ2 st2 →
        PostS (gx L X) W B n P ρ2 H2 (((match bindP p x env2 with | some env' => fb env' st2 | none => .bad) : Rs).andThen nxt) D → Kp (Tr ρ2) H2 (Tr ρ2) H3 → RepS (gx L X) H3 P ρ2 st2 → RepV (gx L X) H3 (TP P ρ2) x v →
        (∀ env' st' σ' H' ρ', ExtS B n ρ2 H2 ρ' H' → RepS (gx L X) H' P ρ' st' → RepE (gx L X) H' P ρ' env' σ' → PostS (gx L X) W B n P ρ' H' (nxt env' st') D → Nx σ' H') →
        g v σ2 H3 fun σ4 H4 => TSm (gx L X) W B n fb { D with nx := Nx, ct := Nx, bk := D.nx } σ4 H4 := fun {x env2 σ2 H2 ρ2 st2 nxt v H3 Nx} re2 rs2 q2 k3 rs3 rv w => by
      cases hb : bindP p x env2 with
      | none => rw [hb] at q2; exact q2.elim
      | some env' =>
        rw [hb] at q2
        refine pat_ok hpat (re2.ext k3 rs2) rv hb fun σ4 re4 _ => ⟨env', st2, ρ2, P, re4, rs3, ?_⟩
        exact (PostS.then (fun l h => h) (PostS.kp k3 q2) fun env5 st5 σ5 H5 ρ5 x5 rs5 re5 q5 => w env5 st5 σ5 H5 ρ5 ((ExtS.of k3).trans x5) rs5 re5 q5)
    cases s with
    | seq xs =>
      have q : PostS (gx L X) W B n P ρ H (forSeq (fun x env st => match bindP p x env with | some env' => fb env' st | none => .bad) xs env st1) D := q
      refine ⟨fun i m σ2 H2 => ∃ env2 st2 ρ2, m = xs.length - i ∧ ExtS B n ρ H1 ρ2 H2 ∧ RepE (gx L X) H2 P ρ2 env2 σ2 ∧ RepS (gx L X) H2 P ρ2 st2 ∧ PostS (gx L X) W B n P ρ2 H2 (forSeq (fun x env st => match bindP p x env with | some env' => fb env' st | none => .bad) (xs.drop i) env2 st2) D,
        ⟨xs.length, env, st1, ρ, rfl, .refl, re1, rs1, q.kp k1⟩, fun i m σ2 H2 hW => ?_⟩
      obtain ⟨env2, st2, ρ2, hm, x2, re2, rs2, q2⟩ := hW
      have w := wk i H2 P ρ2 st2 x2.kp.tp rs2
      by_cases hi : i < xs.length
      · have e1 : xs.drop i = xs[i] :: xs.drop (i + 1) := List.drop_eq_getElem_cons hi
        rw [e1] at q2
        obtain ⟨hgo, hy⟩ := w.1 xs[i] (List.getElem?_eq_getElem hi)
        refine .inr ⟨hgo, fun σ' H' => ∃ env' st' ρ', ExtS B n ρ H1 ρ' H' ∧ RepE (gx L X) H' P ρ' env' σ' ∧ RepS (gx L X) H' P ρ' st' ∧ PostS (gx L X) W B n P ρ' H' (forSeq (fun x env st => match bindP p x env with | some env' => fb env' st | none => .bad) (xs.drop (i + 1)) env' st') D, fun σ' H' hN => ?_, fun v H3 yy => ?_⟩
        · obtain ⟨env', st', ρ', a, b, c, d⟩ := hN
          exact ⟨xs.length - (i + 1), by omega, env', st', ρ', rfl, a, b, c, d⟩
        · obtain ⟨k3, rs3, rv⟩ := hy v H3 yy
          exact turn re2 rs2 q2 k3 rs3 rv fun env' st' σ' H' ρ' x' rs' re' q' => ⟨env', st', ρ', x2.trans x', re', rs', q'⟩
      · rw [List.drop_eq_nil_of_le (by omega)] at q2
        exact .inl ⟨w.2 (by omega), q2 σ2 H2 ρ2 .refl rs2 re2⟩
    | cell l =>
      have q : PostS (gx L X) W B n P ρ H (if n ≤ l ∧ (l - n) ∈ B then .bad else forCell (fun x env st => match bindP p x env with | some env' => fb env' st | none => .bad) l fuelN 0 env st1) D := q
      split at q
      · exact q.elim
      · rename_i hl
        have fix : ∀ {ρ2 : Rho} {H2 : Hp}, ExtS B n ρ H1 ρ2 H2 → ρ2[l]? = ρ[l]? := fun x => x.fix l fun j hj z => hl ⟨by omega, by rw [show l - n = j by omega]; exact hj⟩
        refine ⟨fun i m σ2 H2 => ∃ env2 st2 ρ2, ExtS B n ρ H1 ρ2 H2 ∧ RepE (gx L X) H2 P ρ2 env2 σ2 ∧ RepS (gx L X) H2 P ρ2 st2 ∧ PostS (gx L X) W B n P ρ2 H2 (forCell (fun x env st => match bindP p x env with | some env' => fb env' st | none => .bad) l m i env2 st2) D,
          ⟨fuelN, env, st1, ρ, .refl, re1, rs1, q.kp k1⟩, fun i m σ2 H2 hW => ?_⟩
        obtain ⟨env2, st2, ρ2, x2, re2, rs2, q2⟩ := hW
        cases m with
        | zero => exact q2.elim
        | succ m =>
          have q2 : PostS (gx L X) W B n P ρ2 H2 (match st2[l]? with
            | some (.lst ys) => match ys[i]? with
              | none => .nx env2 st2
              | some x => ((match bindP p x env2 with | some env' => fb env' st2 | none => .bad) : Rs).andThen (forCell (fun x env st => match bindP p x env with | some env' => fb env' st | none => .bad) l m (i + 1))
            | _ => .bad) D := q2
          cases hs : st2[l]? with
          | none => rw [hs] at q2; exact q2.elim
          | some o =>
            cases o with
            | dead => rw [hs] at q2; exact q2.elim
            | dic _ => rw [hs] at q2; exact q2.elim
            | lst ys =>
              rw [hs] at q2
              have w := wk i H2 P ρ2 st2 ys (fix x2) rs2 hs
              cases hx : ys[i]? with
              | none =>
                simp only [hx] at q2
                exact .inl ⟨w.2 (List.getElem?_eq_none_iff.mp hx), q2 σ2 H2 ρ2 .refl rs2 re2⟩
              | some x =>
                simp only [hx] at q2
                obtain ⟨hgo, hy⟩ := w.1 x hx
                refine .inr ⟨hgo, fun σ' H' => ∃ env' st' ρ', ExtS B n ρ H1 ρ' H' ∧ RepE (gx L X) H' P ρ' env' σ' ∧ RepS (gx L X) H' P ρ' st' ∧ PostS (gx L X) W B n P ρ' H' (forCell (fun x env st => match bindP p x env with | some env' => fb env' st | none => .bad) l m (i + 1) env' st') D, fun σ' H' hN => ?_, fun v H3 yy => ?_⟩
                · obtain ⟨env', st', ρ', a, b, c, d⟩ := hN
                  exact ⟨m, by omega, env', st', ρ', a, b, c, d⟩
                · obtain ⟨k3, rs3, rv⟩ := hy v H3 yy
                  exact turn re2 rs2 q2 k3 rs3 rv fun env' st' σ' H' ρ' x' rs' re' q' => ⟨env', st', ρ', x2.trans x', re', rs', q'⟩
end
/-! ### while -/
def whileF (t : Ft) (body : Fs) : Nat → Fs
  | 0, _, _ => .bad
  | k + 1, env, st => (t env st).toSB env fun b st1 => if b = true then (body env st1).andThen (whileF t body k) else .nx env st1
def sWhile (t : Ft) (body : Fs) : Fs := whileF t body fuelN
section
variable {L : Lx} {X : Cx} {W : WX} {c : Expr} {tc : Ft} {pos : Pos} {body : List Stmt} {fb : Fs} {B : List Nat} {n : Nat}
theorem es_while (hp : PassesOwn (model X.prog X.w) X.A X.env X.xe) (hc : ET L X W c tc) (hb : ESs L X W B n body fb) : ES L X W B n (.While c body [] pos) (sWhile tc fb) := by
  refine PS.weak (ps_while hp hc hb) fun D σ H ⟨env, st, ρ, P, re, rs, q⟩ => ?_
  refine ⟨fun m σ2 H2 => ∃ env2 st2 ρ2, RepE (gx L X) H2 P ρ2 env2 σ2 ∧ RepS (gx L X) H2 P ρ2 st2 ∧ PostS (gx L X) W B n P ρ2 H2 (whileF tc fb m env2 st2) D, ⟨fuelN, env, st, ρ, re, rs, q⟩, fun m σ2 H2 hW => ?_⟩
  obtain ⟨env2, st2, ρ2, re2, rs2, q2⟩ := hW
  cases m with
  | zero => exact q2.elim
  | succ m =>
    refine ⟨env2, st2, ρ2, P, re2, rs2, PostB.thenS re2 rs2 q2 fun b st3 H3 k3 rs3 q3 => ?_⟩
    cases b with
    | false => exact q3 σ2 H3 ρ2 .refl rs3 (re2.ext k3 rs2)
    | true =>
      refine ⟨fun σ' H' => ∃ env' st' ρ', RepE (gx L X) H' P ρ' env' σ' ∧ RepS (gx L X) H' P ρ' st' ∧ PostS (gx L X) W B n P ρ' H' (whileF tc fb m env' st') D, fun σ' H' hN => ?_, env2, st3, ρ2, P, re2.ext k3 rs2, rs3, ?_⟩
      · obtain ⟨env', st', ρ', a, b, c⟩ := hN
        exact ⟨m, by omega, env', st', ρ', a, b, c⟩
      · exact PostS.then (fun l h => h) q3 fun env' st' σ' H' ρ' x' rs' re' q' => ⟨env', st', ρ', re', rs', q'⟩
end
/-! ### list comprehensions -/
def wipeE (env : Env) : List Nat → Env
  | [] => env
  | v :: vs => (wipeE env vs).set v none
def compSeq (p : Pat) (t : Ft) (fe : Fe) (env0 : Env) : List Val → List Val → Sto → Rv (List Val)
  | [], acc, st => .ok acc st
  | x :: r, acc, st => match bindP p x env0 with
    | some env => (t env st).bind fun b st1 => if b = true then (fe env st1).bind fun z st2 => match z.froz with
        | .v y => compSeq p t fe env0 r (acc ++ [y]) st2
        | _ => .bad
      else compSeq p t fe env0 r acc st1
    | none => .bad
def compCell (p : Pat) (t : Ft) (fe : Fe) (env0 : Env) (l : Nat) : Nat → Nat → List Val → Sto → Rv (List Val)
  | 0, _, _, _ => .bad
  | k + 1, i, acc, st => match st[l]? with
    | some (.lst ys) => match ys[i]? with
      | none => .ok acc st
      | some x => match bindP p x env0 with
        | some env => (t env st).bind fun b st1 => if b = true then (fe env st1).bind fun z st2 => match z.froz with
            | .v y => if acc.length < 1000000 then compCell p t fe env0 l k (i + 1) (acc ++ [y]) st2 else .bad
            | _ => .bad
          else compCell p t fe env0 l k (i + 1) acc st1
        | none => .bad
    | _ => .bad
/-- a new list; nothing is let out of a comprehension -/
def Rv.fresh (r : Rv (List Val)) : Rv SV := match r with
  | .ok ys st => .ok (.fl ys) st
  | _ => .bad
def eComp (fi : Fi) (p : Pat) (t : Ft) (fe : Fe) (vs : List Nat) : Fe := fun env st => (fi env st).bind fun s st1 => match s with
  | .seq xs => if xs.length ≤ 1000000 then (compSeq p t fe (wipeE env vs) xs [] st1).fresh else .bad
  | .cell l => (compCell p t fe (wipeE env vs) l fuelN 0 [] st1).fresh
def tYesF : Ft := fun _ st => .ok true st
abbrev W0 : WX := fun _ _ _ _ => False
section
variable {G : Gc} {W : WX} {σ : L2.St} {H H0 H1 H2 H' : Hp} {ρ ρ1 ρ2 ρ' : Rho} {P : Ts} {env env' : Env} {st st' st1 st2 : Sto}
theorem wipeE_len : ∀ vs : List Nat, (wipeE env vs).length = env.length
  | [] => rfl
  | v :: vs => by show ((wipeE env vs).set v none).length = _; rw [List.length_set, wipeE_len vs]
theorem RepE.wipe (re : RepE G H P ρ env σ) : ∀ vs : List Nat, RepE G H P ρ (wipeE env vs) (L2.wipe σ vs)
  | [] => re
  | v :: vs => by
    have ih := RepE.wipe re vs
    refine ⟨by show ((wipeE env vs).set v none).length = ((L2.wipe σ vs).set v none).length; rw [List.length_set, List.length_set]; exact ih.len, fun i z h => ?_⟩
    have h : ((wipeE env vs).set v none)[i]? = some (some z) := h
    by_cases e : i = v
    · subst e
      rw [List.getElem?_set] at h
      simp at h
    · rw [List.getElem?_set_ne (Ne.symm e)] at h
      obtain ⟨u, e1, r⟩ := ih.get i z h
      exact ⟨u, by show ((L2.wipe σ vs).set v none)[i]? = _; rw [List.getElem?_set_ne (Ne.symm e)]; exact e1, r⟩
theorem RepVs.app {T : Ts} : ∀ {xs : List Val} {vs : List V} {y : Val} {u : V}, RepVs G H T xs vs → RepV G H T y u → RepVs G H T (xs ++ [y]) (vs ++ [u])
  | _, _, _, _, .nil, r => .cons r .nil
  | _, _, _, _, .cons r t, q => .cons r (RepVs.app t q)
theorem RepE.plus {a : Addr} (re : RepE G H P ρ env σ) (h0 : H a = none) (rs : RepS G H P ρ st) {o : HO} : RepE G (upd H a o) (Plus P a) ρ env σ :=
  ⟨re.len, fun i z h => let ⟨v, e, r⟩ := re.get i z h; ⟨v, e, by
    cases r with
    | v r => exact .v (r.ext (kp_newP h0) rs.nt)
    | loc q => exact .loc q⟩⟩
end
section
variable {L : Lx} {X : Cx} {W : WX} {tg iter elt : Expr} {fi : Fi} {p : Pat} {g : TG} {t : Ft} {fe : Fe} {vs : List Nat}
/-- the comprehension's reading -/
theorem comp_tm (hpat : EP1 X p g) (hv : ∀ i ∈ p.names, i ∈ vs) (σ : L2.St) (H : Hp) (Q : VK) (h : TEm (gx L X) W (eComp fi p t fe vs) σ H Q) (hz : 1000000 < sizeLine := by decide) :
    tLc (TIm (gx L X) W fi) g (TTm (gx L X) W0 t) (TEm (gx L X) W0 fe) vs σ H Q := by
  obtain ⟨env, st, ρ, P, re, rs, q⟩ := h
  refine ⟨env, st, ρ, P, re, rs, ?_⟩
  unfold eComp at q
  cases hf : fi env st with
  | exc e st1 => rw [hf] at q; exact q
  | bad => rw [hf] at q; exact q
  | ok s st1 =>
    rw [hf] at q
    intro J H1 k1 rs1 wk D hD
    have h0D : NN H D := k1.none (.inl hD)
    have rsD : RepS (gx L X) (upd H1 D (.lst [])) (Plus P D) ρ st1 := rs1.freshP hD ⟨by intros; simp, by intros; simp, by intros; simp, by intros; simp⟩
    have nP : ¬ P D := fun t => rs1.ntr hD (.inl t)
    have reD : RepE (gx L X) (upd H1 D (.lst [])) (Plus P D) ρ (wipeE env vs) (L2.wipe σ vs) := (re.ext k1 rs).plus hD rs1 |>.wipe vs
    -- the state between two turns
    let St := fun (acc : List Val) (st2 : Sto) (H2 : Hp) => Kp (Tr ρ) H (Tr ρ) H2 ∧ Kp (TP (Plus P D) ρ) (upd H1 D (.lst [])) (TP (Plus P D) ρ) H2 ∧ RepS (gx L X) H2 (Plus P D) ρ st2 ∧ ∃ us, H2 D = some (.lst us) ∧ RepVs (gx L X) H2 (TP (Plus P D) ρ) acc us
    have st0 : St [] st1 (upd H1 D (.lst [])) := ⟨k1.trans (kp_new hD), Kp.refl, rsD, [], upd_same, .nil⟩
    -- the end
    have fin : ∀ {acc : List Val} {st2 : Sto} {H2 : Hp}, St acc st2 H2 → Post (gx L X) W σ P ρ H (.ok (.fl acc) st2) Q → Q (.ref D) H2 := fun {acc st2 H2} hS q2 => by
      obtain ⟨k2, _, rs2, us, e, rv⟩ := hS
      exact q2 _ H2 k2 rs2.drop (.fl e h0D rv rs2 nP)
    -- one turn
    have turn : ∀ {x : Val} {acc : List Val} {st2 : Sto} {H2 : Hp} {v : V} {H3 : Hp} {nA nN : List Val → Sto → Rv (List Val)} {Qv : Rv (List Val) → Prop} {Nx : Hp → Prop}, St acc st2 H2 → acc.length < sizeLine →
        Qv (match bindP p x (wipeE env vs) with
          | some env => (t env st2).bind fun b st1 => if b = true then (fe env st1).bind fun z st2 => match z.froz with
              | .v y => nA (acc ++ [y]) st2
              | _ => .bad
            else nN acc st1
          | none => .bad) → (¬ Qv .bad) → (∀ e s, ¬ Qv (.exc e s)) → Kp (Tr ρ) H2 (Tr ρ) H3 → RepS (gx L X) H3 (Plus P D) ρ st2 → RepV (gx L X) H3 (TP (Plus P D) ρ) x v →
        (∀ y st4 H4, St (acc ++ [y]) st4 H4 → Qv (nA (acc ++ [y]) st4) → Nx H4) → (∀ st4 H4, St acc st4 H4 → Qv (nN acc st4) → Nx H4) →
        g v (L2.wipe σ vs) H3 fun σ2 H2 => L2.wipe σ2 vs = L2.wipe σ vs ∧ TTm (gx L X) W0 t σ2 H2 fun b H3 =>
          if b = true then TEm (gx L X) W0 fe σ2 H3 fun y H4 => ∃ acc, H4 D = some (.lst acc) ∧ acc.length < sizeLine ∧ Nx (upd H4 D (.lst (acc ++ [y]))) else Nx H3 := fun {x acc st2 H2 v H3 nA nN Qv Nx} hS hl hq nb ne k3 rs3 rv wA wN => by
      obtain ⟨k2, kB, rs2, us, eD, rus⟩ := hS
      cases hb : bindP p x (wipeE env vs) with
      | none => rw [hb] at hq; exact (nb hq).elim
      | some env' =>
        rw [hb] at hq
        have re3 : RepE (gx L X) H3 (Plus P D) ρ (wipeE env vs) (L2.wipe σ vs) := ⟨reD.len, fun i z h => by
          obtain ⟨u, e, r⟩ := reD.get i z h
          refine ⟨u, e, ?_⟩
          cases r with
          | v r => exact .v ((r.ext kB rsD.nt).ext k3.tp rs2.nt)
          | loc q => exact .loc q⟩
        refine pat_ok hpat re3 rv hb fun σ4 re4 hw => ⟨?_, ?_⟩
        · rw [hw vs hv, wipe_wipe fun i h => h]
        · refine ⟨env', st2, ρ, Plus P D, re4, rs3, ?_⟩
          cases ht : t env' st2 with
          | bad => simp only [ht, Rv.bind] at hq; exact nb hq
          | exc e s => simp only [ht, Rv.bind] at hq; exact (ne _ _ hq).elim
          | ok b st4 =>
            simp only [ht, Rv.bind] at hq
            intro H4 k4 rs4
            have nD : ¬ Tr ρ D := rs2.apart D (.inr rfl)
            have eD4 : H4 D = some (.lst us) := (k3.trans k4).keepX nD eD (by intros; simp) rfl
            have rus4 := rus.ext (k3.trans k4).tp rs2.nt
            have kB4 := (kB.trans k3.tp).trans k4.tp
            have kA4 := (k2.trans k3).trans k4
            cases b with
            | false =>
              simp only [Bool.false_eq_true, if_false] at hq ⊢
              exact wN st4 H4 ⟨kA4, kB4, rs4, us, eD4, rus4⟩ hq
            | true =>
              simp only [if_true] at hq ⊢
              refine ⟨env', st4, ρ, Plus P D, re4.ext k4 rs3, rs4, ?_⟩
              cases hfe : fe env' st4 with
              | bad => simp only [hfe] at hq; exact nb hq
              | exc e s => simp only [hfe] at hq; exact (ne _ _ hq).elim
              | ok z st5 =>
                simp only [hfe] at hq
                intro y H5 k5 rs5 rx
                have rz := rx.z
                cases hz : z.froz with
                | loc _ => simp only [hz] at hq; exact (nb hq).elim
                | fl _ => simp only [hz] at hq; exact (nb hq).elim
                | fd _ => simp only [hz] at hq; exact (nb hq).elim
                | v yv =>
                  rw [hz] at rz
                  simp only [hz] at hq
                  cases rz with
                  | v ry =>
                    have eD5 : H5 D = some (.lst us) := k5.keepX nD eD4 (by intros; simp) rfl
                    refine ⟨us, eD5, by rw [← rus.len]; exact hl, ?_⟩
                    have kw : Kp (TP (Plus P D) ρ) H5 (TP (Plus P D) ρ) (upd H5 D (.lst (us ++ [y]))) := kp_write (.inl (.inr rfl))
                    have k6 := kA4.trans k5
                    refine wA yv st5 _ ⟨⟨fun a o na e nt => ?_, fun a n => h0D.over k6.stay n, fun a t => .inl t⟩, (kB4.trans k5.tp).trans kw, rs5.writeP (.inr rfl) ⟨by intros; simp, by intros; simp, by intros; simp, by intros; simp⟩, us ++ [y], upd_same, RepVs.app ((rus4.ext k5.tp rs4.nt).ext kw rs5.nt) (ry.ext kw rs5.nt)⟩ hq
                    · rw [upd_ne (h0D.ne e nt)]; exact k6.keep a o na e nt
    let Qv := fun r : Rv (List Val) => Post (gx L X) W σ P ρ H r.fresh Q
    have nb : ¬ Qv .bad := fun z => z
    have ne : ∀ e s, ¬ Qv (.exc e s) := fun _ _ z => z
    cases s with
    | seq xs =>
      have q : Post (gx L X) W σ P ρ H (if xs.length ≤ 1000000 then (compSeq p t fe (wipeE env vs) xs [] st1).fresh else .bad) Q := q
      split at q
      · rename_i hxl
        refine ⟨fun i m H2 => ∃ acc st2, m = xs.length - i ∧ acc.length ≤ i ∧ St acc st2 H2 ∧ Qv (compSeq p t fe (wipeE env vs) (xs.drop i) acc st2), ⟨xs.length, [], st1, rfl, Nat.le_refl _, st0, q⟩, fun i m H2 hW => ?_⟩
        obtain ⟨acc, st2, hm, hl, hS, hq⟩ := hW
        have w := wk i H2 (Plus P D) ρ st2 ((kp_newP hD).trans hS.2.1) hS.2.2.1
        by_cases hi : i < xs.length
        · rw [List.drop_eq_getElem_cons hi] at hq
          obtain ⟨hgo, hy⟩ := w.1 xs[i] (List.getElem?_eq_getElem hi)
          refine .inr ⟨hgo, fun H' => ∃ acc' st', acc'.length ≤ i + 1 ∧ St acc' st' H' ∧ Qv (compSeq p t fe (wipeE env vs) (xs.drop (i + 1)) acc' st'), fun H' hN => ?_, fun v H3 yy => ?_⟩
          · obtain ⟨acc', st', a, b, c⟩ := hN
            exact ⟨xs.length - (i + 1), by omega, acc', st', rfl, a, b, c⟩
          · obtain ⟨k3, rs3, rv⟩ := hy v H3 yy
            refine turn (nA := compSeq p t fe (wipeE env vs) (xs.drop (i + 1))) (nN := compSeq p t fe (wipeE env vs) (xs.drop (i + 1))) (Qv := Qv) hS (by omega) hq nb ne k3 rs3 rv (fun y st4 H4 hS4 q4 => ⟨acc ++ [y], st4, by rw [List.length_append]; simp; omega, hS4, q4⟩) (fun st4 H4 hS4 q4 => ⟨acc, st4, by omega, hS4, q4⟩)
        · rw [List.drop_eq_nil_of_le (by omega)] at hq
          exact .inl ⟨w.2 (by omega), fin hS hq⟩
      · exact q.elim
    | cell l =>
      have q : Qv (compCell p t fe (wipeE env vs) l fuelN 0 [] st1) := q
      refine ⟨fun i m H2 => ∃ acc st2, acc.length ≤ 1000000 ∧ St acc st2 H2 ∧ Qv (compCell p t fe (wipeE env vs) l m i acc st2), ⟨fuelN, [], st1, by simp, st0, q⟩, fun i m H2 hW => ?_⟩
      obtain ⟨acc, st2, hl, hS, hq⟩ := hW
      cases m with
      | zero => exact (nb hq).elim
      | succ m =>
        unfold compCell at hq
        cases hs : st2[l]? with
        | none => rw [hs] at hq; exact (nb hq).elim
        | some o =>
          cases o with
          | dead => rw [hs] at hq; exact (nb hq).elim
          | dic _ => rw [hs] at hq; exact (nb hq).elim
          | lst ys =>
            rw [hs] at hq
            have w := wk i H2 (Plus P D) ρ st2 ys rfl hS.2.2.1 hs
            cases hx : ys[i]? with
            | none =>
              simp only [hx] at hq
              exact .inl ⟨w.2 (List.getElem?_eq_none_iff.mp hx), fin hS hq⟩
            | some x =>
              simp only [hx] at hq
              obtain ⟨hgo, hy⟩ := w.1 x hx
              refine .inr ⟨hgo, fun H' => ∃ acc' st', acc'.length ≤ 1000000 ∧ St acc' st' H' ∧ Qv (compCell p t fe (wipeE env vs) l m (i + 1) acc' st'), fun H' hN => ?_, fun v H3 yy => ?_⟩
              · obtain ⟨acc', st', a, b, c⟩ := hN
                exact ⟨m, by omega, acc', st', a, b, c⟩
              · obtain ⟨k3, rs3, rv⟩ := hy v H3 yy
                refine turn (nA := fun a' s' => if acc.length < 1000000 then compCell p t fe (wipeE env vs) l m (i + 1) a' s' else .bad) (nN := compCell p t fe (wipeE env vs) l m (i + 1)) (Qv := Qv) hS (by omega) hq nb ne k3 rs3 rv (fun y st4 H4 hS4 q4 => ?_) (fun st4 H4 hS4 q4 => ⟨acc, st4, hl, hS4, q4⟩)
                split at q4
                · exact ⟨acc ++ [y], st4, by rw [List.length_append]; simp; omega, hS4, q4⟩
                · exact (nb q4).elim
theorem ee_comp {ifs : List Expr} {scope : Scope} {own : List (Str × Nat)} {pos : Pos} (hc : X.calm = true) (hN : X.N.Nodup) (hi : EI L X W tg iter fi) (ok : BlkOk X.N X.env.scope scope own)
    (hg : ∀ (s : Shared) (H : Hp) (C : Addr) (cl : List (Str × Addr)) (fp : List Addr), PG (X.blk s H scope (compEnvC scope cl C X.env) fp) tg g) (ht : ∀ (s : Shared) (H : Hp) (C : Addr) (cl : List (Str × Addr)) (fp : List Addr), PTs (X.blk s H scope (compEnvC scope cl C X.env) fp) ifs (TTm (gx L X) W0 t))
    (he : ∀ (s : Shared) (H : Hp) (C : Addr) (cl : List (Str × Addr)) (fp : List Addr), PE (X.blk s H scope (compEnvC scope cl C X.env) fp) elt (TEm (gx L X) W0 fe)) (hpat : EP1 X p g) (hv : ∀ i ∈ p.names, i ∈ own.map (·.2)) (hs : ∀ x, foldedSetIterable iter X.env x = pure x := by intro _; rfl) :
    EE L X W (.ListComp elt [⟨tg, iter, ifs, 0⟩] scope pos) (eComp fi p t fe (own.map (·.2))) :=
  PE.weak (pe_lc hc hN hi ok hg ht he hs) fun σ H Q h => comp_tm hpat hv σ H Q h
/-- name = [..] on one line, the name a plain local -/
theorem es_setc {n i : Nat} {y : Str} {py : Pos} {ifs : List Expr} {scope : Scope} {own : List (Str × Nat)} {pos spos : Pos} (m : Md) (B : List Nat) (hc : X.calm = true) (hN : X.N.Nodup) (hi : EI L X W tg iter fi) (ok : BlkOk X.N X.env.scope scope own)
    (hg : ∀ (s : Shared) (H : Hp) (C : Addr) (cl : List (Str × Addr)) (fp : List Addr), PG (X.blk s H scope (compEnvC scope cl C X.env) fp) tg g) (ht : ∀ (s : Shared) (H : Hp) (C : Addr) (cl : List (Str × Addr)) (fp : List Addr), PTs (X.blk s H scope (compEnvC scope cl C X.env) fp) ifs (TTm (gx L X) W0 t))
    (he : ∀ (s : Shared) (H : Hp) (C : Addr) (cl : List (Str × Addr)) (fp : List Addr), PE (X.blk s H scope (compEnvC scope cl C X.env) fp) elt (TEm (gx L X) W0 fe)) (hpat : EP1 X p g) (hv : ∀ i ∈ p.names, i ∈ own.map (·.2)) (hy : X.N[i]? = some y := by rfl) (hyl : X.env.scope.names.lookup y = some .local := by rfl)
    (hsw : swapsWith (.ListComp elt [⟨tg, iter, ifs, 0⟩] scope pos) (some (.Name y py)) spos.line X.env = pure true := by exact sw_true rfl rfl rfl (by decide +kernel)) (hs : ∀ x, foldedSetIterable iter X.env x = pure x := by intro _; rfl) :
    ES L X W (B ++ m.cells) n (.Assign [.Name y py] (.ListComp elt [⟨tg, iter, ifs, 0⟩] scope pos) spos) (sSet m n B i (eComp fi p t fe (own.map (·.2)))) :=
  PS.weak (ps_setLc hc hN hy hyl hsw hi ok hg ht he hs) fun D σ H h => comp_tm hpat hv σ H _ (set_tm D σ H h)
theorem pts_yes {X : Cx} {L : Lx} : PTs X [] (TTm (gx L X) W0 tYesF) := ⟨fun pins s σ H Q I h => pts_nil.run pins s σ H Q I (let ⟨env, st, ρ, P, re, rs, p⟩ := h; p H Kp.refl rs)⟩
theorem pts_if {X : Cx} {L : Lx} {c : Expr} {t : Ft} (h : ET L X W0 c t) : PTs X [c] (TTm (gx L X) W0 t) := pts_one h
end
end Eng

namespace Eng
open PySem PySem.Spec PyProof.Rows L2

/-! ### a def -/
abbrev Fc := List SV → Sto → Rv SV
/-- what is handed back: a cell of the def's own comes as a new thing -/
def retV (n : Nat) (z : SV) (st : Sto) : Option SV := match z with
  | .loc l => if n ≤ l then (match st[l]? with
    | some (.lst xs) => some (.fl xs)
    | some (.dic t kvs) => some (.fd t kvs)
    | _ => none) else none
  | z => some z
/-- N slots, m cells of its own -/
def callF (N m : Nat) (body : Nat → Fs) : Fc := fun zs st =>
  match body st.length (zs.map some ++ List.replicate (N - zs.length) none) (st ++ List.replicate m .dead) with
  | .nx _ st' => .ok (.v .non) (st'.take st.length)
  | .rt z st' => (match retV st.length z st' with
    | some z' => .ok z' (st'.take st.length)
    | none => .bad)
  | .exc e _ st' => .exc e (st'.take st.length)
  | .bad => .bad
def PostC (G : Gc) (P : Ts) (ρ : Rho) (H : Hp) (r : Rv SV) (Q : VK) (E : XK) : Prop := match r with
  | .ok z st' => ∀ v H', Kp (Tr ρ) H (Tr ρ) H' → RepS G H' P ρ st' → RepX G H H' P ρ st' z v → Q v H'
  | .exc e st' => ∀ cls d H', Kp (Tr ρ) H (Tr ρ) H' → RepS G H' P ρ st' → RepEx G H' e cls d → E cls d H'
  | .bad => False
/-- the promise of a def that does as c says -/
def SpF (G : Gc) (k : Nat) (c : Fc) : Sp := fun vs H Q E => ∃ zs st ρ P, zs.length = k ∧ RepZs G H P ρ zs vs ∧ RepS G H P ρ st ∧ PostC G P ρ H (c zs st) Q E
def eCall (c : Fc) (fa : Env → Sto → Rv (List SV)) : Fe := fun env st => (fa env st).bind fun zs st1 => c zs st1
section
variable {G : Gc} {σ : L2.St} {H H0 H1 H2 H' : Hp} {ρ ρ1 ρ2 ρ' : Rho} {P : Ts} {env env' : Env} {st st' st1 st2 : Sto}
theorem RepZs.len : ∀ {zs : List SV} {vs : List V}, RepZs G H P ρ zs vs → zs.length = vs.length
  | _, _, .nil => rfl
  | _, _, .cons _ t => congrArg (· + 1) (RepZs.len t)
theorem tr_app {m : Nat} {a : Addr} : Tr (ρ ++ List.replicate m none) a ↔ Tr ρ a := by
  refine ⟨fun h => ?_, fun h => List.mem_append_left _ h⟩
  rcases List.mem_append.mp h with h | h
  · exact h
  · cases (List.mem_replicate.mp h).2
theorem RepV.same {T T' : Ts} (h : ∀ a, T' a → T a) (nt : NoTup H T) {x : Val} {v : V} (r : RepV G H T x v) : RepV G H T' x v := r.ext ⟨fun _ _ _ h _ => .inl h, fun _ h => h, fun a t => .inl (h a t)⟩ nt
/-- the def's own cells, none bound yet -/
theorem RepS.enter (rs : RepS G H P ρ st) (m : Nat) : RepS G H P (ρ ++ List.replicate m none) (st ++ List.replicate m .dead) := by
  have hlen := rs.len
  have key : ∀ {l : Nat} {a : Addr}, (ρ ++ List.replicate m none)[l]? = some (some a) → ρ[l]? = some (some a) := fun {l a} e => by
    by_cases h : l < ρ.length
    · rw [List.getElem?_append_left h] at e; exact e
    · rw [List.getElem?_append_right (by omega)] at e
      have := List.mem_of_getElem? e
      cases (List.mem_replicate.mp this).2
  have x : Kp (TP P ρ) H (TP P (ρ ++ List.replicate m none)) H := ⟨fun _ _ _ h _ => .inl h, fun _ h => h, fun a t => .inl (t.imp id tr_app.mp)⟩
  refine ⟨by simp [hlen], fun l l' a e1 e2 => rs.nd l l' a (key e1) (key e2), fun l a e => ?_, fun l e => ?_, rs.tab, rs.prv, fun a pa t => rs.apart a pa (tr_app.mp t)⟩
  · obtain ⟨o, e1, r⟩ := rs.obj l a (key e)
    have hl : l < st.length := (List.getElem?_eq_some_iff.mp e1).1
    exact ⟨o, by rw [List.getElem?_append_left hl]; exact e1, r.ext x rs.nt rfl⟩
  · by_cases h : l < ρ.length
    · rw [List.getElem?_append_left h] at e
      rw [List.getElem?_append_left (by omega)]; exact rs.dead l e
    · rw [List.getElem?_append_right (by omega)] at e
      rw [List.getElem?_append_right (by omega)]
      have hm : l - ρ.length < m := by
        have := (List.getElem?_eq_some_iff.mp e).1
        simpa using this
      rw [← hlen, List.getElem?_replicate]
      rw [if_pos hm]
/-- .. left behind -/
theorem take_at {l n : Nat} {α : Type} {xs : List α} {a : α} : (xs.take n)[l]? = some a ↔ (l < n ∧ xs[l]? = some a) := by
  rw [List.getElem?_take]
  by_cases h : l < n
  · rw [if_pos h]; exact ⟨fun e => ⟨h, e⟩, fun e => e.2⟩
  · rw [if_neg h]; exact ⟨fun e => (nomatch e), fun e => absurd e.1 h⟩
theorem RepS.leave (rs : RepS G H P ρ st) (n : Nat) : RepS G H P (ρ.take n) (st.take n) := by
  have x : Kp (TP P ρ) H (TP P (ρ.take n)) H := ⟨fun _ _ _ h _ => .inl h, fun _ h => h, fun a t => .inl (t.imp id fun z => List.mem_of_mem_take z)⟩
  refine ⟨by simp [rs.len], fun l l' a e1 e2 => rs.nd l l' a (take_at.mp e1).2 (take_at.mp e2).2, fun l a e => ?_, fun l e => ?_, rs.tab, rs.prv, fun a pa t => rs.apart a pa (List.mem_of_mem_take t)⟩
  · obtain ⟨h1, h2⟩ := take_at.mp e
    obtain ⟨o, e1, r⟩ := rs.obj l a h2
    exact ⟨o, take_at.mpr ⟨h1, e1⟩, r.ext x rs.nt rfl⟩
  · obtain ⟨h1, h2⟩ := take_at.mp e
    exact take_at.mpr ⟨h1, rs.dead l h2⟩
theorem RepE.start {N : List Str} {zs : List SV} {vs : List V} (rz : RepZs G H P ρ zs vs) (m : Nat) (nt : NoTup H (TP P ρ)) (hl : ∀ (l : Nat) (a : Addr), ρ[l]? = some (some a) → (ρ ++ List.replicate m none)[l]? = some (some a)) :
    RepE G H P (ρ ++ List.replicate m none) (zs.map some ++ List.replicate (N.length - zs.length) none) (L2.start N vs) := by
  have x : Kp (TP P ρ) H (TP P (ρ ++ List.replicate m none)) H := ⟨fun _ _ _ h _ => .inl h, fun _ h => h, fun a t => .inl (t.imp id tr_app.mp)⟩
  refine ⟨by unfold L2.start; simp [rz.len], fun i z e => ?_⟩
  have get : ∀ {zs : List SV} {vs : List V} {i : Nat} {z : SV}, RepZs G H P ρ zs vs → zs[i]? = some z → ∃ v, vs[i]? = some v ∧ RepZ G H P ρ z v := fun {zs vs i z} q => by
    induction q generalizing i with
    | nil => intro e; simp at e
    | cons r t ih =>
      cases i with
      | zero => intro e; simp at e; subst e; exact ⟨_, rfl, r⟩
      | succ i => intro e; obtain ⟨v, e1, r⟩ := ih (by simpa using e); exact ⟨v, by simpa using e1, r⟩
  by_cases h : i < zs.length
  · rw [List.getElem?_append_left (by simpa using h), List.getElem?_map] at e
    cases q : zs[i]? with
    | none => rw [q] at e; cases e
    | some z' =>
      rw [q] at e
      have e : z' = z := by simpa using e
      subst e
      obtain ⟨v, e1, r⟩ := get rz q
      refine ⟨v, ?_, ?_⟩
      · unfold L2.start
        rw [List.getElem?_append_left (by rw [List.length_map, ← rz.len]; exact h), List.getElem?_map, e1]; rfl
      · cases r with
        | v r => exact .v (r.ext x nt)
        | loc q2 => exact .loc (hl _ _ q2)
  · rw [List.getElem?_append_right (by simpa using h)] at e
    have := List.mem_of_getElem? e
    cases (List.mem_replicate.mp this).2
theorem RepS.leaveP (rs : RepS G H P ρ st) {n l : Nat} {a : Addr} (h : ρ[l]? = some (some a)) (hn : n ≤ l) : RepS G H (Plus P a) (ρ.take n) (st.take n) := by
  have na : ¬ Tr (ρ.take n) a := fun t => by
    obtain ⟨l', e⟩ := at_tr t
    obtain ⟨h1, h2⟩ := take_at.mp e
    have := rs.nd _ _ _ h2 h
    omega
  have x : Kp (TP P ρ) H (TP (Plus P a) (ρ.take n)) H := ⟨fun _ _ _ h _ => .inl h, fun _ h => h, fun b t => .inl (by
    rcases t with (t | t) | t
    · exact .inl t
    · subst t; exact .inr (tr_at h)
    · exact .inr (List.mem_of_mem_take t))⟩
  refine ⟨by simp [rs.len], fun l l' a e1 e2 => rs.nd l l' a (take_at.mp e1).2 (take_at.mp e2).2, fun l a e => ?_, fun l e => ?_, rs.tab, fun b pb => ?_, fun b pb t => ?_⟩
  · obtain ⟨h1, h2⟩ := take_at.mp e
    obtain ⟨o, e1, r⟩ := rs.obj l a h2
    exact ⟨o, take_at.mpr ⟨h1, e1⟩, r.ext x rs.nt rfl⟩
  · obtain ⟨h1, h2⟩ := take_at.mp e
    exact take_at.mpr ⟨h1, rs.dead l h2⟩
  · rcases pb with pb | pb
    · exact rs.prv b pb
    · subst pb; exact rs.tr (.inr (tr_at h))
  · rcases pb with pb | pb
    · exact rs.apart b pb (List.mem_of_mem_take t)
    · subst pb; exact na t
theorem RepVs.same {T T' : Ts} (h : ∀ a, T' a → T a) (nt : NoTup H T) {x : List Val} {v : List V} (r : RepVs G H T x v) : RepVs G H T' x v := r.ext ⟨fun _ _ _ h _ => .inl h, fun _ h => h, fun a t => .inl (h a t)⟩ nt
theorem RepK.same {T T' : Ts} (h : ∀ a, T' a → T a) (nt : NoTup H T) {x : List (Val × Val)} {v : List (Key × V)} (r : RepK G H T x v) : RepK G H T' x v := r.ext ⟨fun _ _ _ h _ => .inl h, fun _ h => h, fun a t => .inl (h a t)⟩ nt
theorem RepT.same {T T' : Ts} (h : ∀ a, T' a → T a) (nt : NoTup H T) {x : List (Val × Val)} {v : List (List Key × V)} (r : RepT G H T x v) : RepT G H T' x v := r.ext ⟨fun _ _ _ h _ => .inl h, fun _ h => h, fun a t => .inl (h a t)⟩ nt
/-- the def's end, as its caller sees it -/
theorem callF_post {W : WX} {N : List Str} {m : Nat} {body : Nat → Fs} {B : List Nat} {zs : List SV} {vs : List V} {Q : VK} {E : XK} (rz : RepZs G H P ρ zs vs) (rs : RepS G H P ρ st) (hW : ∀ cls d σ H, E cls d H → W cls d σ H)
    (p : PostC G P ρ H (callF N.length m body zs st) Q E) :
    PostS G W B st.length P (ρ ++ List.replicate m none) H (body st.length (zs.map some ++ List.replicate (N.length - zs.length) none) (st ++ List.replicate m .dead)) { nx := fun _ H' => Q .non H', rt := Q } := by
  unfold callF at p
  have hlen := rs.len
  have back : ∀ {ρ' : Rho} {H' : Hp}, ExtS B st.length (ρ ++ List.replicate m none) H ρ' H' → ρ'.take st.length = ρ ∧ Kp (Tr ρ) H (Tr ρ) H' := fun {ρ' H'} x => by
    have e : ρ'.take st.length = ρ := by
      apply List.ext_getElem?
      intro l
      by_cases h : l < st.length
      · rw [List.getElem?_take, if_pos h, x.old h, List.getElem?_append_left (by omega)]
      · rw [List.getElem?_take, if_neg h, List.getElem?_eq_none (by omega)]
    refine ⟨e, ⟨fun a o na h t => x.kp.keep a o (fun z => na (tr_app.mp z)) h t, x.kp.stay, fun a t => .inl t⟩⟩
  cases h : body st.length (zs.map some ++ List.replicate (N.length - zs.length) none) (st ++ List.replicate m .dead) with
  | bad => rw [h] at p; exact p
  | nx en s =>
    rw [h] at p
    intro σ' H' ρ' x rs' re'
    obtain ⟨e, k⟩ := back x
    have l := rs'.leave st.length
    rw [e] at l
    exact p .non H' k l (.v .non)
  | exc ex en s =>
    rw [h] at p
    intro c d σ' H' ρ' x rs' re' rx
    obtain ⟨e, k⟩ := back x
    have l := rs'.leave st.length
    rw [e] at l
    exact hW _ _ _ _ (p c d H' k l rx)
  | rt z s =>
    rw [h] at p
    intro v H' ρ' x rs' rx
    obtain ⟨e, k⟩ := back x
    have l := rs'.leave st.length
    rw [e] at l
    have sub : ∀ a, Tr ρ a → Tr ρ' a := fun a t => by rw [← e] at t; exact List.mem_of_mem_take t
    have sub1 : ∀ a, TP P ρ a → TP P ρ' a := fun a t => t.imp id (sub a)
    have sub2 : ∀ a b, TP (Plus P a) ρ b → TP (Plus P a) ρ' b := fun a b t => t.imp id (sub b)
    cases rx with
    | v r => exact p v H' k l (.v (r.same sub1 rs'.nt))
    | fl h1 n0 r rp np =>
      have l2 := rp.leave st.length
      rw [e] at l2
      exact p _ H' k l (.fl h1 n0 (r.same (sub2 _) rp.nt) l2 np)
    | fdK h1 n0 r rp np =>
      have l2 := rp.leave st.length
      rw [e] at l2
      exact p _ H' k l (.fdK h1 n0 (r.same (sub2 _) rp.nt) l2 np)
    | fdT h1 n0 r rp np =>
      have l2 := rp.leave st.length
      rw [e] at l2
      exact p _ H' k l (.fdT h1 n0 (r.same (sub2 _) rp.nt) l2 np)
    | @loc i a q =>
      simp only [retV] at p
      split at p
      · rename_i z' hz'
        split at hz'
        · rename_i hi
          have na : ¬ Tr ρ a := fun t => by
            rw [← e] at t
            obtain ⟨l', e'⟩ := at_tr t
            obtain ⟨h1, h2⟩ := take_at.mp e'
            have := rs'.nd _ _ _ h2 q
            omega
          have n0 : NN H a := by
            rcases x.kp.new a (tr_at q) with t | t
            · exact absurd (tr_app.mp t) na
            · exact t
          have np : ¬ P a := fun pa => rs.ntrN n0 (.inl pa)
          have l2 := rs'.leaveP q hi
          rw [e] at l2
          have sub3 : ∀ b, TP (Plus P a) ρ b → TP P ρ' b := fun b t => by
            rcases t with (t | t) | t
            · exact .inl t
            · subst t; exact .inr (tr_at q)
            · exact .inr (sub b t)
          obtain ⟨o, e1, ro⟩ := rs'.obj i a q
          rw [e1] at hz'
          cases ro with
          | lst h1 r => cases hz'; exact p _ H' k l (.fl h1 n0 (r.same sub3 rs'.nt) l2 np)
          | dicK h1 r => cases hz'; exact p _ H' k l (.fdK h1 n0 (r.same sub3 rs'.nt) l2 np)
          | dicT h1 r => cases hz'; exact p _ H' k l (.fdT h1 n0 (r.same sub3 rs'.nt) l2 np)
        · cases hz'
      · exact p.elim
end
/-! ### the rule for a def; a call -/
section
variable {P : Program} {w : World} {K : PySem.W.Frag} {mg : Str → Option Value} {base : Heap} {L : Lx}
/-- the promise of a def that lets nothing out -/
def SpF0 (G : Gc) (k : Nat) (c : Fc) : Sp := fun vs H Q _ => ∃ zs st ρ P, zs.length = k ∧ RepZs G H P ρ zs vs ∧ RepS G H P ρ st ∧ PostC G P ρ H (c zs st) Q E0
theorem fn_pure {x qual : Str} {s : Stmt} {f : Addr} {fd : FuncData} {N ps : List Str} {k m : Nat} {body : Nat → Fs} {B : List Nat} (F : L2.Fun K x qual s f fd) (S : FnScope N ps (defScope s))
    (hb : ∀ (cdv : Value) (A : Around) (outer : List PySem.Env) (s0 : Shared) (H : Hp) (E : XK) (n : Nat), Room k (A.deeper (envOfC qual (defScope s) s0.heap.objs.size f cdv)) →
      ESs L (cxOf CX0 P w K mg base N qual (defScope s) f cdv A outer s0 H E).nox W0 B n (defBody s) (body n)) :
    FnOk P w K mg base CX0 (k + 1) f fd ps (SpF0 ⟨K, mg, L.T, L.ex, L.tn⟩ ps.length (callF N.length m body)) := by
  refine F.ok S (fun vs H Q E h => ?_) (fun cdv A outer s0 H vs Q E hr h => ?_)
  · obtain ⟨zs, st, ρ, P', hl, rz, _⟩ := h
    rw [← rz.len]; exact hl
  · obtain ⟨zs, st, ρ, P', hl, rz, rs, p⟩ := h
    refine ⟨_, hb cdv A outer s0 H E st.length hr, _, _, ρ ++ List.replicate m none, P', RepE.start (N := N) rz m rs.nt (fun l a e => ?_), rs.enter m, callF_post rz rs (fun _ _ _ _ z => z) p⟩
    have hlt : l < ρ.length := (List.getElem?_eq_some_iff.mp e).1
    rw [List.getElem?_append_left hlt]; exact e
end
section
variable {X : Cx} {L : Lx} {k : Nat} {f : Addr} {fd : FuncData} {ps : List Str} {c : Fc} {x : Str} {p pos : Pos} {e : Expr} {es : List Expr} {fr : PySem.Expr → Nat} {fa : Env → Sto → Rv (List SV)}
theorem ee_call (F : FnOk X.prog X.w X.K X.mg X.base CX0 k f fd ps (SpF0 (gx L X) ps.length c)) (hr : Room k X.A) (hg : Gl X x) (hm : X.mg x = some (.ref f)) (hk : PySem.W.keepIn X.K (.ref f) = true) (hb : Binds X.K fd ps [])
    (ha : EA L X W0 (e :: es) fa) (hl : ∀ env st zs st', fa env st = .ok zs st' → zs.length = ps.length) (hdb : (x == ("__debug__" : Str)) = false := by decide) (he : starEach (e :: es) X.env = (false, eval e X.env) :: starEach es X.env := by rfl) (hpl : (backTo pos (starEach es X.env)).any (·.1) = false := by rfl) :
    EE L X W0 (.Call (.Name x p) (e :: es) [] pos) (eCall c fa) := by
  refine PE.weak (pe_call F hr hg hm hk hb .nil pass0 ha hdb he hpl) fun σ H Q ⟨env, st, ρ, P, re, rs, q⟩ => ⟨env, st, ρ, P, re, rs, ?_⟩
  unfold eCall at q
  cases h : fa env st with
  | bad => rw [h] at q; exact q
  | exc ex s => rw [h] at q; exact q
  | ok zs st1 =>
    rw [h] at q
    intro vs H1 k1 rs1 rz
    refine ⟨zs, st1, ρ, P, hl _ _ _ _ h, by rw [List.append_nil]; exact rz, rs1, ?_⟩
    have q : Post (gx L X) W0 σ P ρ H (c zs st1) Q := q
    have q := Post.step k1 q
    cases h2 : c zs st1 with
    | ok z s => rw [h2] at q; exact q
    | exc ex s => rw [h2] at q; exact q
    | bad => rw [h2] at q; exact q
end
end Eng

namespace Eng
open PySem PySem.Spec PyProof.Rows L2

/-! ### what comes of a rule -/
section
variable {G : Gc} {H H0 H1 H2 H' : Hp} {ρ : Rho} {P : Ts} {st : Sto} {Q : VK}
theorem POp.val {x : Val} {v : V} (p : POp G P ρ st H (some (.v x)) Q) (rs : RepS G H P ρ st) (r : RepV G H (TP P ρ) x v) : Q v H := p v H Kp.refl rs (.v r)
theorem POp.tup {xs : List Val} {vs : List V} {p : Addr} {o : Obj} (q : POp G P ρ st H (some (.v (.tup xs))) Q) (rs : RepS G H P ρ st) (h : H p = none) (d : o.dict = none) (r : RepVs G H (TP P ρ) xs vs) : Q (.ref p) (upd H p (tpO G.tn o vs)) :=
  q _ _ (kp_new h) (rs.fresh h) (.v (.tup ⟨o, d, upd_same⟩ (r.ext (kp_new h) rs.nt)))
theorem POp.tupF {xs : List Val} {vs : List V} {p : Addr} (htn : G.tn = false) (q : POp G P ρ st H (some (.v (.tup xs))) Q) (rs : RepS G H P ρ st) (h : H p = none) (r : RepVs G H (TP P ρ) xs vs) : Q (.ref p) (upd H p (.tup vs)) :=
  q _ _ (kp_new h) (rs.fresh h) (.v (.tup (TupH.of upd_same htn) (r.ext (kp_new h) rs.nt)))
theorem POp.lst {xs : List Val} {vs : List V} {p : Addr} (q : POp G P ρ st H (some (.fl xs)) Q) (rs : RepS G H P ρ st) (h : H p = none) (r : RepVs G H (TP P ρ) xs vs) : Q (.ref p) (upd H p (.lst vs)) :=
  q _ _ (kp_new h) (rs.fresh h) (.fl upd_same (.inl h) (r.ext (kp_newP h) rs.nt) (rs.freshP h ⟨by intros; simp, by intros; simp, by intros; simp, by intros; simp⟩) fun t => rs.ntr h (.inl t))
theorem RepVs.append {T : Ts} : ∀ {xs ys : List Val} {vs us : List V}, RepVs G H T xs vs → RepVs G H T ys us → RepVs G H T (xs ++ ys) (vs ++ us)
  | _, _, _, _, .nil, s => s
  | _, _, _, _, .cons r t, s => .cons r (RepVs.append t s)
theorem RepVs.drop {T : Ts} : ∀ {xs : List Val} {vs : List V} (n : Nat), RepVs G H T xs vs → RepVs G H T (xs.drop n) (vs.drop n)
  | _, _, 0, r => r
  | _, _, _ + 1, .nil => .nil
  | _, _, n + 1, .cons _ t => RepVs.drop n t
theorem RepVs.take {T : Ts} : ∀ {xs : List Val} {vs : List V} (n : Nat), RepVs G H T xs vs → RepVs G H T (xs.take n) (vs.take n)
  | _, _, 0, _ => .nil
  | _, _, _ + 1, .nil => .nil
  | _, _, n + 1, .cons r t => .cons r (RepVs.take n t)
theorem sok_len {l : List Nat} (h : SOk l = true) : l.length ≤ 1000000 := by
  unfold SOk at h
  simp only [Bool.and_eq_true, decide_eq_true_eq] at h
  exact h.1
theorem line1 : (1000000 : Nat) < sizeLine := by decide
theorem sok_size {l : List Nat} (h : SOk l = true) : (toS l).length ≤ sizeLine := by
  have := sok_len h
  have := line1
  show l.toArray.size ≤ sizeLine
  simp only [List.size_toArray]
  omega
end
theorem OpR.weak {X : Cx} {f : Value → Value → Sem Value} {r r' : R2} (h : OpR X f r) (w : ∀ x y H Q, r' x y H Q → r x y H Q) : OpR X f r' := fun pins s σ H x y v u Q I rx ry q => h pins s σ H x y v u Q I rx ry (w x y H Q q)
theorem IxR.weak {X : Cx} {r r' : R2} (h : IxR X r) (w : ∀ x y H Q, r' x y H Q → r x y H Q) : IxR X r' := fun a b pins s σ H x y v u Q I rx ry q => h a b pins s σ H x y v u Q I rx ry (w x y H Q q)
theorem CallR.weak {X : Cx} {f : Value} {r r' : List V → Hp → VK → Prop} (h : CallR X f r) (w : ∀ xs H Q, r' xs H Q → r xs H Q) : CallR X f r' := fun pins s σ H xs us Q I rx q => h pins s σ H xs us Q I rx (w xs H Q q)
theorem MtR.weak {X : Cx} {id : String} {r r' : V → List V → Hp → VK → Prop} (h : MtR X id r) (w : ∀ x xs H Q, r' x xs H Q → r x xs H Q) : MtR X id r' := fun pins s σ H x xs v us Q I rx rv q => h pins s σ H x xs v us Q I rx rv (w x xs H Q q)

/-! ### tuples as they are laid -/
theorem tpO_ok {P : Program} {w : World} {H : Hp} {h : Heap} {a : Addr} {o : Obj} {vs : List V} (tn : Bool) (e : h.get? a = some o) (x : ObjOk P w H h a (.tup vs)) : ObjOk P w H h a (tpO tn o vs) := by
  unfold tpO
  split
  · exact ⟨e, x⟩
  · exact x
theorem laid_tup {X : Cx} {pins : List (Addr × Obj)} {σ : L2.St} {H : Hp} {s : Shared} (I : L2.Inv X pins σ H s) {vs : List V} {its : List Value} (hz : vs.length ≤ sizeLine) (r : Vals vs its) (tn : Bool) :
    L2.Inv X pins σ (upd H s.heap.objs.size (tpO tn { cls := .type "tuple", data := .seq its.toArray } vs)) { s with heap := s.heap.push { cls := .type "tuple", data := .seq its.toArray } } :=
  I.laid (t' := s.toks) (fun _ _ q => Heap.get?_push_of_some _ q) (Nat.le_refl _) (tpO_ok tn (Heap.get?_push_size _ rfl) ⟨hz, its, r, IsTup.new _ _⟩)
/-- t + u -/
def rCatB (tn : Bool) (K : PySem.W.Frag) : R2 := fun x y H Q => ∃ a b xs ys, x = .ref a ∧ y = .ref b ∧ SqT K H a xs ∧ SqT K H b ys ∧ xs.length + ys.length ≤ sizeLine ∧
  (xs = [] → Q (.ref b) H) ∧ (xs ≠ [] → ys = [] → Q (.ref a) H) ∧ (xs ≠ [] → ys ≠ [] → ∀ (p : Addr) (o : Obj), H p = none → o.dict = none → Q (.ref p) (upd H p (tpO tn o (xs ++ ys))))
theorem op_catB {X : Cx} (tn : Bool) : OpR X (binaryOp .Add) (rCatB tn X.K) := fun pins s σ H x y v u Q I rx ry ⟨a, b, xs, ys, e1, e2, ha, hb, hz, q0, q1, q2⟩ => by
  by_cases h0 : xs = []
  · exact op_catA pins s σ H x y v u Q I rx ry ⟨a, b, xs, ys, e1, e2, ha, hb, hz, q0, fun h => absurd h0 h, fun h => absurd h0 h⟩
  by_cases h1 : ys = []
  · exact op_catA pins s σ H x y v u Q I rx ry ⟨a, b, xs, ys, e1, e2, ha, hb, hz, q0, q1, fun _ h => absurd h1 h⟩
  subst e1 e2
  cases rx; cases ry
  have ⟨is, r, t, _⟩ := I.tuple ha
  have ⟨js, r', t', _⟩ := I.tuple hb
  refine HT.cat_tup t t' (fun z => h0 (r.nil_iff.mp z)) (fun z => absurd (r'.nil_iff.mp z) h1) (fun _ => ?_) (by have := r.length; have := r'.length; omega)
  exact ⟨.ref _, _, laid_tup I (by rw [List.length_append]; exact hz) (r.append r') tn, rfl, q2 h0 h1 _ _ (I.hok.fresh (Nat.le_refl _)) rfl⟩

/-! ### + -/
def vAdd : Val → Val → Option SV
  | .int i, .int j => some (.v (.int (i + j)))
  | .str a, .str b => if SOk (a ++ b) = true then some (.v (.str (a ++ b))) else none
  | .tup a, .tup b => if a.length + b.length ≤ 1000000 then some (.v (.tup (a ++ b))) else none
  | .lst a, .lst b => if a.length + b.length ≤ 1000000 then some (.fl (a ++ b)) else none
  | _, _ => none
section
variable {X : Cx} {L : Lx}
/-- a list that is read now -/
theorem Now.lstOf {G : Gc} {H : Hp} {T : Ts} {xs : List Val} {v : V} (h : Now G H T (.lst xs) v) : ∃ a vs, v = .ref a ∧ H a = some (.lst vs) ∧ RepVs G H T xs vs := by
  cases h with
  | rep r => cases r with | lst h _ r => exact ⟨_, _, rfl, h, r⟩
  | lst h r => exact ⟨_, _, rfl, h, r⟩
theorem Now.tupOf {G : Gc} {H : Hp} {T : Ts} {xs : List Val} {v : V} (h : Now G H T (.tup xs) v) : ∃ a vs, v = .ref a ∧ TupH G.tn H a vs ∧ RepVs G H T xs vs := by
  cases h with
  | rep r => cases r with | tup h r => exact ⟨_, _, rfl, h, r⟩
theorem Now.intOf {G : Gc} {H : Hp} {T : Ts} {i : Int} {v : V} (h : Now G H T (.int i) v) : v = .int i := by
  cases h with
  | rep r => cases r; rfl
theorem Now.blOf {G : Gc} {H : Hp} {T : Ts} {i : Bool} {v : V} (h : Now G H T (.bl i) v) : v = .bl i := by
  cases h with
  | rep r => cases r; rfl
theorem Now.nonOf {G : Gc} {H : Hp} {T : Ts} {v : V} (h : Now G H T .non v) : v = .non := by
  cases h with
  | rep r => cases r; rfl
theorem Now.strOf {G : Gc} {H : Hp} {T : Ts} {s : List Nat} {v : V} (h : Now G H T (.str s) v) : v = .str (toS s) ∧ SOk s = true := by
  cases h with
  | rep r => cases r with | str _ h => exact ⟨rfl, h⟩
theorem Now.tyOf {G : Gc} {H : Hp} {T : Ts} {n : String} {v : V} (h : Now G H T (.ty n) v) : v = .ty n := by
  cases h with
  | rep r => cases r; rfl
theorem toS_app (a b : List Nat) : toS a ++ toS b = toS (a ++ b) := by
  show (⟨a.toArray ++ b.toArray⟩ : Str) = ⟨(a ++ b).toArray⟩
  simp
theorem RepVs.nilIff {G : Gc} {H : Hp} {T : Ts} {xs : List Val} {vs : List V} (r : RepVs G H T xs vs) : xs = [] ↔ vs = [] := by
  cases r <;> simp
theorem op_addM : OpR X (binaryOp .Add) (R2m (gx L X) vAdd) := by
  refine OpR.weak (op_add.or (op_add_str.or ((op_catB L.tn).or op_cat))) fun x y H Q ⟨ρ, P, st, a, b, rs, na, nb, p⟩ => ?_
  have hl := line1
  cases a with
  | int i => cases b with
    | int j => exact .inl ⟨i, j, na.intOf, nb.intOf, p.val rs (.int _)⟩
    | _ => exact p.elim
  | str s => cases b with
    | str t =>
      obtain ⟨ex, sx⟩ := na.strOf
      obtain ⟨ey, sy⟩ := nb.strOf
      have p : POp (gx L X) P ρ st H (if SOk (s ++ t) = true then some (.v (.str (s ++ t))) else none) Q := p
      split at p
      · rename_i hs
        refine .inr (.inl ⟨_, _, ex, ey, ?_, ?_⟩)
        · have h1 := sok_len hs
          have : s.length + t.length ≤ 1000000 := by rw [← List.length_append]; exact h1
          show s.toArray.size + t.toArray.size ≤ sizeLine
          simp only [List.size_toArray]; omega
        · rw [toS_app]; exact p.val rs (.str _ hs)
      · exact p.elim
    | _ => exact p.elim
  | tup s => cases b with
    | tup t =>
      obtain ⟨a1, v1, ex, h1, r1⟩ := na.tupOf
      obtain ⟨a2, v2, ey, h2, r2⟩ := nb.tupOf
      have p : POp (gx L X) P ρ st H (if s.length + t.length ≤ 1000000 then some (.v (.tup (s ++ t))) else none) Q := p
      split at p
      · rename_i hs
        refine .inr (.inr (.inl ⟨a1, a2, v1, v2, ex, ey, h1.sq, h2.sq, by rw [← r1.len, ← r2.len]; omega, fun e => ?_, fun n e => ?_, fun n1 n2 q o hq ho => ?_⟩))
        · have e' := r1.nilIff.mpr e
          subst e'
          exact p.val rs (.tup h2 r2)
        · have e' := r2.nilIff.mpr e
          subst e'
          rw [List.append_nil] at p
          exact p.val rs (.tup h1 r1)
        · exact p.tup rs hq ho (r1.append r2)
      · exact p.elim
    | _ => exact p.elim
  | lst s => cases b with
    | lst t =>
      obtain ⟨a1, v1, ex, h1, r1⟩ := na.lstOf
      obtain ⟨a2, v2, ey, h2, r2⟩ := nb.lstOf
      have p : POp (gx L X) P ρ st H (if s.length + t.length ≤ 1000000 then some (.fl (s ++ t)) else none) Q := p
      split at p
      · rename_i hs
        refine .inr (.inr (.inr ⟨a1, a2, v1, v2, ex, ey, h1, h2, by rw [← r1.len, ← r2.len]; omega, fun q hq => ?_⟩))
        exact p.lst rs hq (r1.append r2)
      · exact p.elim
    | _ => exact p.elim
  | _ => cases b <;> exact p.elim
/-! ### -, *, //, %, ** -/
def vSub : Val → Val → Option SV
  | .int i, .int j => some (.v (.int (i - j)))
  | _, _ => none
theorem op_subM : OpR X (binaryOp .Sub) (R2m (gx L X) vSub) := by
  refine OpR.weak op_sub fun x y H Q ⟨ρ, P, st, a, b, rs, na, nb, p⟩ => ?_
  cases a with
  | int i => cases b with
    | int j => exact ⟨i, j, na.intOf, nb.intOf, p.val rs (.int _)⟩
    | _ => exact p.elim
  | _ => cases b <;> exact p.elim
/-- below 2^64 -/
def mulOk (i : Int) : Bool := decide (-18446744073709551616 < i) && decide (i < 18446744073709551616)
def vMul : Val → Val → Option SV
  | .int i, .int j => if (mulOk i || mulOk j) = true then some (.v (.int (i * j))) else none
  | .str s, .int k => if (decide (0 ≤ k) && decide (k ≤ 1000) && decide (s.length ≤ 1000) && SOk (List.replicate k.toNat s).flatten) = true then some (.v (.str (List.replicate k.toNat s).flatten)) else none
  | .tup s, .int k => if (decide (2 ≤ k) && decide (k ≤ 1000) && decide (1 ≤ s.length) && decide (s.length ≤ 1000)) = true then some (.v (.tup (List.replicate k.toNat s).flatten)) else none
  | .lst s, .int k => if (decide (0 ≤ k) && decide (k ≤ 1000) && decide (s.length ≤ 1000)) = true then some (.fl (List.replicate k.toNat s).flatten) else none
  | _, _ => none
theorem foldl_cat (s : List Nat) : ∀ (k : Nat) (acc : List Nat), (List.replicate k s.toArray).foldl (· ++ ·) acc.toArray = (acc ++ (List.replicate k s).flatten).toArray
  | 0, acc => by simp
  | k + 1, acc => by
    rw [List.replicate_succ, List.foldl_cons, List.replicate_succ, List.flatten_cons]
    have e : acc.toArray ++ s.toArray = (acc ++ s).toArray := by simp
    rw [e, foldl_cat s k (acc ++ s), List.append_assoc]
theorem rep_len {α : Type} (s : List α) (k : Nat) : (List.replicate k s).flatten.length = k * s.length := by
  induction k with
  | zero => simp
  | succ k ih => rw [List.replicate_succ, List.flatten_cons, List.length_append, ih, Nat.succ_mul]; omega
theorem op_mulStr : OpR X (binaryOp .Mult) (fun x y H Q => ∃ (s : List Nat) (k : Int), x = .str (toS s) ∧ y = .int k ∧ 0 ≤ k ∧ k ≤ 1000 ∧ s.length ≤ 1000 ∧ Q (.str (toS (List.replicate k.toNat s).flatten)) H) := by
  intro pins s0 σ H x y v u Q I rx ry h
  obtain ⟨s, k, rfl, rfl, h0, h1, hs, q⟩ := h
  obtain ⟨t, rfl⟩ := rx
  obtain ⟨t', rfl⟩ := ry
  have e : Txt.mul (toS s) k = toS (List.replicate k.toNat s).flatten := by
    unfold Txt.mul
    split
    · rename_i hk
      have : k = 0 := by omega
      subst this
      rfl
    · split
      · rename_i hk
        rw [Bool.or_eq_true, beq_iff_eq, beq_iff_eq] at hk
        rcases hk with hk | hk
        · subst hk; simp
        · have hk : s.length = 0 := by simpa [Str.length] using hk
          have : s = [] := List.eq_nil_of_length_eq_zero hk
          subst this
          simp
      · have := foldl_cat s k.toNat []
        show (⟨(List.replicate k.toNat s.toArray).foldl (· ++ ·) #[]⟩ : Str) = _
        rw [show (#[] : Array Nat) = ([] : List Nat).toArray from rfl, this, List.nil_append]
  refine SB.mul ⟨?_, fun _ hc => ?_, fun _ _ => ?_⟩ fun t2 tk => ⟨.str (toS (List.replicate k.toNat s).flatten), H, I.tok _, ⟨t2, by rw [e]⟩, q⟩
  · rw [decide_eq_false (by omega), decide_eq_false (by omega)]; rfl
  · rw [Bool.or_eq_false_iff, beq_eq_false_iff_ne, beq_eq_false_iff_ne] at hc
    have h2 : (2 ^ 63 - 1 : Int) / 1000 ≤ (2 ^ 63 - 1) / k := by
      have h3 : (0 : Int) < k := by omega
      refine (Int.le_ediv_iff_mul_le h3).mpr ?_
      have : (2 ^ 63 - 1 : Int) / 1000 * k ≤ (2 ^ 63 - 1) / 1000 * 1000 := Int.mul_le_mul_of_nonneg_left h1 (by decide)
      exact Int.le_trans this (by decide)
    have h4 : ((toS s).length : Int) ≤ 1000 := by
      show ((s.toArray.size : Nat) : Int) ≤ 1000
      simp only [List.size_toArray]; omega
    have h5 : (1000 : Int) ≤ (2 ^ 63 - 1) / 1000 := by decide
    omega
  · unfold Builtin.Str.tooLong
    have : (toS s).length * k.toNat ≤ 1000 * 1000 := Nat.mul_le_mul (by show s.toArray.size ≤ 1000; simpa using hs) (by omega)
    rw [sizeLine_eq]
    exact decide_eq_false (by omega)
theorem RepVs.rep {G : Gc} {H : Hp} {T : Ts} {xs : List Val} {vs : List V} (h : RepVs G H T xs vs) : ∀ k : Nat, RepVs G H T (List.replicate k xs).flatten (List.replicate k vs).flatten
  | 0 => .nil
  | k + 1 => by
    rw [List.replicate_succ, List.replicate_succ, List.flatten_cons, List.flatten_cons]
    exact h.append (RepVs.rep h k)
theorem op_mulM (htn : L.tn = false) : OpR X (binaryOp .Mult) (R2m (gx L X) vMul) := by
  refine OpR.weak (op_mul.or (op_mulStr.or (op_repT.or op_rep))) fun x y H Q ⟨ρ, P, st, a, b, rs, na, nb, p⟩ => ?_
  have hl := line1
  cases a with
  | int i => cases b with
    | int j =>
      have p : POp (gx L X) P ρ st H (if (mulOk i || mulOk j) = true then some (.v (.int (i * j))) else none) Q := p
      split at p
      · rename_i h
        refine .inl ⟨i, j, na.intOf, nb.intOf, ?_, p.val rs (.int _)⟩
        unfold mulOk at h
        simp only [Bool.or_eq_true, Bool.and_eq_true, decide_eq_true_eq] at h
        rcases h with h | h
        · exact .inl ⟨by omega, by omega⟩
        · exact .inr ⟨by omega, by omega⟩
      · exact p.elim
    | _ => exact p.elim
  | str s => cases b with
    | int k =>
      obtain ⟨ex, sx⟩ := na.strOf
      simp only [vMul] at p
      split at p
      · rename_i h
        simp only [Bool.and_eq_true, decide_eq_true_eq] at h
        exact .inr (.inl ⟨s, k, ex, nb.intOf, h.1.1.1, h.1.1.2, h.1.2, p.val rs (.str _ h.2)⟩)
      · exact p.elim
    | _ => exact p.elim
  | tup s => cases b with
    | int k =>
      obtain ⟨a1, v1, ex, h1, r1⟩ := na.tupOf
      simp only [vMul] at p
      split at p
      · rename_i h
        simp only [Bool.and_eq_true, decide_eq_true_eq] at h
        have hlen := r1.len
        exact .inr (.inr (.inl ⟨a1, k, v1, ex, nb.intOf, h1.sq, fun e => by rw [e] at hlen; simp at hlen; rw [hlen] at h; simp at h, h.1.1.1, h.1.1.2, by omega, fun q hq => p.tupF htn rs hq (r1.rep _)⟩))
      · exact p.elim
    | _ => exact p.elim
  | lst s => cases b with
    | int k =>
      obtain ⟨a1, v1, ex, h1, r1⟩ := na.lstOf
      simp only [vMul] at p
      split at p
      · rename_i h
        simp only [Bool.and_eq_true, decide_eq_true_eq] at h
        have hlen := r1.len
        refine .inr (.inr (.inr ⟨a1, k, v1, ex, nb.intOf, h1, by omega, by omega, ?_, fun q hq => p.lst rs hq (r1.rep _)⟩))
        have : v1.length * k.toNat ≤ 1000 * 1000 := Nat.mul_le_mul (by omega) (by omega)
        omega
      · exact p.elim
    | _ => exact p.elim
  | _ => cases b <;> exact p.elim
def vDiv : Val → Val → Option SV
  | .int i, .int j => if (decide (0 < j) && decide (j < 1073741824)) = true then some (.v (.int (i / j))) else none
  | _, _ => none
def vMod : Val → Val → Option SV
  | .int i, .int j => if 0 < j then some (.v (.int (i % j))) else none
  | _, _ => none
def vPow : Val → Val → Option SV
  | .int i, .int j => if (decide (0 ≤ j) && decide (j ≤ 1000) && mulOk i) = true then some (.v (.int (i ^ j.toNat))) else none
  | _, _ => none
theorem op_divM : OpR X (binaryOp .FloorDiv) (R2m (gx L X) vDiv) := by
  refine OpR.weak op_fdiv fun x y H Q ⟨ρ, P, st, a, b, rs, na, nb, p⟩ => ?_
  cases a with
  | int i => cases b with
    | int j =>
      simp only [vDiv] at p
      split at p
      · rename_i h
        simp only [Bool.and_eq_true, decide_eq_true_eq] at h
        exact ⟨i, j, na.intOf, nb.intOf, ⟨h.1, h.2⟩, p.val rs (.int _)⟩
      · exact p.elim
    | _ => exact p.elim
  | _ => cases b <;> exact p.elim
theorem op_modM : OpR X (binaryOp .Mod) (R2m (gx L X) vMod) := by
  refine OpR.weak op_mod fun x y H Q ⟨ρ, P, st, a, b, rs, na, nb, p⟩ => ?_
  cases a with
  | int i => cases b with
    | int j =>
      simp only [vMod] at p
      split at p
      · rename_i h
        exact ⟨i, j, na.intOf, nb.intOf, h, p.val rs (.int _)⟩
      · exact p.elim
    | _ => exact p.elim
  | _ => cases b <;> exact p.elim
theorem op_powM : OpR X (binaryOp .Pow) (R2m (gx L X) vPow) := by
  refine OpR.weak op_pow fun x y H Q ⟨ρ, P, st, a, b, rs, na, nb, p⟩ => ?_
  cases a with
  | int i => cases b with
    | int j =>
      simp only [vPow] at p
      split at p
      · rename_i h
        unfold mulOk at h
        simp only [Bool.and_eq_true, decide_eq_true_eq] at h
        exact ⟨i, j, na.intOf, nb.intOf, ⟨h.1.1, by omega, by omega⟩, p.val rs (.int _)⟩
      · exact p.elim
    | _ => exact p.elim
  | _ => cases b <;> exact p.elim
def vNeg : Val → Option SV
  | .int i => some (.v (.int (-i)))
  | _ => none
theorem un_negM : UnR X (unaryOp .USub) (R1m (gx L X) vNeg) := by
  intro pins s σ H x v Q I rx ⟨ρ, P, st, a, rs, na, p⟩
  cases a with
  | int i => exact un_neg pins s σ H x v Q I rx ⟨i, na.intOf, p.val rs (.int _)⟩
  | _ => exact p.elim
end
end Eng

namespace Eng
open PySem PySem.Spec PyProof.Rows L2

/-! ### equality -/
mutual
def toPy : Val → PyData
  | .non => .none
  | .bl b => .bool b
  | .int i => .int i
  | .str l => .str (toS l)
  | .tup xs => .tuple (toPys xs)
  | .lst xs => .list (toPys xs)
  | .dic _ _ => .dict []
  | .glb _ => .dict []
  | .ty _ => .dict []
  | .seq _ => .dict []
  | .exn _ _ => .dict []
  | .prs _ => .dict []
def toPys : List Val → List PyData
  | [] => []
  | x :: xs => toPy x :: toPys xs
end
mutual
def eqB : Val → Val → Bool
  | .non, y => match y with
    | .non => true
    | _ => false
  | .bl a, y => match y with
    | .bl b => a == b
    | .int j => (if a then 1 else 0) == j
    | _ => false
  | .int i, y => match y with
    | .int j => i == j
    | .bl b => i == (if b then 1 else 0)
    | _ => false
  | .str s, y => match y with
    | .str t => s == t
    | _ => false
  | .tup xs, y => match y with
    | .tup ys => eqBs xs ys
    | _ => false
  | .lst xs, y => match y with
    | .lst ys => eqBs xs ys
    | _ => false
  | .dic _ _, _ => false
  | .glb _, _ => false
  | .ty _, _ => false
  | .seq _, _ => false
  | .exn _ _, _ => false
  | .prs _, _ => false
def eqBs : List Val → List Val → Bool
  | [], ys => match ys with
    | [] => true
    | _ => false
  | x :: xs, ys => match ys with
    | [] => false
    | y :: ys => eqB x y && eqBs xs ys
end
mutual
/-- data of nesting below n -/
def okD : Val → Nat → Bool
  | .non, _ => true
  | .bl _, _ => true
  | .int _, _ => true
  | .str _, _ => true
  | .tup xs, n => match n with
    | 0 => false
    | n + 1 => okDs xs n
  | .lst xs, n => match n with
    | 0 => false
    | n + 1 => okDs xs n
  | .dic _ _, _ => false
  | .glb _, _ => false
  | .ty _, _ => false
  | .seq _, _ => false
  | .exn _ _, _ => false
  | .prs _, _ => false
def okDs : List Val → Nat → Bool
  | [], _ => true
  | x :: xs, n => okD x n && okDs xs n
end
theorem toS_inj {a b : List Nat} : toS a = toS b ↔ a = b := by
  refine ⟨fun h => ?_, fun h => by rw [h]⟩
  have h1 : (toS a).cps = (toS b).cps := by rw [h]
  simpa using h1
theorem toS_beq (a b : List Nat) : (toS a == toS b) = (a == b) := by
  rw [Bool.eq_iff_iff, beq_iff_eq, beq_iff_eq]
  exact toS_inj
mutual
theorem eqv_eqB : ∀ (x y : Val) (n m : Nat), okD x n = true → okD y m = true → PyData.eqv (toPy x) (toPy y) = eqB x y
  | .non, y, n, m, hx, hy => by cases y <;> first | rfl | simp [toPy, PyData.eqv, eqB] | (simp [okD] at hy)
  | .bl _, y, n, m, hx, hy => by cases y <;> first | (simp [okD] at hy; done) | simp [toPy, PyData.eqv, eqB]
  | .int _, y, n, m, hx, hy => by cases y <;> first | (simp [okD] at hy; done) | simp [toPy, PyData.eqv, eqB]
  | .str a, y, n, m, hx, hy => by
    cases y <;> first | (simp [okD] at hy; done) | (simp [toPy, PyData.eqv, eqB]; done) | (simp only [toPy, PyData.eqv, eqB]; exact toS_beq _ _)
  | .tup xs, y, n, m, hx, hy => by
    cases y with
    | tup ys =>
      cases n with
      | zero => simp [okD] at hx
      | succ n =>
        cases m with
        | zero => simp [okD] at hy
        | succ m =>
          simp only [toPy, PyData.eqv, eqB]
          exact eqv_eqBs xs ys n m (by simpa [okD] using hx) (by simpa [okD] using hy)
    | _ => first | (simp [okD] at hy; done) | simp [toPy, PyData.eqv, eqB]
  | .lst xs, y, n, m, hx, hy => by
    cases y with
    | lst ys =>
      cases n with
      | zero => simp [okD] at hx
      | succ n =>
        cases m with
        | zero => simp [okD] at hy
        | succ m =>
          simp only [toPy, PyData.eqv, eqB]
          exact eqv_eqBs xs ys n m (by simpa [okD] using hx) (by simpa [okD] using hy)
    | _ => first | (simp [okD] at hy; done) | simp [toPy, PyData.eqv, eqB]
  | .dic _ _, y, n, m, hx, hy => by simp [okD] at hx
  | .glb _, y, n, m, hx, hy => by simp [okD] at hx
  | .ty _, y, n, m, hx, hy => by simp [okD] at hx
  | .seq _, y, n, m, hx, hy => by simp [okD] at hx
  | .exn _ _, y, n, m, hx, hy => by simp [okD] at hx
  | .prs _, y, n, m, hx, hy => by simp [okD] at hx
theorem eqv_eqBs : ∀ (xs ys : List Val) (n m : Nat), okDs xs n = true → okDs ys m = true → PyData.eqvAll (toPys xs) (toPys ys) = eqBs xs ys
  | [], ys, n, m, hx, hy => by cases ys <;> simp [toPys, PyData.eqvAll, eqBs]
  | x :: xs, ys, n, m, hx, hy => by
    cases ys with
    | nil => simp [toPys, PyData.eqvAll, eqBs]
    | cons y ys =>
      simp only [okDs, Bool.and_eq_true] at hx hy
      simp only [toPys, PyData.eqvAll, eqBs, eqv_eqB x y n m hx.1 hy.1, eqv_eqBs xs ys n m hx.2 hy.2]
end
theorem sok_strOk {l : List Nat} (h : SOk l = true) : PyData.strOk (toS l) = true := by
  unfold SOk at h
  simp only [Bool.and_eq_true, List.all_eq_true, decide_eq_true_eq] at h
  unfold PyData.strOk
  rw [Array.all_eq_true]
  intro i hi
  have := h.2 ((toS l).cps[i]) (by simp)
  simpa using this
section
variable {G : Gc} {H : Hp} {T : Ts}
mutual
theorem RepV.dp : ∀ {x : Val} {v : V} {n : Nat}, RepV G H T x v → okD x n = true → Dp G.K H v (toPy x) ∧ (toPy x).canLay0 = true ∧ (toPy x).depth ≤ n
  | _, _, _, .non, _ => ⟨.non, rfl, Nat.zero_le _⟩
  | _, _, _, .bl b, _ => ⟨.bl b, rfl, Nat.zero_le _⟩
  | _, _, _, .int i, _ => ⟨.int i, rfl, Nat.zero_le _⟩
  | _, _, _, .str l h, _ => ⟨.str _, sok_strOk h, Nat.zero_le _⟩
  | _, _, n, .tup h r, hx => by
    cases n with
    | zero => simp [okD] at hx
    | succ n =>
      obtain ⟨h1, h2, h3⟩ := RepVs.dp (n := n) r (by simpa [okD] using hx)
      exact ⟨.tup h.sq h1, by simpa [toPy, PyData.canLay0] using h2, by simp only [toPy, PyData.depth]; omega⟩
  | _, _, n, .lst h t r, hx => by
    cases n with
    | zero => simp [okD] at hx
    | succ n =>
      obtain ⟨h1, h2, h3⟩ := RepVs.dp (n := n) r (by simpa [okD] using hx)
      exact ⟨.lst (.inl (.inl h)) h1, by simpa [toPy, PyData.canLay0] using h2, by simp only [toPy, PyData.depth]; omega⟩
  | _, _, _, .dicK h t r, hx => by simp [okD] at hx
  | _, _, _, .dicT h t r, hx => by simp [okD] at hx
  | _, _, _, .glb h r, hx => by simp [okD] at hx
  | _, _, _, .ty n, hx => by simp [okD] at hx
  | _, _, _, .seqH _ _ _, hx => by simp [okD] at hx
  | _, _, _, .seqK _ _, hx => by simp [okD] at hx
  | _, _, _, .exn _ _ _, hx => by simp [okD] at hx
  | _, _, _, .prs _ _, hx => by simp [okD] at hx
theorem RepVs.dp : ∀ {x : List Val} {v : List V} {n : Nat}, RepVs G H T x v → okDs x n = true → DpAll G.K H v (toPys x) ∧ PyData.canLayAll0 (toPys x) = true ∧ PyData.depthAll (toPys x) ≤ n
  | _, _, _, .nil, _ => ⟨.nil, rfl, Nat.zero_le _⟩
  | _, _, _, .cons r t, hx => by
    simp only [okDs, Bool.and_eq_true] at hx
    obtain ⟨a1, a2, a3⟩ := RepV.dp r hx.1
    obtain ⟨b1, b2, b3⟩ := RepVs.dp t hx.2
    exact ⟨.cons a1 b1, by simp [toPys, PyData.canLayAll0, a2, b2], by simp only [toPys, PyData.depthAll]; omega⟩
end
theorem Now.dp {x : Val} {v : V} {n : Nat} (h : Now G H T x v) (hx : okD x n = true) : Dp G.K H v (toPy x) ∧ (toPy x).canLay0 = true ∧ (toPy x).depth ≤ n := by
  cases h with
  | rep r => exact r.dp hx
  | lst h r =>
    cases n with
    | zero => simp [okD] at hx
    | succ n =>
      obtain ⟨h1, h2, h3⟩ := RepVs.dp (n := n) r (by simpa [okD] using hx)
      exact ⟨.lst (.inl (.inl h)) h1, by simpa [toPy, PyData.canLay0] using h2, by simp only [toPy, PyData.depth]; omega⟩
  | dicK h r => simp [okD] at hx
  | dicT h r => simp [okD] at hx
theorem Now.shaped {x : Val} {v : V} (h : Now G H T x v) (hx : okD x 32 = true) : Dp G.K H v (toPy x) ∧ SeqAt.shaped (toPy x) = true := by
  obtain ⟨h1, h2, h3⟩ := h.dp hx
  exact ⟨h1, by unfold SeqAt.shaped; rw [h2, decide_eq_true (by omega)]; rfl⟩
end
def vEq (a b : Val) : Option SV := if (okD a 32 && okD b 32) = true then some (.v (.bl (eqB a b))) else none
def vNe (a b : Val) : Option SV := if (okD a 32 && okD b 32) = true then some (.v (.bl (!eqB a b))) else none
section
variable {X : Cx} {L : Lx}
theorem op_eqM (hu : X.A.units + 64 < cLine) : OpR X (compareOp .Eq) (R2m (gx L X) vEq) := by
  refine OpR.weak (op_eqD hu) fun x y H Q ⟨ρ, P, st, a, b, rs, na, nb, p⟩ => ?_
  unfold vEq at p
  split at p
  · rename_i h
    simp only [Bool.and_eq_true] at h
    obtain ⟨a1, a2⟩ := na.shaped h.1
    obtain ⟨b1, b2⟩ := nb.shaped h.2
    exact ⟨_, _, a1, b1, a2, b2, by rw [eqv_eqB _ _ _ _ h.1 h.2]; exact p.val rs (.bl _)⟩
  · exact p.elim
theorem op_neM (hu : X.A.units + 64 < cLine) : OpR X (compareOp .NotEq) (R2m (gx L X) vNe) := by
  refine OpR.weak (op_neD hu) fun x y H Q ⟨ρ, P, st, a, b, rs, na, nb, p⟩ => ?_
  unfold vNe at p
  split at p
  · rename_i h
    simp only [Bool.and_eq_true] at h
    obtain ⟨a1, a2⟩ := na.shaped h.1
    obtain ⟨b1, b2⟩ := nb.shaped h.2
    exact ⟨_, _, a1, b1, a2, b2, by rw [eqv_eqB _ _ _ _ h.1 h.2]; exact p.val rs (.bl _)⟩
  · exact p.elim
end
/-! ### order -/
def vLt : Val → Val → Option SV
  | .int i, .int j => some (.v (.bl (decide (i < j))))
  | .str a, .str b => some (.v (.bl (decide (a < b))))
  | _, _ => none
def vLe : Val → Val → Option SV
  | .int i, .int j => some (.v (.bl (decide (i ≤ j))))
  | .str a, .str b => some (.v (.bl (!decide (b < a))))
  | _, _ => none
def vGt : Val → Val → Option SV
  | .int i, .int j => some (.v (.bl (decide (j < i))))
  | .str a, .str b => some (.v (.bl (decide (b < a))))
  | _, _ => none
def vGe : Val → Val → Option SV
  | .int i, .int j => some (.v (.bl (decide (j ≤ i))))
  | .str a, .str b => some (.v (.bl (!decide (a < b))))
  | _, _ => none
section
variable {X : Cx} {L : Lx}
theorem ord_of {r : R2} {oi : Int → Int → Bool} {os : List Nat → List Nat → Bool} {o : Val → Val → Option SV} (hi : ∀ i j, o (.int i) (.int j) = some (.v (.bl (oi i j)))) (hs : ∀ i j, o (.str i) (.str j) = some (.v (.bl (os i j))))
    (hn : ∀ a b, (∀ i j, a = .int i → b ≠ .int j) → (∀ i j, a = .str i → b ≠ .str j) → o a b = none)
    (x y : V) (H : Hp) (Q : VK) (h : R2m (gx L X) o x y H Q) (wi : ∀ i j, x = .int i → y = .int j → Q (.bl (oi i j)) H → r x y H Q) (ws : ∀ i j, x = .str (toS i) → y = .str (toS j) → Q (.bl (os i j)) H → r x y H Q) : r x y H Q := by
  obtain ⟨ρ, P, st, a, b, rs, na, nb, p⟩ := h
  by_cases h1 : ∃ i j, a = .int i ∧ b = .int j
  · obtain ⟨i, j, rfl, rfl⟩ := h1
    rw [hi] at p
    exact wi i j na.intOf nb.intOf (p.val rs (.bl _))
  · by_cases h2 : ∃ i j, a = .str i ∧ b = .str j
    · obtain ⟨i, j, rfl, rfl⟩ := h2
      rw [hs] at p
      exact ws i j na.strOf.1 nb.strOf.1 (p.val rs (.bl _))
    · rw [hn a b (fun i j e1 e2 => h1 ⟨i, j, e1, e2⟩) (fun i j e1 e2 => h2 ⟨i, j, e1, e2⟩)] at p
      exact p.elim
theorem op_ltM : OpR X (compareOp .Lt) (R2m (gx L X) vLt) := by
  refine OpR.weak (op_lt.or op_lt_str) fun x y H Q h => ord_of (r := fun x y H Q => _ ∨ _) (fun _ _ => rfl) (fun _ _ => rfl) (fun a b h1 h2 => ?_) x y H Q h (fun i j e1 e2 q => .inl ⟨i, j, e1, e2, q⟩) fun i j e1 e2 q => .inr ⟨_, _, e1, e2, by simpa using q⟩
  cases a <;> cases b <;> first | rfl | exact absurd rfl (h1 _ _ rfl) | exact absurd rfl (h2 _ _ rfl)
theorem op_leM : OpR X (compareOp .LtE) (R2m (gx L X) vLe) := by
  refine OpR.weak (op_le.or op_le_str) fun x y H Q h => ord_of (r := fun x y H Q => _ ∨ _) (fun _ _ => rfl) (fun _ _ => rfl) (fun a b h1 h2 => ?_) x y H Q h (fun i j e1 e2 q => .inl ⟨i, j, e1, e2, q⟩) fun i j e1 e2 q => .inr ⟨_, _, e1, e2, by simpa using q⟩
  cases a <;> cases b <;> first | rfl | exact absurd rfl (h1 _ _ rfl) | exact absurd rfl (h2 _ _ rfl)
theorem op_gtM : OpR X (compareOp .Gt) (R2m (gx L X) vGt) := by
  refine OpR.weak (op_gt.or op_gt_str) fun x y H Q h => ord_of (r := fun x y H Q => _ ∨ _) (fun _ _ => rfl) (fun _ _ => rfl) (fun a b h1 h2 => ?_) x y H Q h (fun i j e1 e2 q => .inl ⟨i, j, e1, e2, q⟩) fun i j e1 e2 q => .inr ⟨_, _, e1, e2, by simpa using q⟩
  cases a <;> cases b <;> first | rfl | exact absurd rfl (h1 _ _ rfl) | exact absurd rfl (h2 _ _ rfl)
theorem op_geM : OpR X (compareOp .GtE) (R2m (gx L X) vGe) := by
  refine OpR.weak (op_ge.or op_ge_str) fun x y H Q h => ord_of (r := fun x y H Q => _ ∨ _) (fun _ _ => rfl) (fun _ _ => rfl) (fun a b h1 h2 => ?_) x y H Q h (fun i j e1 e2 q => .inl ⟨i, j, e1, e2, q⟩) fun i j e1 e2 q => .inr ⟨_, _, e1, e2, by simpa using q⟩
  cases a <;> cases b <;> first | rfl | exact absurd rfl (h1 _ _ rfl) | exact absurd rfl (h2 _ _ rfl)
end
/-! ### is -/
def isNon : Val → Bool
  | .non => true
  | _ => false
def isGlb : Val → Bool
  | .glb _ => true
  | _ => false
def vIs : Val → Val → Option SV
  | a, .non => if isGlb a = true then none else some (.v (.bl (isNon a)))
  | .bl a, .bl b => some (.v (.bl (a == b)))
  | _, _ => none
def vIsN : Val → Val → Option SV
  | a, .non => if isGlb a = true then none else some (.v (.bl (!isNon a)))
  | .bl a, .bl b => some (.v (.bl (!(a == b))))
  | _, _ => none
section
variable {X : Cx} {L : Lx}
theorem Now.isN {G : Gc} {H : Hp} {T : Ts} {a : Val} {v : V} (h : Now G H T a v) (hg : isGlb a = false) : decide (v = .non) = isNon a := by
  cases h with
  | rep r => cases r <;> first | rfl | (simp [isNon]; done) | simp [isGlb] at hg
  | lst _ _ => simp [isNon]
  | dicK _ _ => simp [isNon]
  | dicT _ _ => simp [isNon]
theorem op_isM : OpR X (compareOp .Is) (R2m (gx L X) vIs) := by
  refine OpR.weak (op_isN.or op_isBl) fun x y H Q ⟨ρ, P, st, a, b, rs, na, nb, p⟩ => ?_
  cases b with
  | non =>
    have p : POp (gx L X) P ρ st H (if isGlb a = true then none else some (.v (.bl (isNon a)))) Q := by cases a <;> exact p
    split at p
    · exact p.elim
    · rename_i hg
      exact .inl ⟨nb.nonOf, by rw [na.isN (by simpa using hg)]; exact p.val rs (.bl _)⟩
  | bl b =>
    cases a with
    | bl a => exact .inr ⟨a, b, na.blOf, nb.blOf, by rw [show decide (a = b) = (a == b) by cases a <;> cases b <;> rfl]; exact p.val rs (.bl _)⟩
    | _ => exact p.elim
  | _ => cases a <;> exact p.elim
theorem op_isNM : OpR X (compareOp .IsNot) (R2m (gx L X) vIsN) := by
  refine OpR.weak (op_notN.or op_notBl) fun x y H Q ⟨ρ, P, st, a, b, rs, na, nb, p⟩ => ?_
  cases b with
  | non =>
    have p : POp (gx L X) P ρ st H (if isGlb a = true then none else some (.v (.bl (!isNon a)))) Q := by cases a <;> exact p
    split at p
    · exact p.elim
    · rename_i hg
      exact .inl ⟨nb.nonOf, by rw [na.isN (by simpa using hg)]; exact p.val rs (.bl _)⟩
  | bl b =>
    cases a with
    | bl a => exact .inr ⟨a, b, na.blOf, nb.blOf, by rw [show decide (a = b) = (a == b) by cases a <;> cases b <;> rfl]; exact p.val rs (.bl _)⟩
    | _ => exact p.elim
  | _ => cases a <;> exact p.elim
end
end Eng

namespace Eng
open PySem PySem.Spec PyProof.Rows L2

/-! ### dicts -/
def dGet (kvs : List (Val × Val)) (x : Val) : Option Val := (kvs.find? fun p => eqB p.1 x).map (·.2)
def dHas (kvs : List (Val × Val)) (x : Val) : Bool := kvs.any fun p => eqB p.1 x
def dPut (kvs : List (Val × Val)) (x y : Val) : List (Val × Val) := if dHas kvs x = true then kvs.map (fun p => if eqB p.1 x = true then (p.1, y) else p) else kvs ++ [(x, y)]
/-- may x be a key of a dict of the kind t? -/
def keyIs (t : Bool) : Val → Bool
  | .int _ => !t
  | .str _ => !t
  | .tup xs => t && (keysOf xs).isSome
  | _ => false
section
variable {G : Gc} {H : Hp} {T : Ts}
theorem keyOf_eq {x y : Val} {k j : Key} (hx : keyOf x = some k) (hy : keyOf y = some j) : eqB x y = decide (k = j) := by
  cases x <;> simp [keyOf] at hx <;> cases y <;> simp [keyOf] at hy <;> subst hx <;> subst hy <;> simp [eqB]
  · rw [Bool.eq_iff_iff]; simp
  · rw [Bool.eq_iff_iff]; simp
theorem keysOf_eq : ∀ {xs ys : List Val} {k j : List Key}, keysOf xs = some k → keysOf ys = some j → eqBs xs ys = decide (k = j)
  | [], [], k, j, hx, hy => by simp [keysOf] at hx hy; subst hx; subst hy; simp [eqBs]
  | [], y :: ys, k, j, hx, hy => by
    simp only [keysOf] at hx hy
    cases hx
    split at hy
    · cases hy; simp [eqBs]
    · cases hy
  | x :: xs, [], k, j, hx, hy => by
    simp only [keysOf] at hx hy
    cases hy
    split at hx
    · cases hx; simp [eqBs]
    · cases hx
  | x :: xs, y :: ys, k, j, hx, hy => by
    simp only [keysOf] at hx hy
    split at hx
    · rename_i k1 ks1 e1 e2
      split at hy
      · rename_i k2 ks2 e3 e4
        cases hx; cases hy
        simp only [eqBs, keyOf_eq e1 e3, keysOf_eq e2 e4, List.cons.injEq, Bool.decide_and]
      · cases hy
    · cases hx
theorem repK_get {x : Val} {k : Key} (hx : keyOf x = some k) : ∀ {kvs : List (Val × Val)} {ks : List (Key × V)}, RepK G H T kvs ks →
    (dGet kvs x = none ∧ valV ks k = none) ∨ ∃ y v, dGet kvs x = some y ∧ valV ks k = some v ∧ RepV G H T y v
  | _, _, .nil => .inl ⟨rfl, rfl⟩
  | (a, b) :: kvs, (j, w) :: ks, .cons hj ra rb t => by
    have e := keyOf_eq hj hx
    by_cases h : j = k
    · refine .inr ⟨b, w, ?_, valV_pos h, rb⟩
      unfold dGet
      rw [List.find?_cons]
      simp [e, h]
    · have ih := repK_get hx t
      have e2 : dGet ((a, b) :: kvs) x = dGet kvs x := by
        unfold dGet
        rw [List.find?_cons]
        simp [e, h]
      rw [e2, valV_neg h]
      exact ih
theorem repT_get {xs : List Val} {k : List Key} (hx : keysOf xs = some k) : ∀ {kvs : List (Val × Val)} {ks : List (List Key × V)}, RepT G H T kvs ks →
    (dGet kvs (.tup xs) = none ∧ valV ks k = none) ∨ ∃ y v, dGet kvs (.tup xs) = some y ∧ valV ks k = some v ∧ RepV G H T y v
  | _, _, .nil _ => .inl ⟨rfl, rfl⟩
  | (.tup as, b) :: kvs, (j, w) :: ks, .cons hj ra rb t => by
    have e : eqB (.tup as) (.tup xs) = decide (j = k) := by simp only [eqB]; exact keysOf_eq hj hx
    by_cases h : j = k
    · refine .inr ⟨b, w, ?_, valV_pos h, rb⟩
      unfold dGet
      rw [List.find?_cons]
      simp [e, h]
    · have ih := repT_get hx t
      have e2 : dGet ((.tup as, b) :: kvs) (.tup xs) = dGet kvs (.tup xs) := by
        unfold dGet
        rw [List.find?_cons]
        simp [e, h]
      rw [e2, valV_neg h]
      exact ih
theorem dHas_get (kvs : List (Val × Val)) (x : Val) : dHas kvs x = (dGet kvs x).isSome := by
  induction kvs with
  | nil => rfl
  | cons p r ih =>
    unfold dHas dGet at *
    rw [List.any_cons, List.find?_cons]
    cases eqB p.1 x <;> simp [ih]
theorem repK_map {x y : Val} {k : Key} {v : V} (hx : keyOf x = some k) (ry : RepV G H T y v) : ∀ {kvs : List (Val × Val)} {ks : List (Key × V)}, RepK G H T kvs ks → RepK G H T (kvs.map (fun p => if eqB p.1 x = true then (p.1, y) else p)) (ks.map (fun kv => if kv.1 = k then (kv.1, v) else kv))
  | _, _, .nil => .nil
  | (a, b) :: kvs, (j, w) :: ks, .cons hj ra rb t => by
    have ih := repK_map hx ry t
    have e := keyOf_eq hj hx
    simp only [List.map_cons]
    by_cases h : j = k
    · simp only [e, h, decide_true, if_true]
      exact .cons (h ▸ hj) (h ▸ ra) ry ih
    · simp only [e, h, decide_false, if_false, Bool.false_eq_true]
      exact .cons hj ra rb ih
theorem repK_snoc {x y : Val} {k : Key} {v : V} (hx : keyOf x = some k) (rx : RepV G H T x (kV k)) (ry : RepV G H T y v) : ∀ {kvs : List (Val × Val)} {ks : List (Key × V)}, RepK G H T kvs ks → RepK G H T (kvs ++ [(x, y)]) (ks ++ [(k, v)])
  | _, _, .nil => .cons hx rx ry .nil
  | _, _, .cons hj ra rb t => .cons hj ra rb (repK_snoc hx rx ry t)
theorem repK_put {x y : Val} {k : Key} {v : V} (hx : keyOf x = some k) (rx : RepV G H T x (kV k)) (ry : RepV G H T y v) {kvs : List (Val × Val)} {ks : List (Key × V)} (r : RepK G H T kvs ks) : RepK G H T (dPut kvs x y) (putK ks k v) := by
  have h1 : dHas kvs x = (ks.any fun kv => decide (kv.1 = k)) := by
    rw [dHas_get, valV_any]
    rcases repK_get hx r with ⟨a, b⟩ | ⟨_, _, a, b, _⟩ <;> rw [a, b] <;> rfl
  unfold dPut putK
  rw [h1]
  split
  · exact repK_map hx ry r
  · exact repK_snoc hx rx ry r
theorem repT_map {xs : List Val} {y : Val} {k : List Key} {v : V} (hx : keysOf xs = some k) (ry : RepV G H T y v) : ∀ {kvs : List (Val × Val)} {ks : List (List Key × V)}, RepT G H T kvs ks → RepT G H T (kvs.map (fun p => if eqB p.1 (.tup xs) = true then (p.1, y) else p)) (ks.map (fun kv => if kv.1 = k then (kv.1, v) else kv))
  | _, _, .nil h => .nil h
  | (.tup as, b) :: kvs, (j, w) :: ks, .cons hj ra rb t => by
    have ih := repT_map hx ry t
    have e : eqB (.tup as) (.tup xs) = decide (j = k) := by simp only [eqB]; exact keysOf_eq hj hx
    simp only [List.map_cons]
    by_cases h : j = k
    · simp only [e, h, decide_true, if_true]
      exact .cons (h ▸ hj) (h ▸ ra) ry ih
    · simp only [e, h, decide_false, if_false, Bool.false_eq_true]
      exact .cons hj ra rb ih
theorem repT_snoc {xs : List Val} {y : Val} {k : List Key} {v : V} (hx : keysOf xs = some k) (rx : RepVs G H T xs (k.map kV)) (ry : RepV G H T y v) : ∀ {kvs : List (Val × Val)} {ks : List (List Key × V)}, RepT G H T kvs ks → RepT G H T (kvs ++ [(.tup xs, y)]) (ks ++ [(k, v)])
  | _, _, .nil h => .cons hx rx ry (.nil h)
  | _, _, .cons hj ra rb t => .cons hj ra rb (repT_snoc hx rx ry t)
theorem repT_put {xs : List Val} {y : Val} {k : List Key} {v : V} (hx : keysOf xs = some k) (rx : RepVs G H T xs (k.map kV)) (ry : RepV G H T y v) {kvs : List (Val × Val)} {ks : List (List Key × V)} (r : RepT G H T kvs ks) : RepT G H T (dPut kvs (.tup xs) y) (putK ks k v) := by
  have h1 : dHas kvs (.tup xs) = (ks.any fun kv => decide (kv.1 = k)) := by
    rw [dHas_get, valV_any]
    rcases repT_get hx r with ⟨a, b⟩ | ⟨_, _, a, b, _⟩ <;> rw [a, b] <;> rfl
  unfold dPut putK
  rw [h1]
  split
  · exact repT_map hx ry r
  · exact repT_snoc hx rx ry r
theorem RepK.len : ∀ {kvs : List (Val × Val)} {ks : List (Key × V)}, RepK G H T kvs ks → kvs.length = ks.length
  | _, _, .nil => rfl
  | _, _, .cons _ _ _ t => congrArg (· + 1) (RepK.len t)
theorem RepT.len : ∀ {kvs : List (Val × Val)} {ks : List (List Key × V)}, RepT G H T kvs ks → kvs.length = ks.length
  | _, _, .nil _ => rfl
  | _, _, .cons _ _ _ t => congrArg (· + 1) (RepT.len t)
theorem keyOf_V {x : Val} {k : Key} {v : V} (hx : keyOf x = some k) (r : Now G H T x v) : v = kV k ∧ RepV G H T x v := by
  cases x <;> simp [keyOf] at hx
  · subst hx; cases r with | rep r => exact ⟨by cases r; rfl, r⟩
  · subst hx; cases r with | rep r => exact ⟨by cases r; rfl, r⟩
theorem keyOf_V' {x : Val} {k : Key} {v : V} (hx : keyOf x = some k) (r : RepV G H T x v) : v = kV k := (keyOf_V hx (.rep r)).1
theorem keysOf_V : ∀ {xs : List Val} {k : List Key} {vs : List V}, keysOf xs = some k → RepVs G H T xs vs → vs = k.map kV
  | [], k, _, hx, .nil => by simp [keysOf] at hx; subst hx; rfl
  | x :: xs, k, v :: vs, hx, .cons r t => by
    simp only [keysOf] at hx
    split at hx
    · rename_i k1 ks1 e1 e2
      cases hx
      rw [List.map_cons, keyOf_V' e1 r, keysOf_V e2 t]
    · cases hx
/-- what a dict that is read now holds -/
theorem Now.dget {t : Bool} {kvs : List (Val × Val)} {v : V} {x : Val} {u : V} (h : Now G H T (.dic t kvs) v) (hx : Now G H T x u) (hk : keyIs t x = true) :
    ∃ a, v = .ref a ∧ ((dGet kvs x = none ∧ DGet H a u none) ∨ ∃ y w, dGet kvs x = some y ∧ DGet H a u (some w) ∧ RepV G H T y w) := by
  have fin : ∀ {a : Addr}, (∃ ks, t = false ∧ Rd H a (.dK ks) ∧ RepK G H T kvs ks) ∨ (∃ ks, t = true ∧ Rd H a (.dT ks) ∧ RepT G H T kvs ks) → ((dGet kvs x = none ∧ DGet H a u none) ∨ ∃ y w, dGet kvs x = some y ∧ DGet H a u (some w) ∧ RepV G H T y w) := fun {a} q => by
    rcases q with ⟨ks, rfl, e, r⟩ | ⟨ks, rfl, e, r⟩
    · cases hkk : keyOf x with
      | none => cases x <;> simp [keyIs, keyOf] at hk hkk
      | some k =>
        obtain rfl := (keyOf_V hkk hx).1
        have d : DGet H a (kV k) (valV ks k) := .inl ⟨ks, k, e, rfl, rfl⟩
        rcases repK_get hkk r with ⟨h1, h2⟩ | ⟨y, w, h1, h2, h3⟩
        · rw [h2] at d; exact .inl ⟨h1, d⟩
        · rw [h2] at d; exact .inr ⟨y, w, h1, d, h3⟩
    · cases x with
      | tup xs =>
        simp only [keyIs, Bool.true_and] at hk
        obtain ⟨k, hkk⟩ := Option.isSome_iff_exists.mp hk
        obtain ⟨b, vs, rfl, hb, rv⟩ := hx.tupOf
        obtain rfl := keysOf_V hkk rv
        have d : DGet H a (.ref b) (valV ks k) := .inr ⟨ks, k, b, e, rfl, hb.off r.off, rfl⟩
        rcases repT_get hkk r with ⟨h1, h2⟩ | ⟨y, w, h1, h2, h3⟩
        · rw [h2] at d; exact .inl ⟨h1, d⟩
        · rw [h2] at d; exact .inr ⟨y, w, h1, d, h3⟩
      | _ => simp [keyIs] at hk
  cases h with
  | rep r =>
    cases r with
    | dicK e _ r => exact ⟨_, rfl, fin (.inl ⟨_, rfl, e, r⟩)⟩
    | dicT e _ r => exact ⟨_, rfl, fin (.inr ⟨_, rfl, e, r⟩)⟩
  | dicK e r => exact ⟨_, rfl, fin (.inl ⟨_, rfl, .inl e, r⟩)⟩
  | dicT e r => exact ⟨_, rfl, fin (.inr ⟨_, rfl, .inl e, r⟩)⟩
end

/-! ### in -/
def flatA : Val → Bool
  | .non => true
  | .bl _ => true
  | .int _ => true
  | .str _ => true
  | _ => false
def inB : Val → Val → Option Bool
  | x, .tup xs => if (flatA x && xs.all flatA) = true then some (xs.any fun y => eqB y x) else none
  | x, .lst xs => if (okD x 32 && okD (.lst xs) 32) = true then some (xs.any fun y => eqB y x) else none
  | x, .dic t kvs => if keyIs t x = true then some (dHas kvs x) else none
  | .str [c], .str s => some (decide (c ∈ s))
  | _, _ => none
def vIn (x y : Val) : Option SV := (inB x y).map fun b => .v (.bl b)
def vNotIn (x y : Val) : Option SV := (inB x y).map fun b => .v (.bl (!b))
section
variable {G : Gc} {H : Hp} {T : Ts}
theorem RepV.flat {x : Val} {v : V} (r : RepV G H T x v) (h : flatA x = true) : flatV v = true := by
  cases r <;> first | rfl | simp [flatA] at h
theorem RepV.eqf {x y : Val} {v u : V} (r : RepV G H T x v) (q : RepV G H T y u) (hx : flatA x = true) (hy : flatA y = true) : L2.eqV v u = eqB x y := by
  cases r <;> first | (simp [flatA] at hx; done) | (cases q <;> first | (simp [flatA] at hy; done) | rfl | (simp only [L2.eqV, eqB]; exact toS_beq _ _))
theorem Now.flatOf {x : Val} {v : V} (h : Now G H T x v) (hx : flatA x = true) : RepV G H T x v := by
  cases h <;> first | assumption | simp [flatA] at hx
theorem RepVs.flat : ∀ {xs : List Val} {vs : List V}, RepVs G H T xs vs → xs.all flatA = true → vs.all flatV = true
  | _, _, .nil, _ => rfl
  | _, _, .cons r t, h => by
    rw [List.all_cons, Bool.and_eq_true] at h ⊢
    exact ⟨r.flat h.1, RepVs.flat t h.2⟩
theorem RepVs.inf {x : Val} {v : V} (r : RepV G H T x v) (hx : flatA x = true) : ∀ {xs : List Val} {vs : List V}, RepVs G H T xs vs → xs.all flatA = true → inV v vs = xs.any fun y => eqB y x
  | _, _, .nil, _ => rfl
  | _, _, .cons q t, h => by
    rw [List.all_cons, Bool.and_eq_true] at h
    have ih := RepVs.inf r hx t h.2
    unfold inV at ih ⊢
    rw [List.any_cons, List.any_cons, ih, q.eqf r h.1 hx]
theorem any_toPys {x : Val} (n : Nat) (hx : okD x n = true) : ∀ {xs : List Val} (m : Nat), okDs xs m = true → ((toPys xs).any fun z => PyData.eqv z (toPy x)) = xs.any fun y => eqB y x
  | [], _, _ => by simp [toPys]
  | y :: ys, m, h => by
    simp only [okDs, Bool.and_eq_true] at h
    simp only [toPys, List.any_cons, any_toPys n hx m h.2, eqv_eqB y x m n h.1 hx]
end
section
variable {X : Cx} {L : Lx}
def rInD2 : R2 := fun x y H Q => ∃ a o, y = .ref a ∧ DGet H a x o ∧ Q (.bl o.isSome) H
def rNotInD2 : R2 := fun x y H Q => ∃ a o, y = .ref a ∧ DGet H a x o ∧ Q (.bl (!o.isSome)) H
theorem op_in_dict (hu : X.A.units + 1 < cLine) : OpR X (compareOp .In) rInD2 := by
  intro pins s σ H x y v u Q I rx ry ⟨a, o, ey, g, q⟩
  subst ey
  cases (show u = Value.ref a from ry)
  exact d_in hu I g rx fun s3 I3 => ⟨.bl o.isSome, H, I3, rfl, q⟩
theorem op_notin_dict (hu : X.A.units + 1 < cLine) : OpR X (compareOp .NotIn) rNotInD2 := by
  intro pins s σ H x y v u Q I rx ry ⟨a, o, ey, g, q⟩
  subst ey
  cases (show u = Value.ref a from ry)
  exact d_notIn hu I g rx fun s3 I3 => ⟨.bl (!o.isSome), H, I3, rfl, q⟩
theorem in_of {f : Bool → Bool} {r : R2} (x y : V) (H : Hp) (Q : VK) (h : R2m (gx L X) (fun x y => (inB x y).map fun b => .v (.bl (f b))) x y H Q)
    (w1 : ∀ p xs, y = .ref p → (SqL X.K H p xs ∨ SqT X.K H p xs) → flatV x = true → xs.all flatV = true → Q (.bl (f (inV x xs))) H → r x y H Q)
    (w2 : ∀ d ds, Dp X.K H x d → Dp X.K H y (.list ds) → SeqAt.shaped d = true → SeqAt.shaped (.list ds) = true → Q (.bl (f (ds.any fun z => PyData.eqv z d))) H → r x y H Q)
    (w3 : ∀ a o, y = .ref a → DGet H a x o → Q (.bl (f o.isSome)) H → r x y H Q)
    (w4 : ∀ (c : Nat) (z : Str), x = .str ⟨#[c]⟩ → y = .str z → Q (.bl (f (decide (c ∈ z.cps.toList)))) H → r x y H Q) : r x y H Q := by
  obtain ⟨ρ, P, st, a, b, rs, na, nb, p⟩ := h
  cases b with
  | tup xs =>
    have p : POp (gx L X) P ρ st H ((if (flatA a && xs.all flatA) = true then some (xs.any fun y => eqB y a) else none).map fun b => SV.v (.bl (f b))) Q := by cases a <;> exact p
    split at p
    · rename_i h
      rw [Bool.and_eq_true] at h
      obtain ⟨q, vs, rfl, hq, rv⟩ := nb.tupOf
      have ra := na.flatOf h.1
      exact w1 q vs rfl (.inr hq.sq) (ra.flat h.1) (rv.flat h.2) (by rw [rv.inf ra h.1 h.2]; exact p.val rs (.bl _))
    · exact p.elim
  | lst xs =>
    have p : POp (gx L X) P ρ st H ((if (okD a 32 && okD (.lst xs) 32) = true then some (xs.any fun y => eqB y a) else none).map fun b => SV.v (.bl (f b))) Q := by cases a <;> exact p
    split at p
    · rename_i h
      rw [Bool.and_eq_true] at h
      obtain ⟨a1, a2⟩ := na.shaped h.1
      obtain ⟨b1, b2⟩ := nb.shaped h.2
      simp only [toPy] at b1 b2
      exact w2 _ _ a1 b1 a2 b2 (by rw [any_toPys 32 h.1 31 (by simpa [okD] using h.2)]; exact p.val rs (.bl _))
    · exact p.elim
  | dic t kvs =>
    have p : POp (gx L X) P ρ st H ((if keyIs t a = true then some (dHas kvs a) else none).map fun b => SV.v (.bl (f b))) Q := by cases a <;> exact p
    split at p
    · rename_i h
      rw [dHas_get] at p
      obtain ⟨q, rfl, hh⟩ := nb.dget na h
      rcases hh with ⟨e, g⟩ | ⟨y, w, e, g, _⟩
      · rw [e] at p; exact w3 q _ rfl g (p.val rs (.bl _))
      · rw [e] at p; exact w3 q _ rfl g (p.val rs (.bl _))
    · exact p.elim
  | str s =>
    cases a with
    | str t =>
      cases t with
      | nil => exact p.elim
      | cons c t =>
        cases t with
        | cons _ _ => exact p.elim
        | nil => exact w4 c (toS s) na.strOf.1 nb.strOf.1 (p.val rs (.bl _))
    | _ => exact p.elim
  | _ => cases a <;> first | exact p.elim | (rename_i l; cases l <;> first | exact p.elim | (rename_i t; cases t <;> exact p.elim))
theorem op_inM (hu : X.A.units + 65 < cLine) : OpR X (compareOp .In) (R2m (gx L X) vIn) := by
  refine OpR.weak (op_in_seq.or ((op_inD hu).or ((op_in_dict (by omega)).or op_in_sign))) fun x y H Q h => ?_
  exact in_of (f := id) (r := fun x y H Q => _ ∨ _ ∨ _ ∨ _) x y H Q h (fun p xs h1 h2 h3 h4 q => .inl ⟨p, xs, h1, h2, h3, h4, q⟩) (fun d ds h1 h2 h3 h4 q => .inr (.inl ⟨d, ds, h1, h2, h3, h4, q⟩)) (fun a o h1 h2 q => .inr (.inr (.inl ⟨a, o, h1, h2, q⟩))) fun c z h1 h2 q => .inr (.inr (.inr ⟨c, z, h1, h2, q⟩))
theorem op_notInM (hu : X.A.units + 65 < cLine) : OpR X (compareOp .NotIn) (R2m (gx L X) vNotIn) := by
  refine OpR.weak (op_notIn_seq.or ((op_notInD hu).or ((op_notin_dict (by omega)).or op_notIn_sign))) fun x y H Q h => ?_
  exact in_of (f := not) (r := fun x y H Q => _ ∨ _ ∨ _ ∨ _) x y H Q h (fun p xs h1 h2 h3 h4 q => .inl ⟨p, xs, h1, h2, h3, h4, q⟩) (fun d ds h1 h2 h3 h4 q => .inr (.inl ⟨d, ds, h1, h2, h3, h4, q⟩)) (fun a o h1 h2 q => .inr (.inr (.inl ⟨a, o, h1, h2, q⟩))) fun c z h1 h2 q => .inr (.inr (.inr ⟨c, z, h1, h2, q⟩))
end

/-! ### a[i] -/
def vIx : Val → Val → Option SV
  | .tup xs, .int i => (atI xs i).map .v
  | .lst xs, .int i => (atI xs i).map .v
  | .str s, .int i => (atI s i).map fun c => .v (.str [c])
  | .dic t kvs, x => if keyIs t x = true then (dGet kvs x).map .v else none
  | _, _ => none
section
variable {X : Cx} {L : Lx}
def rIxD2 : R2 := fun x y H Q => ∃ a v, x = .ref a ∧ DGet H a y (some v) ∧ Q v H
theorem ix_dict (hu : X.A.units + 1 < cLine) : IxR X rIxD2 := by
  intro value slice pins s σ H x y v u Q I rx ry ⟨a, w, ex, g, q⟩ hs
  subst ex
  cases (show v = Value.ref a from rx)
  exact tail_any (dict_typeIs I g) PySem.F.slot_dict_getitem.lookup (d_getItem hu I g ry fun w' s3 I3 rw' => ⟨w, H, I3, rw', q⟩) hs
theorem RepVs.atI {G : Gc} {H : Hp} {T : Ts} {xs : List Val} {vs : List V} {i : Int} {x : Val} (r : RepVs G H T xs vs) (h : L2.atI xs i = some x) : ∃ v, L2.atI vs i = some v ∧ RepV G H T x v := by
  unfold L2.atI at h ⊢
  rw [← r.len]
  cases e : ixN xs.length i with
  | none => rw [e] at h; cases h
  | some j => rw [e] at h; exact r.get h
theorem ix_M (hu : X.A.units + 1 < cLine) : IxR X (R2m (gx L X) vIx) := by
  refine IxR.weak (ix_seq.or (ix_dict hu)) fun x y H Q ⟨ρ, P, st, a, b, rs, na, nb, p⟩ => ?_
  cases a with
  | tup xs =>
    cases b with
    | int i =>
      obtain ⟨q, vs, rfl, hq, rv⟩ := na.tupOf
      simp only [vIx] at p
      cases e : L2.atI xs i with
      | none => rw [e] at p; exact p.elim
      | some z =>
        rw [e] at p
        obtain ⟨v, hv, r⟩ := rv.atI e
        exact .inl (.inr (.inl ⟨q, vs, i, v, rfl, nb.intOf, hq.sq, hv, p.val rs r⟩))
    | _ => exact p.elim
  | lst xs =>
    cases b with
    | int i =>
      obtain ⟨q, vs, rfl, hq, rv⟩ := na.lstOf
      simp only [vIx] at p
      cases e : L2.atI xs i with
      | none => rw [e] at p; exact p.elim
      | some z =>
        rw [e] at p
        obtain ⟨v, hv, r⟩ := rv.atI e
        exact .inl (.inl ⟨q, vs, i, v, rfl, nb.intOf, .inl (.inl hq), hv, p.val rs r⟩)
    | _ => exact p.elim
  | str s =>
    cases b with
    | int i =>
      obtain ⟨ex, sx⟩ := na.strOf
      simp only [vIx] at p
      cases e : L2.atI s i with
      | none => rw [e] at p; exact p.elim
      | some c =>
        rw [e] at p
        have hc : SOk [c] = true := by
          obtain ⟨j, _, h2, _⟩ := atI_get e
          exact sok_one sx h2
        exact .inl (.inr (.inr ⟨toS s, i, c, ex, nb.intOf, sok_size sx, by simpa using e, p.val rs (.str [c] hc)⟩))
    | _ => exact p.elim
  | dic t kvs =>
    simp only [vIx] at p
    split at p
    · rename_i h
      obtain ⟨q, rfl, hh⟩ := na.dget nb h
      rcases hh with ⟨e, g⟩ | ⟨z, w, e, g, r⟩
      · rw [e] at p; exact p.elim
      · rw [e] at p; exact .inr ⟨q, w, rfl, g, p.val rs r⟩
    · exact p.elim
  | _ => cases b <;> exact p.elim
end

/-! ### a[i:j] -/
def cutL {α : Type} (xs : List α) (lo hi : Option Int) : List α := (xs.drop (HT.sIx xs.length 0 lo)).take (HT.sIx xs.length xs.length hi - HT.sIx xs.length 0 lo)
def vSl : Val → Option Int → Option Int → Option SV
  | .tup xs, lo, hi => some (.v (.tup (cutL xs lo hi)))
  | .lst xs, lo, hi => some (.fl (cutL xs lo hi))
  | .str s, lo, hi => some (.v (.str (cutL s lo hi)))
  | _, _, _ => none
abbrev Fp := Env → Sto → Rv (Option Int)
def pNo : Fp := fun _ st => .ok none st
def pInt (z : SV) (st : Sto) : Rv (Option Int) := match z with
  | .v (.int i) => .ok (some i) st
  | _ => .bad
def pAt (fa : Fe) : Fp := fun env st => (fa env st).bind pInt
def eSl (fa : Fe) (fl fu : Fp) : Fe := fun env st => (fa env st).bind fun x st1 => (fl env st1).bind fun lo st2 => (fu env st2).bind fun hi st3 => outO ((x.val st3).bind fun a => vSl a lo hi) st3
def PostP (G : Gc) (W : WX) (σ : L2.St) (P : Ts) (ρ : Rho) (H : Hp) (r : Rv (Option Int)) (Q : Option Int → Hp → Prop) : Prop := match r with
  | .ok b st' => ∀ H', Kp (Tr ρ) H (Tr ρ) H' → RepS G H' P ρ st' → Q b H'
  | .exc e st' => ∀ cls d H', Kp (Tr ρ) H (Tr ρ) H' → RepS G H' P ρ st' → RepEx G H' e cls d → W cls d σ H'
  | .bad => False
def TPm (G : Gc) (W : WX) (f : Fp) : TO := fun σ H Q => ∃ env st ρ P, RepE G H P ρ env σ ∧ RepS G H P ρ st ∧ PostP G W σ P ρ H (f env st) Q
abbrev EP (L : Lx) (X : Cx) (W : WX) (e : Option Expr) (f : Fp) : Prop := PO X e (TPm (gx L X) W f)
theorem PO.weak {X : Cx} {e : Option Expr} {t t' : TO} (h : PO X e t) (w : ∀ σ H Q, t' σ H Q → t σ H Q) : PO X e t' := ⟨fun pins s σ H Q I q => h.run pins s σ H Q I (w σ H Q q)⟩
def rSlM (G : Gc) : V → Option Int → Option Int → Hp → VK → Prop := fun x lo hi H Q => ∃ ρ P st a, RepS G H P ρ st ∧ Now G H (TP P ρ) a x ∧ POp G P ρ st H (vSl a lo hi) Q
theorem SlR.weak {X : Cx} {r r' : V → Option Int → Option Int → Hp → VK → Prop} (h : L2.SlR X r) (w : ∀ x lo hi H Q, r' x lo hi H Q → r x lo hi H Q) : L2.SlR X r' := fun pins s σ H x v vl vu lo hi sl Q I rx hs pl pu q => h pins s σ H x v vl vu lo hi sl Q I rx hs pl pu (w x lo hi H Q q)
section
variable {X : Cx} {L : Lx}
theorem sIx_le' (n d : Nat) (hd : d ≤ n) (o : Option Int) : HT.sIx n d o ≤ n := by
  cases o with
  | none => exact hd
  | some v =>
    show (if v < 0 then (v + (n : Int)).toNat else min v.toNat n) ≤ n
    split <;> omega
theorem sok_cut {s : List Nat} (h : SOk s = true) (lo hi : Option Int) : SOk (cutL s lo hi) = true := by
  unfold SOk at h ⊢
  simp only [Bool.and_eq_true, List.all_eq_true, decide_eq_true_eq] at h ⊢
  refine ⟨?_, fun x hx => h.2 x (List.mem_of_mem_drop (List.mem_of_mem_take hx))⟩
  have : (cutL s lo hi).length ≤ s.length := by unfold cutL; rw [List.length_take, List.length_drop]; omega
  omega
/-- t[lo:hi]: the whole of it is t itself -/
def rSlB (tn : Bool) (K : PySem.W.Frag) : V → Option Int → Option Int → Hp → VK → Prop := fun x lo hi H Q => ∃ a xs, x = .ref a ∧ SqT K H a xs ∧
  (HT.sIx xs.length 0 lo = 0 ∧ HT.sIx xs.length xs.length hi = xs.length → Q (.ref a) H) ∧ (¬ (HT.sIx xs.length 0 lo = 0 ∧ HT.sIx xs.length xs.length hi = xs.length) → ∀ (p : Addr) (o : Obj), H p = none → o.dict = none → Q (.ref p) (upd H p (tpO tn o (cutV xs lo hi))))
theorem sl_tupB (tn : Bool) : L2.SlR X (rSlB tn X.K) := fun pins s σ H x v vl vu lo hi sl Q I rx hs pl pu ⟨a, xs, e, hx, q1, q2⟩ => by
  by_cases hw : HT.sIx xs.length 0 lo = 0 ∧ HT.sIx xs.length xs.length hi = xs.length
  · exact sl_tupA pins s σ H x v vl vu lo hi sl Q I rx hs pl pu ⟨a, xs, e, hx, q1, fun h => absurd hw h⟩
  subst e
  cases rx
  have ⟨is, r, t, hz⟩ := I.tuple hx
  have n : is.toArray.size = xs.length := by have := r.length; simp; omega
  refine ⟨"tuple", _, PyProof.Rows.slot_tuple_getitem.lookup, t.typeIs, HT.getItem_tuple_cut t hs pl pu (by rw [n]; exact hw) ?_ (by rw [n]; exact hz)⟩
  rw [n]
  exact ⟨.ref _, _, laid_tup I (Nat.le_trans (cutV_length xs lo hi) hz) ((r.drop _).take _) tn, rfl, q2 hw _ _ (I.hok.fresh (Nat.le_refl _)) rfl⟩
theorem sl_M : L2.SlR X (rSlM (gx L X)) := by
  refine SlR.weak ((sl_tupB (X := X) L.tn).or (sl_list.or sl_str)) fun x lo hi H Q ⟨ρ, P, st, a, rs, na, p⟩ => ?_
  cases a with
  | tup xs =>
    obtain ⟨q, vs, rfl, hq, rv⟩ := na.tupOf
    have hl := rv.len
    refine .inl ⟨q, vs, rfl, hq.sq, fun hw => ?_, fun hw p' o hp ho => ?_⟩
    · have e : cutL xs lo hi = xs := by
        unfold cutL
        rw [hl, hw.1, hw.2, ← hl]
        simp
      simp only [vSl, e] at p
      exact p.val rs (.tup hq rv)
    · refine p.tup rs hp ho ?_
      unfold cutL cutV
      rw [← hl]
      exact (rv.drop _).take _
  | lst xs =>
    obtain ⟨q, vs, rfl, hq, rv⟩ := na.lstOf
    have hl := rv.len
    refine .inr (.inl ⟨q, vs, rfl, .inl (.inl hq), fun p' hp => p.lst rs hp ?_⟩)
    unfold cutL cutV
    rw [← hl]
    exact (rv.drop _).take _
  | str s =>
    obtain ⟨ex, sx⟩ := na.strOf
    refine .inr (.inr ⟨toS s, ex, sok_size sx, ?_⟩)
    have e : cutS (toS s) lo hi = toS (cutL s lo hi) := by
      unfold cutS cutL
      simp [Str.length]
    rw [e]
    exact p.val rs (.str _ (sok_cut sx lo hi))
  | _ => exact p.elim
variable {W : WX} {e : Expr} {fe : Fe} {lo hi : Option Expr} {fl fu : Fp} {pos p2 : Pos}
theorem ep_none : EP L X W none pNo := PO.weak po_none fun σ H Q ⟨env, st, ρ, P, re, rs, p⟩ => p H Kp.refl rs
theorem ep_some (h : EE L X W e fe) : EP L X W (some e) (pAt fe) := by
  refine PO.weak (po_some h) fun σ H Q ⟨env, st, ρ, P, re, rs, p⟩ => ⟨env, st, ρ, P, re, rs, ?_⟩
  unfold pAt at p
  cases h : fe env st with
  | bad => rw [h] at p; exact p
  | exc ex s => rw [h] at p; exact p
  | ok z s =>
    rw [h] at p
    intro v H' k rs' rx
    have p : PostP (gx L X) W σ P ρ H (pInt z s) Q := p
    cases rx with
    | v r => cases r <;> first | exact p.elim | exact ⟨_, rfl, p H' k rs'⟩
    | _ => exact p.elim
theorem PostP.step {G : Gc} {σ : L2.St} {P : Ts} {ρ : Rho} {H H1 : Hp} {r : Rv SV} {Q : VK} (k : Kp (Tr ρ) H (Tr ρ) H1) (p : Post G W σ P ρ H r Q) : Post G W σ P ρ H1 r Q := p.step k
theorem ee_sl (he : EE L X W e fe) (hl : EP L X W lo fl) (hu : EP L X W hi fu) : EE L X W (.Subscript e (.Slice lo hi none p2) pos) (eSl fe fl fu) := by
  refine PE.weak (pe_slice (sl_M (L := L)) he hl hu) fun σ H Q ⟨env, st, ρ, P, re, rs, p⟩ => ⟨env, st, ρ, P, re, rs, p.then fun x st1 v H1 k1 rs1 rx p => ?_⟩
  refine ⟨env, st1, ρ, P, re.ext k1 rs, rs1, ?_⟩
  cases h1 : fl env st1 with
  | bad => rw [h1] at p; exact p
  | exc ex s => rw [h1] at p; exact p
  | ok l st2 =>
    rw [h1] at p
    intro H2 k2 rs2
    refine ⟨env, st2, ρ, P, (re.ext k1 rs).ext k2 rs1, rs2, ?_⟩
    have p := Post.step k2 p
    have p : Post (gx L X) W σ P ρ H2 ((fu env st2).bind fun hi st3 => outO ((x.val st3).bind fun a => vSl a l hi) st3) Q := p
    cases h2 : fu env st2 with
    | bad => rw [h2] at p; exact p
    | exc ex s => rw [h2] at p; exact p
    | ok u st3 =>
      rw [h2] at p
      intro H3 k3 rs3
      have p := POp.of (Post.step k3 p)
      cases h3 : x.val st3 with
      | none => rw [h3] at p; exact p.elim
      | some a =>
        rw [h3] at p
        exact ⟨ρ, P, st3, a, rs3, rx.now2 rs1 (k2.trans k3) rs3 h3, p⟩
end
end Eng

namespace Eng
open PySem PySem.Spec PyProof.Rows L2

/-! ### calls of built-in things -/
def valsOf (st : Sto) : List SV → Option (List Val)
  | [] => some []
  | z :: zs => match z.val st, valsOf st zs with
    | some x, some xs => some (x :: xs)
    | _, _ => none
def eB (o : List Val → Option SV) (fa : Env → Sto → Rv (List SV)) : Fe := fun env st => (fa env st).bind fun zs st1 => outO ((valsOf st1 zs).bind o) st1
inductive NowL (G : Gc) (H : Hp) (T : Ts) : List Val → List V → Prop
  | nil : NowL G H T [] []
  | cons {x : Val} {v : V} {xs : List Val} {vs : List V} : Now G H T x v → NowL G H T xs vs → NowL G H T (x :: xs) (v :: vs)
def RLm (G : Gc) (o : List Val → Option SV) : List V → Hp → VK → Prop := fun vs H Q => ∃ ρ P st as, RepS G H P ρ st ∧ NowL G H (TP P ρ) as vs ∧ POp G P ρ st H (o as) Q
def RMm (G : Gc) (o : Val → List Val → Option SV) : V → List V → Hp → VK → Prop := fun x vs H Q => ∃ ρ P st a as, RepS G H P ρ st ∧ Now G H (TP P ρ) a x ∧ NowL G H (TP P ρ) as vs ∧ POp G P ρ st H (o a as) Q
/-- the receiver's type -/
def rcv (T : String) : Option Val → Bool
  | some (.str _) => T == "str"
  | some (.lst _) => T == "list"
  | _ => false
/-- a method that only reads -/
def eM (T : String) (o : Val → List Val → Option SV) (fo : Fe) (fa : Env → Sto → Rv (List SV)) : Fe := fun env st => (fo env st).bind fun z st1 => if rcv T (z.val st1) = true then
  (fa env st1).bind fun zs st2 => outO ((z.val st2).bind fun a => (valsOf st2 zs).bind fun as => o a as) st2 else .bad
section
variable {G : Gc} {H : Hp} {P : Ts} {ρ : Rho} {st : Sto}
theorem RepZs.nowL (rs : RepS G H P ρ st) : ∀ {zs : List SV} {vs : List V} {xs : List Val}, RepZs G H P ρ zs vs → valsOf st zs = some xs → NowL G H (TP P ρ) xs vs
  | _, _, _, .nil, e => by cases e; exact .nil
  | z :: zs, _, xs, .cons r t, e => by
    simp only [valsOf] at e
    split at e
    · rename_i x ys e1 e2
      cases e
      exact .cons (r.now rs e1) (RepZs.nowL rs t e2)
    · cases e
end
section
variable {X : Cx} {L : Lx} {W : WX} {x : Str} {p pos apos : Pos} {e o : Expr} {es : List Expr} {id T : String} {f : List Val → Option SV} {g : Val → List Val → Option SV} {fa : Env → Sto → Rv (List SV)} {fo : Fe}
theorem callB_tm (σ : L2.St) (H : Hp) (Q : VK) (h : TEm (gx L X) W (eB f fa) σ H Q) : tCB (RLm (gx L X) f) (TAm (gx L X) W fa) σ H Q := by
  obtain ⟨env, st, ρ, P, re, rs, p⟩ := h
  refine ⟨env, st, ρ, P, re, rs, PostA.then p fun zs st1 vs H1 k rs1 rz p => ?_⟩
  have p := POp.of p
  cases h1 : valsOf st1 zs with
  | none => rw [h1] at p; exact p.elim
  | some xs => rw [h1] at p; exact ⟨ρ, P, st1, xs, rs1, rz.nowL rs1 h1, p⟩
theorem ee_callB (hc : CallR X (.builtin id) (RLm (gx L X) f)) (hg : Gl X x) (hm : X.mg x = none) (hv : bootBuiltins x = some (.builtin id)) (ha : EA L X W (e :: es) fa) (hn : x ≠ "__name__" := by decide) (hdb : (x == ("__debug__" : Str)) = false := by decide)
    (he : starEach (e :: es) X.env = (false, eval e X.env) :: starEach es X.env := by rfl) (hpl : (backTo pos (starEach es X.env)).any (·.1) = false := by rfl) : EE L X W (.Call (.Name x p) (e :: es) [] pos) (eB f fa) :=
  PE.weak (pe_callB hc hg hm hv ha hn hdb he hpl) callB_tm
theorem ee_callTy (hc : CallR X (.type T) (RLm (gx L X) f)) (hg : Gl X x) (hm : X.mg x = none) (hv : bootBuiltins x = some (.type T)) (ha : EA L X W (e :: es) fa) (hn : x ≠ "__name__" := by decide) (hdb : (x == ("__debug__" : Str)) = false := by decide)
    (he : starEach (e :: es) X.env = (false, eval e X.env) :: starEach es X.env := by rfl) (hpl : (backTo pos (starEach es X.env)).any (·.1) = false := by rfl) : EE L X W (.Call (.Name x p) (e :: es) [] pos) (eB f fa) :=
  PE.weak (pe_callTy hc hg hm hv ha hn hdb he hpl) callB_tm
/-- the name of a built-in type -/
theorem ee_ty (n : String) (hg : Gl X x) (hm : X.mg x = none) (hv : bootBuiltins x = some (.type n)) (hn : x ≠ "__name__" := by decide) (hdb : (x == ("__debug__" : Str)) = false := by decide) : EE L X W (.Name x pos) (eC (.ty n)) :=
  ee_C (pe_bltn (v := .ty n) hg hm hv rfl hn hdb) fun _ _ => .ty n
/-- a module's number, text -/
theorem ee_gint (i : Int) {u : Value} (hg : Gl X x) (hm : X.mg x = some u) (r : RelV (.int i) u) (hd : (x == ("__debug__" : Str)) = false := by decide) : EE L X W (.Name x pos) (eC (.int i)) := ee_C (pe_glob hg hm r hd) fun _ _ => .int i
theorem ee_gstr (l : List Nat) {u : Value} (hg : Gl X x) (hm : X.mg x = some u) (r : RelV (.str (toS l)) u) (hl : SOk l = true := by rfl) (hd : (x == ("__debug__" : Str)) = false := by decide) : EE L X W (.Name x pos) (eC (.str l)) := ee_C (pe_glob hg hm r hd) fun _ _ => .str l hl
/-- any other thing of the module -/
theorem ee_glob {u : Value} {v : V} (hg : Gl X x) (hm : X.mg x = some u) (r : RelV v u) (hd : (x == ("__debug__" : Str)) = false := by decide) : EE L X W (.Name x pos) (eC (.glb x)) := ee_C (pe_glob hg hm r hd) fun _ _ => .glb hm r
theorem rcv_ty {G : Gc} {H : Hp} {T : Ts} {t : String} {a : Val} {v : V} (h : Now G H T a v) (ht : rcv t (some a) = true) : tyV G.K t v H := by
  cases a with
  | str s =>
    obtain ⟨rfl, _⟩ := h.strOf
    exact eq_of_beq ht
  | lst xs =>
    obtain ⟨b, us, rfl, hh, _⟩ := h.lstOf
    exact .inl ⟨eq_of_beq ht, us, .inl (.inl hh)⟩
  | _ => simp [rcv] at ht
/-- o.m(e, ..), a method that reads -/
theorem ee_bm {r : V → List V → Hp → VK → Prop} {name : Str} (pa : PlainAttrs T) (slot : Slot T name id) (hty : typeOf (.builtin id) = pure (.type "method_descriptor")) (hm : MtR X id r)
    (hw : ∀ x xs H Q, RMm (gx L X) g x xs H Q → r x xs H Q) (ho : EE L X W o fo) (ha : EA L X W (e :: es) fa)
    (hbase : attributeBase o name X.env (eval o X.env) = eval o X.env := by rfl)
    (hfew : ((backTo pos (starEach (e :: es) X.env)).all (fun x => !x.1) && (backToKw pos (keywordEach [] X.env)).all (fun x => x.1.isSome)
      && decide ((e :: es).length + ([] : List Keyword).length + (if ([] : List Keyword).isEmpty then 0 else 1) < 30)) = true := by rfl)
    (hline : (apos.endLine == pos.line) = true := by rfl) (hs : starEach (e :: es) X.env = (false, eval e X.env) :: starEach es X.env := by rfl) (hplain : (backTo pos (starEach es X.env)).any (·.1) = false := by rfl) :
    EE L X W (.Call (.Attribute o name apos) (e :: es) [] pos) (eM T g fo fa) := by
  refine PE.weak (pe_bm pa slot hty hm ho ha hbase hfew hline hs hplain) fun σ H Q ⟨env, st, ρ, P, re, rs, p⟩ => ⟨env, st, ρ, P, re, rs, ?_⟩
  refine Post.then p fun z st1 v H1 k1 rs1 rx p => ?_
  split at p
  · rename_i hr
    refine ⟨?_, env, st1, ρ, P, re.ext k1 rs, rs1, ?_⟩
    · cases h3 : z.val st1 with
      | none => rw [h3] at hr; cases hr
      | some a => rw [h3] at hr; exact rcv_ty (rx.now rs1 h3) hr
    · refine PostA.then p fun zs st2 vs H2 k2 rs2 rz p => ?_
      have p := POp.of p
      cases h3 : z.val st2 with
      | none => rw [h3] at p; exact p.elim
      | some a =>
        cases h4 : valsOf st2 zs with
        | none => rw [h3, h4] at p; exact p.elim
        | some as =>
          rw [h3, h4] at p
          exact hw _ _ _ _ ⟨ρ, P, st2, a, as, rs2, rx.now2 rs1 k2 rs2 h3, rz.nowL rs2 h4, p⟩
  · exact p.elim
end

/-! ### isinstance -/
def tyN : Val → String
  | .non => "NoneType"
  | .bl _ => "bool"
  | .int _ => "int"
  | .str _ => "str"
  | .tup _ => "tuple"
  | .lst _ => "list"
  | .dic _ _ => ""
  | .glb _ => ""
  | .ty _ => ""
  | .seq _ => ""
  | .exn _ _ => ""
  | .prs _ => ""
def isT (m n : String) : Bool := m == n || (m == "bool" && n == "int")
def tyAll : List String := ["NoneType", "bool", "int", "str", "tuple", "list", "dict"]
def isiV (x : Val) (n : String) : Option Bool := if (tyAll.contains (tyN x) && tyAll.contains n) = true then some (isT (tyN x) n) else none
def vIsi : List Val → Option SV
  | [x, .ty n] => (isiV x n).map fun b => .v (.bl b)
  | _ => none
theorem kit_tab : ∀ m ∈ tyAll, ∀ n ∈ tyAll, kitB m n = some (isT m n) := by decide +kernel
section
variable {G : Gc} {H : Hp} {T : Ts}
theorem TyX.tupH {tn : Bool} {K : PySem.W.Frag} {a : Addr} {vs : List V} (h : TupH tn H a vs) : TyX K H (.ref a) (.type "tuple") := by
  obtain ⟨o, _, h⟩ := h
  unfold tpO at h
  split at h
  · exact .fTuple h
  · exact .base (.tup h)
theorem Now.tyX {x : Val} {v : V} (h : Now G H T x v) (ht : tyAll.contains (tyN x) = true) : TyX G.K H v (.type (tyN x)) := by
  cases h with
  | rep r =>
    cases r with
    | non => exact .base .non
    | bl b => exact .base (.bl b)
    | int i => exact .base (.int i)
    | str l _ => exact .base (.str _)
    | tup h _ => exact TyX.tupH h
    | prs _ _ => simp [tyN, tyAll] at ht
    | lst h _ _ => exact .base (.lst h)
    | dicK h _ _ => simp [tyN, tyAll] at ht
    | dicT h _ _ => simp [tyN, tyAll] at ht
    | glb _ _ => simp [tyN, tyAll] at ht
    | ty n => simp [tyN, tyAll] at ht
    | seqH _ _ _ => simp [tyN, tyAll] at ht
    | seqK _ _ => simp [tyN, tyAll] at ht
    | exn _ _ _ => simp [tyN, tyAll] at ht
  | lst h _ => exact .base (.lst h)
  | dicK h _ => simp [tyN, tyAll] at ht
  | dicT h _ => simp [tyN, tyAll] at ht
theorem NowL.two {x y : Val} {vs : List V} (h : NowL G H T [x, y] vs) : ∃ v u, vs = [v, u] ∧ Now G H T x v ∧ Now G H T y u := by
  cases h with | cons a t => cases t with | cons b t => cases t with | nil => exact ⟨_, _, rfl, a, b⟩
theorem NowL.one {x : Val} {vs : List V} (h : NowL G H T [x] vs) : ∃ v, vs = [v] ∧ Now G H T x v := by
  cases h with | cons a t => cases t with | nil => exact ⟨_, rfl, a⟩
theorem NowL.none {vs : List V} (h : NowL G H T [] vs) : vs = [] := by cases h; rfl
end
section
variable {X : Cx} {L : Lx}
theorem cb_isi : CallR X (.builtin "isinstance") (RLm (gx L X) vIsi) := by
  refine CallR.weak call_isi fun vs H Q ⟨ρ, P, st, as, rs, nl, p⟩ => ?_
  unfold vIsi at p
  split at p
  · rename_i x n
    obtain ⟨v, u, rfl, nx, ny⟩ := nl.two
    obtain rfl := ny.tyOf
    unfold isiV at p
    split at p
    · rename_i h
      rw [Bool.and_eq_true] at h
      exact ⟨v, .ty n, _, _, isT (tyN x) n, rfl, .ty n, nx.tyX h.1, kit_ty (kit_tab _ (by simpa using h.1) _ (by simpa using h.2)), p.val rs (.bl _)⟩
    · exact p.elim
  · exact p.elim
/-! ### len, abs, int, str -/
def vLen : List Val → Option SV
  | [.tup xs] => some (.v (.int xs.length))
  | [.lst xs] => some (.v (.int xs.length))
  | [.str s] => some (.v (.int s.length))
  | [.dic false kvs] => some (.v (.int kvs.length))
  | _ => none
theorem call_lenDR : CallR X (.builtin "len") (fun xs H Q => ∃ a kvs, xs = [V.ref a] ∧ Rd H a (.dK kvs) ∧ Q (.int kvs.length) H) := by
  intro pins s σ H xs us Q I r h
  obtain ⟨a, kvs, rfl, ha, q⟩ := h
  obtain ⟨u, rfl, ru⟩ := vals1 r
  cases ru
  exact d_len I ha fun t s' I' => ⟨.int kvs.length, H, I', ⟨t, rfl⟩, q⟩
theorem cb_len : CallR X (.builtin "len") (RLm (gx L X) vLen) := by
  have or' : CallR X (.builtin "len") (fun xs H Q => (∃ x n, xs = [x] ∧ LenV X.K x H n ∧ Q (.int n) H) ∨ (∃ a kvs, xs = [V.ref a] ∧ Rd H a (.dK kvs) ∧ Q (.int kvs.length) H)) := fun pins s σ H xs us Q I r h => by
    rcases h with h | h
    · exact call_len pins s σ H xs us Q I r h
    · exact call_lenDR pins s σ H xs us Q I r h
  refine CallR.weak or' fun vs H Q ⟨ρ, P, st, as, rs, nl, p⟩ => ?_
  unfold vLen at p
  split at p
  · rename_i xs
    obtain ⟨v, rfl, nx⟩ := nl.one
    obtain ⟨a, us, rfl, h, r⟩ := nx.tupOf
    exact .inl ⟨_, xs.length, rfl, .inr ⟨us, h.sq, r.len⟩, p.val rs (.int _)⟩
  · rename_i xs
    obtain ⟨v, rfl, nx⟩ := nl.one
    obtain ⟨a, us, rfl, h, r⟩ := nx.lstOf
    exact .inl ⟨_, xs.length, rfl, .inl ⟨us, .inl (.inl h), r.len⟩, p.val rs (.int _)⟩
  · rename_i s
    obtain ⟨v, rfl, nx⟩ := nl.one
    obtain ⟨rfl, hs⟩ := nx.strOf
    exact .inl ⟨_, s.length, rfl, ⟨sok_size hs, by simp [Str.length]⟩, p.val rs (.int _)⟩
  · rename_i kvs
    obtain ⟨v, rfl, nx⟩ := nl.one
    cases nx with
    | rep r => cases r with | dicK h _ r => exact .inr ⟨_, _, rfl, h, by rw [← r.len]; exact p.val rs (.int _)⟩
    | dicK h r => exact .inr ⟨_, _, rfl, .inl h, by rw [← r.len]; exact p.val rs (.int _)⟩
  · exact p.elim
def vAbs : List Val → Option SV
  | [.int i] => some (.v (.int (if i < 0 then -i else i)))
  | _ => none
theorem cb_abs : CallR X (.builtin "abs") (RLm (gx L X) vAbs) := by
  refine CallR.weak call_abs fun vs H Q ⟨ρ, P, st, as, rs, nl, p⟩ => ?_
  unfold vAbs at p
  split at p
  · rename_i i
    obtain ⟨v, rfl, nx⟩ := nl.one
    obtain rfl := nx.intOf
    exact ⟨i, rfl, p.val rs (.int _)⟩
  · exact p.elim
def vInt : List Val → Option SV
  | [.int i] => some (.v (.int i))
  | [.bl b] => some (.v (.int (if b then 1 else 0)))
  | _ => none
theorem cb_int : CallR X (.type "int") (RLm (gx L X) vInt) := by
  refine CallR.weak call_int1 fun vs H Q ⟨ρ, P, st, as, rs, nl, p⟩ => ?_
  unfold vInt at p
  split at p
  · rename_i i
    obtain ⟨v, rfl, nx⟩ := nl.one
    obtain rfl := nx.intOf
    exact .inl ⟨i, rfl, p.val rs (.int _)⟩
  · rename_i b
    obtain ⟨v, rfl, nx⟩ := nl.one
    obtain rfl := nx.blOf
    exact .inr ⟨b, rfl, p.val rs (.int _)⟩
  · exact p.elim
def vStr : List Val → Option SV
  | [.str s] => some (.v (.str s))
  | _ => none
theorem cb_str : CallR X (.type "str") (RLm (gx L X) vStr) := by
  refine CallR.weak SkE.call_str_str fun vs H Q ⟨ρ, P, st, as, rs, nl, p⟩ => ?_
  unfold vStr at p
  split at p
  · rename_i s
    obtain ⟨v, rfl, nx⟩ := nl.one
    obtain ⟨rfl, hs⟩ := nx.strOf
    exact ⟨_, rfl, p.val rs (.str _ hs)⟩
  · exact p.elim
/-! ### tuple, list -/
def vTuple : List Val → Option SV
  | [.tup xs] => some (.v (.tup xs))
  | [.lst xs] => some (.v (.tup xs))
  | _ => none
theorem call_tupleB (tn : Bool) : CallR X (.type "tuple") (fun xs H Q => ∃ p ys, xs = [.ref p] ∧ ((SqL X.K H p ys ∧ ∀ (l : Addr) (o : Obj), H l = none → o.dict = none → Q (.ref l) (upd H l (tpO tn o ys))) ∨ (SqT X.K H p ys ∧ Q (.ref p) H))) := fun pins s σ H xs us Q I r ⟨p, ys, e, h⟩ => by
  rcases h with ⟨hq, q⟩ | h
  · subst e
    obtain ⟨u, rfl, rx⟩ := vals1 r
    cases rx
    have ⟨is, r', pl, hz⟩ := I.list hq
    refine call_tuple_list pl.isList (fun h' kp => ?_) (by have := r'.length; simp; omega)
    have J : L2.Inv X pins σ H { s with heap := h' } := I.kept (t' := s.toks) kp
    exact ⟨.ref _, _, laid_tup J hz r' tn, rfl, q _ _ (J.hok.fresh (Nat.le_refl _)) rfl⟩
  · exact call_tuple_of pins s σ H xs us Q I r ⟨p, ys, e, .inr h⟩
theorem cb_tuple : CallR X (.type "tuple") (RLm (gx L X) vTuple) := by
  refine CallR.weak (call_tupleB L.tn) fun vs H Q ⟨ρ, P, st, as, rs, nl, p⟩ => ?_
  unfold vTuple at p
  split at p
  · rename_i xs
    obtain ⟨v, rfl, nx⟩ := nl.one
    obtain ⟨a, us, rfl, h, r⟩ := nx.tupOf
    exact ⟨a, us, rfl, .inr ⟨h.sq, p.val rs (.tup h r)⟩⟩
  · rename_i xs
    obtain ⟨v, rfl, nx⟩ := nl.one
    obtain ⟨a, us, rfl, h, r⟩ := nx.lstOf
    exact ⟨a, us, rfl, .inl ⟨.inl (.inl h), fun l o hl ho => p.tup rs hl ho r⟩⟩
  · exact p.elim
def vList : List Val → Option SV
  | [.tup xs] => some (.fl xs)
  | [.lst xs] => some (.fl xs)
  | [.seq xs] => some (.fl xs)
  | _ => none
theorem cb_list : CallR X (.type "list") (RLm (gx L X) vList) := by
  refine CallR.weak call_list_of fun vs H Q ⟨ρ, P, st, as, rs, nl, p⟩ => ?_
  unfold vList at p
  split at p
  · rename_i xs
    obtain ⟨v, rfl, nx⟩ := nl.one
    obtain ⟨a, us, rfl, h, r⟩ := nx.tupOf
    exact ⟨a, us, rfl, .inr (h.sq), fun l hl => p.lst rs hl r⟩
  · rename_i xs
    obtain ⟨v, rfl, nx⟩ := nl.one
    obtain ⟨a, us, rfl, h, r⟩ := nx.lstOf
    exact ⟨a, us, rfl, .inl (.inl (.inl h)), fun l hl => p.lst rs hl r⟩
  · rename_i xs
    obtain ⟨v, rfl, nx⟩ := nl.one
    cases nx with
    | rep r =>
      cases r with
      | seqH h _ r => exact ⟨_, _, rfl, .inl (.inl h), fun l hl => p.lst rs hl r⟩
      | seqK h r => exact ⟨_, _, rfl, .inl (h _), fun l hl => p.lst rs hl r⟩
  · exact p.elim
end
/-! ### all, any, sum, max, min, sorted -/
def blsOf : List Val → Option (List Bool)
  | [] => some []
  | x :: r => match x, blsOf r with
    | .bl b, some bs => some (b :: bs)
    | _, _ => none
def intsOf : List Val → Option (List Int)
  | [] => some []
  | x :: r => match x, intsOf r with
    | .int b, some bs => some (b :: bs)
    | _, _ => none
def strsOf : List Val → Option (List (List Nat))
  | [] => some []
  | x :: r => match x, strsOf r with
    | .str b, some bs => some (b :: bs)
    | _, _ => none
section
variable {G : Gc} {H : Hp} {T : Ts}
theorem RepVs.bls : ∀ {xs : List Val} {vs : List V} {bs : List Bool}, RepVs G H T xs vs → blsOf xs = some bs → vs = bs.map V.bl
  | _, _, _, .nil, e => by cases e; rfl
  | x :: xs, _, bs, .cons r t, e => by
    simp only [blsOf] at e
    split at e
    · rename_i b cs e2
      cases e
      cases r
      rw [RepVs.bls t e2, List.map_cons]
    · cases e
theorem RepVs.ints : ∀ {xs : List Val} {vs : List V} {bs : List Int}, RepVs G H T xs vs → intsOf xs = some bs → vs = bs.map V.int
  | _, _, _, .nil, e => by cases e; rfl
  | x :: xs, _, bs, .cons r t, e => by
    simp only [intsOf] at e
    split at e
    · rename_i b cs e2
      cases e
      cases r
      rw [RepVs.ints t e2, List.map_cons]
    · cases e
theorem RepVs.strs : ∀ {xs : List Val} {vs : List V} {bs : List (List Nat)}, RepVs G H T xs vs → strsOf xs = some bs → vs = (bs.map toS).map V.str ∧ ∀ b ∈ bs, SOk b = true
  | _, _, _, .nil, e => by cases e; exact ⟨rfl, fun _ h => by cases h⟩
  | x :: xs, _, bs, .cons r t, e => by
    simp only [strsOf] at e
    split at e
    · rename_i b cs e2
      cases e
      cases r with
      | str _ h =>
        obtain ⟨h1, h2⟩ := RepVs.strs t e2
        exact ⟨by rw [h1]; rfl, fun c hc => by
          rcases List.mem_cons.mp hc with rfl | hc
          · exact h
          · exact h2 c hc⟩
    · cases e
theorem RepVs.ofInts : ∀ (ns : List Int), RepVs G H T (ns.map Val.int) (ns.map V.int)
  | [] => .nil
  | n :: ns => .cons (.int n) (RepVs.ofInts ns)
theorem RepVs.ofStrs : ∀ (ns : List (List Nat)), (∀ b ∈ ns, SOk b = true) → RepVs G H T (ns.map Val.str) ((ns.map toS).map V.str)
  | [], _ => .nil
  | n :: ns, h => .cons (.str n (h n (by simp))) (RepVs.ofStrs ns fun b hb => h b (by simp [hb]))
end
def leS (a b : List Nat) : Bool := !decide (b < a)
def leI (a b : Int) : Bool := decide (a ≤ b)
/-- a sort that the kernel can run -/
def insL {α : Type} (le : α → α → Bool) (a : α) : List α → List α
  | [] => [a]
  | b :: r => if le a b = true then a :: b :: r else b :: insL le a r
def isort {α : Type} (le : α → α → Bool) : List α → List α
  | [] => []
  | a :: r => insL le a (isort le r)
theorem insL_perm {α : Type} (le : α → α → Bool) (a : α) : ∀ xs : List α, (insL le a xs).Perm (a :: xs)
  | [] => .refl _
  | b :: r => by
    unfold insL
    split
    · exact .refl _
    · exact ((insL_perm le a r).cons b).trans (.swap a b r)
theorem isort_perm {α : Type} (le : α → α → Bool) : ∀ xs : List α, (isort le xs).Perm xs
  | [] => .refl _
  | a :: r => (insL_perm le a _).trans ((isort_perm le r).cons a)
theorem insL_pair {α : Type} {le : α → α → Bool} (tr : ∀ a b c, le a b = true → le b c = true → le a c = true) (tot : ∀ a b, (le a b || le b a) = true) (a : α) : ∀ xs : List α, xs.Pairwise (fun a b => le a b = true) → (insL le a xs).Pairwise fun a b => le a b = true
  | [], _ => by simp [insL]
  | b :: r, h => by
    rw [List.pairwise_cons] at h
    unfold insL
    split
    · rename_i q
      refine List.pairwise_cons.mpr ⟨fun c hc => ?_, List.pairwise_cons.mpr h⟩
      rcases List.mem_cons.mp hc with rfl | hc
      · exact q
      · exact tr _ _ _ q (h.1 c hc)
    · rename_i q
      refine List.pairwise_cons.mpr ⟨fun c hc => ?_, insL_pair tr tot a r h.2⟩
      rcases List.mem_cons.mp ((insL_perm le a r).mem_iff.mp hc) with rfl | hc
      · have := tot c b
        rw [Bool.or_eq_true] at this
        exact this.resolve_left q
      · exact h.1 c hc
theorem isort_pair {α : Type} {le : α → α → Bool} (tr : ∀ a b c, le a b = true → le b c = true → le a c = true) (tot : ∀ a b, (le a b || le b a) = true) : ∀ xs : List α, (isort le xs).Pairwise fun a b => le a b = true
  | [] => .nil
  | a :: r => insL_pair tr tot a _ (isort_pair tr tot r)
def sortS (xs : List (List Nat)) : List (List Nat) := isort leS xs
def sortI (xs : List Int) : List Int := isort leI xs
theorem leS_trans (a b c : List Nat) (h : leS a b = true) (h' : leS b c = true) : leS a c = true := by
  unfold leS at *
  simp only [Bool.not_eq_true', decide_eq_false_iff_not] at *
  rw [List.not_lt] at *
  exact List.le_trans h h'
theorem leS_total (a b : List Nat) : (leS a b || leS b a) = true := by
  unfold leS
  rcases List.le_total a b with h | h
  · rw [← List.not_lt] at h; simp [h]
  · rw [← List.not_lt] at h; simp [h]
theorem leS_anti (a b : List Nat) (h : leS a b = true) (h' : leS b a = true) : a = b := by
  unfold leS at *
  simp only [Bool.not_eq_true', decide_eq_false_iff_not] at *
  rw [List.not_lt] at *
  exact List.le_antisymm h h'
theorem sortS_pair (xs : List (List Nat)) : (sortS xs).Pairwise fun a b => leS a b = true := isort_pair leS_trans leS_total xs
theorem sortS_perm (xs : List (List Nat)) : (sortS xs).Perm xs := isort_perm leS xs
theorem sortI_pair (xs : List Int) : (sortI xs).Pairwise fun a b => a ≤ b := by
  have := isort_pair (le := leI) (fun a b c h h' => by unfold leI at *; simp only [decide_eq_true_eq] at *; omega) (fun a b => by unfold leI; simp only [Bool.or_eq_true, decide_eq_true_eq]; omega) xs
  exact this.imp fun h => by unfold leI at h; simpa using h
theorem sortI_perm (xs : List Int) : (sortI xs).Perm xs := isort_perm leI xs
theorem sortS_uniq {xs ys : List (List Nat)} (hp : ys.Perm xs) (hs : ys.Pairwise fun a b => leS a b = true) : ys = sortS xs :=
  List.Perm.eq_of_pairwise (fun a b _ _ h h' => leS_anti a b h h') hs (sortS_pair xs) (hp.trans (sortS_perm xs).symm)
theorem sortI_uniq {xs ys : List Int} (hp : ys.Perm xs) (hs : ys.Pairwise fun a b => a ≤ b) : ys = sortI xs :=
  List.Perm.eq_of_pairwise (fun a b _ _ h h' => Int.le_antisymm h h') hs (sortI_pair xs) (hp.trans (sortI_perm xs).symm)
theorem rising_pair : ∀ (r : List (List Nat)) (p : List Nat), risingS (toS p) (r.map toS) = true → (p :: r).Pairwise fun a b => leS a b = true
  | [], p, _ => by simp
  | x :: r, p, h => by
    rw [List.map_cons] at h
    simp only [risingS, Bool.and_eq_true] at h
    have ih := rising_pair r x h.2
    have hx : leS p x = true := by
      have h1 := h.1
      rw [PyProof.Rows.ltCps_eq] at h1
      unfold leS
      simpa using h1
    refine List.Pairwise.cons (fun y hy => ?_) ih
    rcases List.mem_cons.mp hy with rfl | hy
    · exact hx
    · exact leS_trans _ _ _ hx ((List.pairwise_cons.mp ih).1 y hy)
theorem sorted_pair : ∀ (r : List (List Nat)), sortedS (r.map toS) = true → r.Pairwise fun a b => leS a b = true
  | [], _ => .nil
  | x :: r, h => rising_pair r x h
end Eng

namespace Eng
open PySem PySem.Spec PyProof.Rows L2

section
variable {X : Cx} {L : Lx}
def vAll : List Val → Option SV
  | [.lst xs] => (blsOf xs).map fun bs => .v (.bl (bs.all id))
  | _ => none
def vAny : List Val → Option SV
  | [.lst xs] => (blsOf xs).map fun bs => .v (.bl (bs.any id))
  | _ => none
theorem cb_all (hc : X.calm = true) : CallR X (.builtin "all") (RLm (gx L X) vAll) := by
  refine CallR.weak (cr_all hc) fun vs H Q ⟨ρ, P, st, as, rs, nl, p⟩ => ?_
  unfold vAll at p
  split at p
  · rename_i xs
    obtain ⟨v, rfl, nx⟩ := nl.one
    obtain ⟨a, us, rfl, h, r⟩ := nx.lstOf
    cases e : blsOf xs with
    | none => rw [e] at p; exact p.elim
    | some bs =>
      rw [e] at p
      have := r.bls e
      subst this
      exact ⟨a, bs, rfl, .inl (.inl h), p.val rs (.bl _)⟩
  · exact p.elim
theorem cb_any (hc : X.calm = true) : CallR X (.builtin "any") (RLm (gx L X) vAny) := by
  refine CallR.weak (cr_any hc) fun vs H Q ⟨ρ, P, st, as, rs, nl, p⟩ => ?_
  unfold vAny at p
  split at p
  · rename_i xs
    obtain ⟨v, rfl, nx⟩ := nl.one
    obtain ⟨a, us, rfl, h, r⟩ := nx.lstOf
    cases e : blsOf xs with
    | none => rw [e] at p; exact p.elim
    | some bs =>
      rw [e] at p
      have := r.bls e
      subst this
      exact ⟨a, bs, rfl, .inl (.inl h), p.val rs (.bl _)⟩
  · exact p.elim
def vSum : List Val → Option SV
  | [.lst xs] => (intsOf xs).map fun bs => .v (.int bs.sum)
  | _ => none
theorem cb_sum (hc : X.calm = true) : CallR X (.builtin "sum") (RLm (gx L X) vSum) := by
  refine CallR.weak (cr_sum hc) fun vs H Q ⟨ρ, P, st, as, rs, nl, p⟩ => ?_
  unfold vSum at p
  split at p
  · rename_i xs
    obtain ⟨v, rfl, nx⟩ := nl.one
    obtain ⟨a, us, rfl, h, r⟩ := nx.lstOf
    cases e : intsOf xs with
    | none => rw [e] at p; exact p.elim
    | some bs =>
      rw [e] at p
      have := r.ints e
      subst this
      exact ⟨a, bs, rfl, .inl (.inl h), p.val rs (.int _)⟩
  · exact p.elim
/-- the greatest, the least of a list that is not empty -/
def maxL : List Int → Option Int
  | [] => none
  | x :: r => match maxL r with
    | none => some x
    | some m => some (if x < m then m else x)
def minL : List Int → Option Int
  | [] => none
  | x :: r => match minL r with
    | none => some x
    | some m => some (if m < x then m else x)
theorem maxL_some : ∀ {r : List Int}, r ≠ [] → ∃ m, maxL r = some m ∧ m ∈ r ∧ ∀ y ∈ r, y ≤ m
  | [], h => absurd rfl h
  | [x], _ => ⟨x, rfl, by simp, fun y hy => by simp at hy; omega⟩
  | x :: y :: r, _ => by
    obtain ⟨m, h1, h2, h3⟩ := maxL_some (r := y :: r) (by simp)
    refine ⟨if x < m then m else x, by rw [maxL, h1], ?_, fun z hz => ?_⟩
    · split
      · exact List.mem_cons_of_mem _ h2
      · exact List.mem_cons_self
    · rcases List.mem_cons.mp hz with rfl | hz
      · split <;> omega
      · have := h3 z hz; split <;> omega
theorem minL_some : ∀ {r : List Int}, r ≠ [] → ∃ m, minL r = some m ∧ m ∈ r ∧ ∀ y ∈ r, m ≤ y
  | [], h => absurd rfl h
  | [x], _ => ⟨x, rfl, by simp, fun y hy => by simp at hy; omega⟩
  | x :: y :: r, _ => by
    obtain ⟨m, h1, h2, h3⟩ := minL_some (r := y :: r) (by simp)
    refine ⟨if m < x then m else x, by rw [minL, h1], ?_, fun z hz => ?_⟩
    · split
      · exact List.mem_cons_of_mem _ h2
      · exact List.mem_cons_self
    · rcases List.mem_cons.mp hz with rfl | hz
      · split <;> omega
      · have := h3 z hz; split <;> omega
def vMax : List Val → Option SV
  | [.lst xs] => ((intsOf xs).bind maxL).map fun m => .v (.int m)
  | [.int i, .int j] => some (.v (.int (if j > i then j else i)))
  | _ => none
def vMin : List Val → Option SV
  | [.lst xs] => ((intsOf xs).bind minL).map fun m => .v (.int m)
  | [.int i, .int j] => some (.v (.int (if j < i then j else i)))
  | _ => none
theorem CallR.or {f : Value} {r r' : List V → Hp → VK → Prop} (h : CallR X f r) (h' : CallR X f r') : CallR X f (fun x H Q => r x H Q ∨ r' x H Q) := fun pins s σ H xs us Q I r q => by
  rcases q with q | q
  · exact h pins s σ H xs us Q I r q
  · exact h' pins s σ H xs us Q I r q
theorem cb_max (hc : X.calm = true) : CallR X (.builtin "max") (RLm (gx L X) vMax) := by
  refine CallR.weak (CallR.or (cr_max hc) (call_max2 hc)) fun vs H Q ⟨ρ, P, st, as, rs, nl, p⟩ => ?_
  unfold vMax at p
  split at p
  · rename_i xs
    obtain ⟨v, rfl, nx⟩ := nl.one
    obtain ⟨a, us, rfl, h, r⟩ := nx.lstOf
    cases e : intsOf xs with
    | none => rw [e] at p; exact p.elim
    | some bs =>
      rw [e] at p
      have := r.ints e
      subst this
      by_cases hb : bs = []
      · subst hb; exact p.elim
      · obtain ⟨m, h1, h2, h3⟩ := maxL_some hb
        refine .inl ⟨a, bs, rfl, .inl (.inl h), List.length_pos_iff.mpr hb, fun m' h4 h5 => ?_⟩
        have : m' = m := Int.le_antisymm (h3 m' h4) (h5 m h2)
        subst this
        simp only [Option.bind_some, h1, Option.map_some] at p
        exact p.val rs (.int _)
  · rename_i i j
    obtain ⟨v, u, rfl, nx, ny⟩ := nl.two
    obtain rfl := nx.intOf
    obtain rfl := ny.intOf
    exact .inr ⟨i, j, rfl, p.val rs (.int _)⟩
  · exact p.elim
theorem cb_min (hc : X.calm = true) : CallR X (.builtin "min") (RLm (gx L X) vMin) := by
  refine CallR.weak (CallR.or (cr_min hc) (call_min2 hc)) fun vs H Q ⟨ρ, P, st, as, rs, nl, p⟩ => ?_
  unfold vMin at p
  split at p
  · rename_i xs
    obtain ⟨v, rfl, nx⟩ := nl.one
    obtain ⟨a, us, rfl, h, r⟩ := nx.lstOf
    cases e : intsOf xs with
    | none => rw [e] at p; exact p.elim
    | some bs =>
      rw [e] at p
      have := r.ints e
      subst this
      by_cases hb : bs = []
      · subst hb; exact p.elim
      · obtain ⟨m, h1, h2, h3⟩ := minL_some hb
        refine .inl ⟨a, bs, rfl, .inl (.inl h), List.length_pos_iff.mpr hb, fun m' h4 h5 => ?_⟩
        have : m' = m := Int.le_antisymm (h5 m h2) (h3 m' h4)
        subst this
        simp only [Option.bind_some, h1, Option.map_some] at p
        exact p.val rs (.int _)
  · rename_i i j
    obtain ⟨v, u, rfl, nx, ny⟩ := nl.two
    obtain rfl := nx.intOf
    obtain rfl := ny.intOf
    exact .inr ⟨i, j, rfl, p.val rs (.int _)⟩
  · exact p.elim
/-- sorted: a list of texts, a list of ints, a dict's keys that are texts -/
def vSort : List Val → Option SV
  | [.lst xs] => match strsOf xs with
    | some ys => if ys.length < 64 then some (.fl ((sortS ys).map .str)) else none
    | none => (intsOf xs).map fun ys => .fl ((sortI ys).map .int)
  | [.dic false kvs] => match strsOf (kvs.map (·.1)) with
    | some ys => if ys.length < 64 then some (.fl ((sortS ys).map .str)) else none
    | none => none
  | _ => none
theorem ys_of {ys : List Str} {xs : List (List Nat)} (h : ys.Perm (xs.map toS)) (hs : sortedS ys = true) : ys = (sortS xs).map toS := by
  let zs := ys.map fun y => y.cps.toList
  have e : ys = zs.map toS := by
    show ys = (ys.map fun y => y.cps.toList).map toS
    rw [List.map_map]
    exact (List.map_id _).symm.trans (List.map_congr_left fun y _ => by show y = toS y.cps.toList; simp [toS])
  have hp : zs.Perm xs := by
    have := h.map fun y : Str => y.cps.toList
    rw [List.map_map] at this
    have e2 : xs.map ((fun y : Str => y.cps.toList) ∘ toS) = xs := by
      conv => rhs; rw [← List.map_id xs]
      exact List.map_congr_left fun y _ => by simp [Function.comp]
    rw [e2] at this
    exact this
  rw [e] at hs
  rw [e, sortS_uniq hp (sorted_pair zs hs)]
theorem RepK.keys {G : Gc} {H : Hp} {T : Ts} : ∀ {kvs : List (Val × Val)} {ks : List (Key × V)} {ys : List (List Nat)}, RepK G H T kvs ks → strsOf (kvs.map (·.1)) = some ys → ks.map (·.1) = (ys.map toS).map Sum.inr ∧ ∀ b ∈ ys, SOk b = true
  | _, _, _, .nil, e => by cases e; exact ⟨rfl, fun _ h => by cases h⟩
  | (x, y) :: kvs, (k, v) :: ks, ys, .cons hk rx _ t, e => by
    simp only [List.map_cons, strsOf] at e
    split at e
    · rename_i b cs e2
      cases e
      simp only [keyOf] at hk
      cases hk
      obtain ⟨h1, h2⟩ := RepK.keys t e2
      refine ⟨by rw [List.map_cons, h1]; rfl, fun c hc => ?_⟩
      rcases List.mem_cons.mp hc with rfl | hc
      · cases rx; assumption
      · exact h2 c hc
    · cases e
theorem cb_sorted (hc : X.calm = true) : CallR X (.builtin "sorted") (RLm (gx L X) vSort) := by
  refine CallR.weak (CallR.or cr_sortedS (CallR.or cr_sortedI (call_sortedD hc))) fun vs H Q ⟨ρ, P, st, as, rs, nl, p⟩ => ?_
  unfold vSort at p
  split at p
  · rename_i xs
    obtain ⟨v, rfl, nx⟩ := nl.one
    obtain ⟨a, us, rfl, h, r⟩ := nx.lstOf
    split at p
    · rename_i ys e
      split at p
      · rename_i hl
        obtain ⟨e1, e2⟩ := r.strs e
        subst e1
        refine .inl ⟨a, ys.map toS, rfl, .inl (.inl h), by simpa using hl, fun zs q h1 h2 hq => ?_⟩
        rw [ys_of h1 h2]
        exact p.lst rs hq (RepVs.ofStrs _ fun b hb => e2 b ((sortS_perm ys).mem_iff.mp hb))
      · exact p.elim
    · cases e : intsOf xs with
      | none => rw [e] at p; exact p.elim
      | some ys =>
        rw [e] at p
        have := r.ints e
        subst this
        refine .inr (.inl ⟨a, ys, rfl, .inl (.inl h), fun zs q h1 h2 hq => ?_⟩)
        rw [sortI_uniq h1 h2]
        exact p.lst rs hq (RepVs.ofInts _)
  · rename_i kvs
    obtain ⟨v, rfl, nx⟩ := nl.one
    split at p
    · rename_i ys e
      split at p
      · rename_i hl
        have fin : ∀ {b : Addr} {ks : List (Key × V)}, Rd H b (.dK ks) → RepK (gx L X) H (TP P ρ) kvs ks → ∃ (a : Addr) (kvs : List (Key × V)) (ks : List Str), [V.ref b] = [V.ref a] ∧ Rd H a (.dK kvs) ∧ kvs.map (·.1) = ks.map Sum.inr ∧ ks.length < 64 ∧
            ∀ ys p, ys.Perm ks → sortedS ys = true → H p = none → Q (.ref p) (upd H p (.lst (ys.map V.str))) := fun {b ks} hb rk => by
          obtain ⟨e1, e2⟩ := rk.keys e
          refine ⟨b, ks, ys.map toS, rfl, hb, e1, by simpa using hl, fun zs q h1 h2 hq => ?_⟩
          rw [ys_of h1 h2]
          exact p.lst rs hq (RepVs.ofStrs _ fun b hb => e2 b ((sortS_perm ys).mem_iff.mp hb))
        cases nx with
        | rep r => cases r with | dicK h _ r => exact .inr (.inr (fin h r))
        | dicK h r => exact .inr (.inr (fin (.inl h) r))
      · exact p.elim
    · exact p.elim
  · exact p.elim
end
/-! ### ''.join, 'abcd'.index -/
def joinL (a : List Nat) : List (List Nat) → List Nat
  | [] => []
  | y :: r => y ++ (r.map fun p => a ++ p).flatten
theorem join_toS (a : List Nat) (ys : List (List Nat)) : Txt.join (toS a) (ys.map toS) = toS (joinL a ys) := by
  have key : ∀ (r : List (List Nat)) (acc : List Nat), (r.map toS).foldl (fun acc p => acc ++ (toS a).cps ++ p.cps) acc.toArray = (acc ++ (r.map fun p => a ++ p).flatten).toArray := by
    intro r
    induction r with
    | nil => intro acc; simp
    | cons y r ih =>
      intro acc
      rw [List.map_cons, List.foldl_cons, List.map_cons, List.flatten_cons]
      have e : acc.toArray ++ (toS a).cps ++ (toS y).cps = (acc ++ a ++ y).toArray := by simp
      rw [e, ih]
      simp
  unfold Txt.join Builtin.Str.glued
  cases ys with
  | nil => rfl
  | cons y r =>
    show (⟨(r.map toS).foldl (fun acc p => acc ++ (toS a).cps ++ p.cps) y.toArray⟩ : Str) = _
    rw [key]; rfl
def vJoin : Val → List Val → Option SV
  | .str a, [.lst xs] => match strsOf xs with
    | some ys => if (decide (ys.length ≤ 1000) && (decide (a.length ≤ 1000) && SOk (joinL a ys))) = true then some (.v (.str (joinL a ys))) else none
    | none => none
  | .str a, [.tup xs] => match strsOf xs with
    | some ys => if (decide (ys.length ≤ 1000) && (decide (a.length ≤ 1000) && SOk (joinL a ys))) = true then some (.v (.str (joinL a ys))) else none
    | none => none
  | _, _ => none
def vSIndex : Val → List Val → Option SV
  | .str a, [.str [c]] => if (a == [97, 98, 99, 100]) = true then (if (decide (97 ≤ c) && decide (c ≤ 100)) = true then some (.v (.int ((c - 97 : Nat) : Int))) else none) else none
  | _, _ => none
theorem sum_len (ys : List (List Nat)) : ((ys.map toS).map (·.length)).sum = (ys.map List.length).sum := by
  rw [List.map_map]; congr 1
theorem joinL_len (a : List Nat) : ∀ ys : List (List Nat), (ys.map List.length).sum ≤ (joinL a ys).length
  | [] => by simp [joinL]
  | y :: r => by
    have : ∀ r : List (List Nat), (r.map List.length).sum ≤ ((r.map fun p => a ++ p).flatten).length := fun r => by
      induction r with
      | nil => simp
      | cons z r ih => simp only [List.map_cons, List.sum_cons, List.flatten_cons, List.length_append]; omega
    have := this r
    simp only [joinL, List.map_cons, List.sum_cons, List.length_append]; omega
theorem occ_abcd : ∀ c : Nat, 97 ≤ c → c ≤ 100 → Builtin.Str.occurrences (toS [97, 98, 99, 100]) (toS [c]) 0 (toS [97, 98, 99, 100]).length 1 = [c - 97] := by
  intro c h1 h2
  have : c = 97 ∨ c = 98 ∨ c = 99 ∨ c = 100 := by omega
  rcases this with rfl | rfl | rfl | rfl <;> decide +kernel
section
variable {X : Cx} {L : Lx} {W : WX} {pos apos : Pos} {e o : Expr} {es : List Expr} {fa : Env → Sto → Rv (List SV)} {fo : Fe}
theorem join_ok {a : List Nat} {ys : List (List Nat)} (h1 : ys.length ≤ 1000) (h2 : a.length ≤ 1000) (h3 : SOk (joinL a ys) = true) : ((ys.map toS).map (·.length)).sum + (ys.map toS).length * (toS a).length ≤ 16777216 := by
  rw [sum_len, List.length_map]
  have := sok_len h3
  have := joinL_len a ys
  have h4 : ys.length * (toS a).length ≤ 1000 * 1000 := Nat.mul_le_mul h1 (by simpa [Str.length] using h2)
  omega
theorem mj_w : ∀ x xs H Q, RMm (gx L X) vJoin x xs H Q → (fun x xs H Q => ∃ a p, ∃ ys : List Str, x = .str a ∧ xs = [.ref p] ∧ (SqL X.K H p (ys.map V.str) ∨ SqT X.K H p (ys.map V.str)) ∧
    (ys.map (·.length)).sum + ys.length * a.length ≤ 16777216 ∧ Q (.str (Txt.join a ys)) H : V → List V → Hp → VK → Prop) x xs H Q := by
  intro x xs H Q ⟨ρ, P, st, a, as, rs, na, nl, p⟩
  unfold vJoin at p
  split at p
  · rename_i a xs
    obtain ⟨ex, sx⟩ := na.strOf
    obtain ⟨v, rfl, nx⟩ := nl.one
    obtain ⟨b, us, rfl, h, r⟩ := nx.lstOf
    split at p
    · rename_i ys e
      split at p
      · rename_i hl
        simp only [Bool.and_eq_true, decide_eq_true_eq] at hl
        obtain ⟨e1, e2⟩ := r.strs e
        subst e1
        exact ⟨toS a, b, ys.map toS, ex, rfl, .inl (.inl (.inl h)), join_ok hl.1 hl.2.1 hl.2.2, by rw [join_toS]; exact p.val rs (.str _ hl.2.2)⟩
      · exact p.elim
    · exact p.elim
  · rename_i a xs
    obtain ⟨ex, sx⟩ := na.strOf
    obtain ⟨v, rfl, nx⟩ := nl.one
    obtain ⟨b, us, rfl, h, r⟩ := nx.tupOf
    split at p
    · rename_i ys e
      split at p
      · rename_i hl
        simp only [Bool.and_eq_true, decide_eq_true_eq] at hl
        obtain ⟨e1, e2⟩ := r.strs e
        subst e1
        exact ⟨toS a, b, ys.map toS, ex, rfl, .inr (h.sq), join_ok hl.1 hl.2.1 hl.2.2, by rw [join_toS]; exact p.val rs (.str _ hl.2.2)⟩
      · exact p.elim
    · exact p.elim
  · exact p.elim
theorem mi_w : ∀ x xs H Q, RMm (gx L X) vSIndex x xs H Q → (fun x xs H Q => ∃ a b i rest, x = .str a ∧ xs = [.str b] ∧ Builtin.Str.occurrences a b 0 a.length 1 = i :: rest ∧ Q (.int (i : Nat)) H : V → List V → Hp → VK → Prop) x xs H Q := by
  intro x xs H Q ⟨ρ, P, st, a, as, rs, na, nl, p⟩
  unfold vSIndex at p
  split at p
  · rename_i a c
    obtain ⟨ex, sx⟩ := na.strOf
    obtain ⟨v, rfl, nx⟩ := nl.one
    obtain ⟨rfl, sc⟩ := nx.strOf
    split at p
    · rename_i ha
      obtain rfl := eq_of_beq ha
      split at p
      · rename_i hl
        simp only [Bool.and_eq_true, decide_eq_true_eq] at hl
        exact ⟨_, _, c - 97, [], ex, rfl, occ_abcd c hl.1 hl.2, p.val rs (.int _)⟩
      · exact p.elim
    · exact p.elim
  · exact p.elim
theorem ee_join (ho : EE L X W o fo) (ha : EA L X W [e] fa) (hbase : attributeBase o "join" X.env (eval o X.env) = eval o X.env := by rfl)
    (hfew : ((backTo pos (starEach [e] X.env)).all (fun x => !x.1) && (backToKw pos (keywordEach [] X.env)).all (fun x => x.1.isSome)
      && decide ([e].length + ([] : List Keyword).length + (if ([] : List Keyword).isEmpty then 0 else 1) < 30)) = true := by rfl)
    (hline : (apos.endLine == pos.line) = true := by rfl) (hs : starEach [e] X.env = (false, eval e X.env) :: starEach [] X.env := by rfl) :
    EE L X W (.Call (.Attribute o "join" apos) [e] [] pos) (eM "str" vJoin fo fa) := ee_bm F.plainAttrs_str F.slot_str_join F.type_str_join mt_join mj_w ho ha hbase hfew hline hs
theorem ee_sindex (ho : EE L X W o fo) (ha : EA L X W [e] fa) (hbase : attributeBase o "index" X.env (eval o X.env) = eval o X.env := by rfl)
    (hfew : ((backTo pos (starEach [e] X.env)).all (fun x => !x.1) && (backToKw pos (keywordEach [] X.env)).all (fun x => x.1.isSome)
      && decide ([e].length + ([] : List Keyword).length + (if ([] : List Keyword).isEmpty then 0 else 1) < 30)) = true := by rfl)
    (hline : (apos.endLine == pos.line) = true := by rfl) (hs : starEach [e] X.env = (false, eval e X.env) :: starEach [] X.env := by rfl) :
    EE L X W (.Call (.Attribute o "index" apos) [e] [] pos) (eM "str" vSIndex fo fa) := ee_bm F.plainAttrs_str F.slot_str_index F.type_str_index mt_sindex mi_w ho ha hbase hfew hline hs
end
/-! ### displays -/
def frzAll : List SV → Option (List Val)
  | [] => some []
  | z :: zs => match z, frzAll zs with
    | .v x, some xs => some (x :: xs)
    | _, _ => none
def eTup (fa : Env → Sto → Rv (List SV)) : Fe := fun env st => (fa env st).bind fun zs st1 => if zs.length ≤ 1000000 then outO ((frzAll zs).map fun xs => .v (.tup xs)) st1 else .bad
def eLst (fa : Env → Sto → Rv (List SV)) : Fe := fun env st => (fa env st).bind fun zs st1 => if zs.length ≤ 1000000 then outO ((frzAll zs).map fun xs => .fl xs) st1 else .bad
def eDic (t : Bool) : Fe := fun _ st => .ok (.fd t []) st
section
variable {X : Cx} {L : Lx} {W : WX} {pos : Pos} {es : List Expr} {fa : Env → Sto → Rv (List SV)}
theorem RepZs.frz {G : Gc} {H : Hp} {P : Ts} {ρ : Rho} : ∀ {zs : List SV} {vs : List V} {xs : List Val}, RepZs G H P ρ zs vs → frzAll zs = some xs → RepVs G H (TP P ρ) xs vs
  | _, _, _, .nil, e => by cases e; exact .nil
  | z :: zs, _, xs, .cons r t, e => by
    simp only [frzAll] at e
    split at e
    · rename_i x ys e2
      cases e
      cases r with
      | v r => exact .cons r (RepZs.frz t e2)
    · cases e
def tTupB (tn : Bool) (t : TA) : TE := fun σ H Q => t σ H fun xs H1 => xs.length ≤ sizeLine ∧ ∀ (p : Addr) (o : Obj), H1 p = none → o.dict = none → Q (.ref p) (upd H1 p (tpO tn o xs))
theorem pe_tupB (tn : Bool) {es : List Expr} {t : TA} {x1} {pos : Pos} (h : PA X es t) : PE X (.Tuple es x1 pos) (tTupB tn t) :=
  ⟨fun pins s σ H Q I hq => wpAny_Tuple_spliced (thn (h.run pos pins s σ H _ I hq) fun us s1 ⟨xs, H1, I1, r, z, q⟩ => ⟨by have := r.length; omega, .ref _, _, laid_tup I1 z r tn, rfl, q _ _ (I1.hok.fresh (Nat.le_refl _)) rfl⟩)⟩
theorem ee_tup {x1} (ha : EA L X W es fa) : EE L X W (.Tuple es x1 pos) (eTup fa) := by
  refine PE.weak (pe_tupB L.tn ha) fun σ H Q ⟨env, st, ρ, P, re, rs, p⟩ => ⟨env, st, ρ, P, re, rs, PostA.then p fun zs st1 vs H1 k rs1 rz p => ?_⟩
  split at p
  · rename_i hl
    have p := POp.of p
    cases h : frzAll zs with
    | none => rw [h] at p; exact p.elim
    | some xs =>
      rw [h] at p
      have := line1
      refine ⟨by rw [← rz.len]; omega, fun q o hq ho => p.tup rs1 hq ho (rz.frz h)⟩
  · exact p.elim
theorem ee_lst (ha : EA L X W es fa) : EE L X W (.List es pos) (eLst fa) := by
  refine PE.weak (pe_lst ha) fun σ H Q ⟨env, st, ρ, P, re, rs, p⟩ => ⟨env, st, ρ, P, re, rs, PostA.then p fun zs st1 vs H1 k rs1 rz p => ?_⟩
  split at p
  · rename_i hl
    have p := POp.of p
    cases h : frzAll zs with
    | none => rw [h] at p; exact p.elim
    | some xs =>
      rw [h] at p
      have := line1
      refine ⟨by rw [← rz.len]; omega, fun q hq => p.lst rs1 hq (rz.frz h)⟩
  · exact p.elim
theorem ee_dnewK : EE L X W (.Dict [] [] pos) (eDic false) :=
  PE.weak pe_dnewK fun σ H Q ⟨env, st, ρ, P, re, rs, p⟩ q hq =>
    p _ _ (kp_new hq) (rs.fresh hq) (.fdK upd_same (.inl hq) .nil (rs.freshP hq ⟨by intros; simp, by intros; simp, by intros; simp, by intros; simp⟩) fun t => rs.ntr hq (.inl t))
theorem ee_dnewT (htn : L.tn = false) : EE L X W (.Dict [] [] pos) (eDic true) :=
  PE.weak pe_dnewT fun σ H Q ⟨env, st, ρ, P, re, rs, p⟩ q hq =>
    p _ _ (kp_new hq) (rs.fresh hq) (.fdT upd_same (.inl hq) (.nil htn) (rs.freshP hq ⟨by intros; simp, by intros; simp, by intros; simp, by intros; simp⟩) fun t => rs.ntr hq (.inl t))
end
/-! ### stores -/
def oSet : SO → Val → Val → Option SO
  | .lst xs, .int k, y => (ixN xs.length k).map fun j => .lst (xs.set j y)
  | .dic t kvs, x, y => if (keyIs t x && decide (kvs.length < 1000000)) = true then some (.dic t (dPut kvs x y)) else none
  | _, _, _ => none
section
variable {X : Cx} {L : Lx}
def rSetO (o : V) (i : V) (v : V) (H : Hp) (Q : Hp → Prop) : Prop := rSetL o i v H Q ∨ rSetD o i v H Q
theorem set_o (hu : X.A.units + 1 < cLine) : PSet X rSetO := fun pins s σ H o i v ov iv u Q I ro ri rv h => by
  rcases h with h | h
  · exact set_list pins s σ H o i v ov iv u Q I ro ri rv h
  · exact set_dict hu pins s σ H o i v ov iv u Q I ro ri rv h
theorem RepVs.set {G : Gc} {H : Hp} {T : Ts} {y : Val} {v : V} (r : RepV G H T y v) : ∀ {xs : List Val} {vs : List V} (j : Nat), RepVs G H T xs vs → RepVs G H T (xs.set j y) (vs.set j v)
  | _, _, _, .nil => .nil
  | _, _, 0, .cons _ t => .cons r t
  | _, _, j + 1, .cons q t => .cons q (RepVs.set r j t)
theorem setm_o : SetM X (gx L X) rSetO oSet := by
  intro H P ρ st l a so so' y z k x Q rs hl hs nk rx ho q
  obtain ⟨o1, e1, ro⟩ := rs.obj l a hl
  rw [hs] at e1; cases e1
  have kw : ∀ {o : HO}, (∀ ps, o ≠ .tbl ps) → Kp (TP P ρ) H (TP P ρ) (upd H a o) := fun {o} t => kp_write (.inr (tr_at hl)) t
  have kw' : ∀ {o : HO}, (∀ ps, o ≠ .tbl ps) → Kp (Tr ρ) H (Tr ρ) (upd H a o) := fun {o} t => kp_write (tr_at hl) t
  have hz := line1
  cases ro with
  | lst h r =>
    cases k with
    | int i =>
      simp only [oSet] at ho
      cases e : ixN _ i with
      | none => rw [e] at ho; cases ho
      | some j =>
        rw [e] at ho; cases ho
        obtain rfl := nk.intOf
        refine .inl ⟨a, _, i, j, rfl, rfl, h, by rw [← r.len]; exact e, q _ (kw' (by intros; simp)) (rs.write hl (.lst upd_same ((r.set rx j).ext (kw (by intros; simp)) rs.nt)))⟩
    | _ => cases ho
  | @dicK kvs ks _ h r =>
    simp only [oSet] at ho
    split at ho
    · rename_i hk
      cases ho
      simp only [Bool.and_eq_true, decide_eq_true_eq] at hk
      obtain ⟨hk, hn⟩ := hk
      cases hkk : keyOf k with
      | none => cases k <;> simp [keyIs, keyOf] at hk hkk
      | some kk =>
        obtain ⟨rfl, rk⟩ := keyOf_V hkk nk
        refine .inr ⟨a, _, rfl, DPut.k (k := kk) h (by rw [← r.len]; omega), q _ (kw' (by intros; simp)) (rs.write hl (.dicK upd_same ((repK_put hkk rk rx r).ext (kw (by intros; simp)) rs.nt)))⟩
    · cases ho
  | @dicT kvs ks _ h r =>
    simp only [oSet] at ho
    split at ho
    · rename_i hk
      cases ho
      simp only [Bool.and_eq_true, decide_eq_true_eq] at hk
      obtain ⟨hk, hn⟩ := hk
      cases k with
      | tup xs =>
        simp only [keyIs, Bool.true_and] at hk
        obtain ⟨kk, hkk⟩ := Option.isSome_iff_exists.mp hk
        obtain ⟨b, us, rfl, hb, rv⟩ := nk.tupOf
        obtain rfl := keysOf_V hkk rv
        refine .inr ⟨a, _, rfl, DPut.t (k := kk) h (hb.off r.off) (by rw [← r.len]; omega), q _ (kw' (by intros; simp)) (rs.write hl (.dicT upd_same ((repT_put hkk rv rx r).ext (kw (by intros; simp)) rs.nt)))⟩
      | _ => simp [keyIs] at hk
    · cases ho
end
end Eng

namespace Eng
open PySem PySem.Spec PyProof.Rows L2

def iAnyF (fa : Fe) : Fi := fun env st => (fa env st).bind fun z st1 => match z with
  | .v (.tup xs) => .ok (.seq xs) st1
  | .v (.str s) => .ok (.seq (s.map fun c => .str [c])) st1
  | .v (.lst xs) => .ok (.seq xs) st1
  | .fl xs => .ok (.seq xs) st1
  | .loc l => (match st1[l]? with
    | some (.lst _) => .ok (.cell l) st1
    | _ => .bad)
  | _ => .bad
def zipK (zs : List SV) (st1 : Sto) : Rv Src := match zs with
  | [.v (.tup xs), .v (.tup ys)] => .ok (.seq (zipV xs ys)) st1
  | [.v (.lst xs), .v (.lst ys)] => .ok (.seq (zipV xs ys)) st1
  | _ => .bad
def iZipF (fa : Env → Sto → Rv (List SV)) : Fi := fun env st => (fa env st).bind zipK
def zipKQ (tn : Bool) (zs : List SV) (st1 : Sto) : Rv Src := match zs with
  | [.v (.tup xs), .v (.tup ys)] => .ok (.seq (zipQ tn xs ys)) st1
  | [.v (.lst xs), .v (.lst ys)] => .ok (.seq (zipQ tn xs ys)) st1
  | _ => .bad
def iZipQ (tn : Bool) (fa : Env → Sto → Rv (List SV)) : Fi := fun env st => (fa env st).bind (zipKQ tn)
theorem iZipQ_off (fa : Env → Sto → Rv (List SV)) : iZipQ false fa = iZipF fa := by
  funext env st
  unfold iZipQ iZipF
  congr 1
  funext zs st1
  unfold zipKQ zipK
  simp only [zipQ_off]
def ALen (fa : Env → Sto → Rv (List SV)) (k : Nat) : Prop := ∀ env st zs st', fa env st = .ok zs st' → zs.length = k
theorem alen_nil : ALen aNil 0 := fun env st zs st' h => by cases h; rfl
theorem alen_cons {k : Nat} {fa : Fe} {fr : Env → Sto → Rv (List SV)} (h : ALen fr k) : ALen (aCons fa fr) (k + 1) := fun env st zs st' e => by
  unfold aCons at e
  cases h1 : fa env st with
  | bad => rw [h1] at e; cases e
  | exc _ _ => rw [h1] at e; cases e
  | ok z s =>
    rw [h1] at e
    have e : ((fr env s).bind fun xs st2 => .ok (z.froz :: xs) st2) = .ok zs st' := e
    cases h2 : fr env s with
    | bad => rw [h2] at e; cases e
    | exc _ _ => rw [h2] at e; cases e
    | ok zs' s' => rw [h2] at e; cases e; exact congrArg (· + 1) (h _ _ _ _ h2)
section
variable {L : Lx} {X : Cx} {W : WX} {tg a b c e : Expr} {fa fb fc : Fe} {fr : Env → Sto → Rv (List SV)} {pos p : Pos} {x : Str} {n : Nat} {s : List Stmt} {B : List Nat}
theorem PI.or {t t' : TI} (h : PI X tg e t) (h' : PI X tg e t') : PI X tg e (fun σ H R => t σ H R ∨ t' σ H R) := ⟨fun pins s σ H Q I q => by
  rcases q with q | q
  · exact h.run pins s σ H Q I q
  · exact h'.run pins s σ H Q I q⟩
theorem ei_any (ha : EE L X W e fa) : EI L X W tg e (iAnyF fa) := by
  refine PI.weak (PI.or (ei_tup ha) (PI.or (ei_str ha) (ei_lst ha))) fun σ H R ⟨env, st, ρ, P, re, rs, p⟩ => ?_
  cases h : fa env st with
  | bad => unfold iAnyF at p; rw [h] at p; exact p.elim
  | exc ex s => exact .inl ⟨env, st, ρ, P, re, rs, by unfold iAnyF at p; rw [h] at p; unfold iTupF; rw [h]; exact p⟩
  | ok z st1 =>
    cases z with
    | loc l => exact .inr (.inr ⟨env, st, ρ, P, re, rs, by unfold iAnyF at p; rw [h] at p; unfold iLstF; rw [h]; exact p⟩)
    | fl xs => exact .inr (.inr ⟨env, st, ρ, P, re, rs, by unfold iAnyF at p; rw [h] at p; unfold iLstF; rw [h]; exact p⟩)
    | fd _ _ => unfold iAnyF at p; rw [h] at p; exact p.elim
    | v x =>
      cases x with
      | tup xs => exact .inl ⟨env, st, ρ, P, re, rs, by unfold iAnyF at p; rw [h] at p; unfold iTupF; rw [h]; exact p⟩
      | str xs => exact .inr (.inl ⟨env, st, ρ, P, re, rs, by unfold iAnyF at p; rw [h] at p; unfold iStrF; rw [h]; exact p⟩)
      | lst xs => exact .inr (.inr ⟨env, st, ρ, P, re, rs, by unfold iAnyF at p; rw [h] at p; unfold iLstF; rw [h]; exact p⟩)
      | _ => unfold iAnyF at p; rw [h] at p; exact p.elim
theorem ei_zipQ {elts : List Expr} {kk : Nat} {tpos : Pos} (hg : Gl X "zip") (hm : X.mg "zip" = none) (ha : EA L X W [a, b] fr) (hs : starEach [a, b] X.env = (false, eval a X.env) :: starEach [b] X.env := by rfl) (hpl : (backTo pos (starEach [b] X.env)).any (·.1) = false := by rfl) : EI L X W (.Tuple elts kk tpos) (.Call (.Name "zip" p) [a, b] [] pos) (iZipQ L.tn fr) := by
  refine PI.weak (PI.or (ei_zipT hg hm ha hs hpl) (ei_zipL hg hm ha hs hpl)) fun σ H R ⟨env, st, ρ, P, re, rs, p⟩ => ?_
  unfold iZipQ at p
  cases h : fr env st with
  | bad => rw [h] at p; exact p.elim
  | exc ex s => exact .inl ⟨env, st, ρ, P, re, rs, by rw [h] at p; unfold iZipTF; rw [h]; exact p⟩
  | ok zs st1 =>
    rw [h] at p
    have p : PostI (gx L X) W σ P ρ H (zipKQ L.tn zs st1) R := p
    unfold zipKQ at p
    split at p
    · exact .inl ⟨env, st, ρ, P, re, rs, by unfold iZipTF; rename_i h _ _ _ _; rw [h]; exact p⟩
    · exact .inr ⟨env, st, ρ, P, re, rs, by unfold iZipLF; rename_i h _ _ _ _; rw [h]; exact p⟩
    · exact p.elim
theorem ei_zip (htn : L.tn = false) {elts : List Expr} {kk : Nat} {tpos : Pos} (hg : Gl X "zip") (hm : X.mg "zip" = none) (ha : EA L X W [a, b] fr) (hs : starEach [a, b] X.env = (false, eval a X.env) :: starEach [b] X.env := by rfl) (hpl : (backTo pos (starEach [b] X.env)).any (·.1) = false := by rfl) : EI L X W (.Tuple elts kk tpos) (.Call (.Name "zip" p) [a, b] [] pos) (iZipF fr) := by
  have h := ei_zipQ (elts := elts) (kk := kk) (tpos := tpos) (p := p) hg hm ha hs hpl
  rw [htn, iZipQ_off] at h
  exact h
theorem ei_zipP (htn : L.tn = true) {elts : List Expr} {kk : Nat} {tpos : Pos} (hg : Gl X "zip") (hm : X.mg "zip" = none) (ha : EA L X W [a, b] fr) (hs : starEach [a, b] X.env = (false, eval a X.env) :: starEach [b] X.env := by rfl) (hpl : (backTo pos (starEach [b] X.env)).any (·.1) = false := by rfl) : EI L X W (.Tuple elts kk tpos) (.Call (.Name "zip" p) [a, b] [] pos) (iZipQ true fr) := by
  have h := ei_zipQ (elts := elts) (kk := kk) (tpos := tpos) (p := p) hg hm ha hs hpl
  rw [htn] at h
  exact h
/-- a module's number, text -/
theorem ee_gi (i : Int) (hg : Gl X x) (hm : ∃ u, X.mg x = some u ∧ RelV (.int i) u) (hd : (x == ("__debug__" : Str)) = false := by decide) : EE L X W (.Name x pos) (eC (.int i)) := by
  obtain ⟨u, h1, h2⟩ := hm
  exact ee_gint i hg h1 h2 hd
theorem ee_gs (l : List Nat) (hg : Gl X x) (hm : ∃ u, X.mg x = some u ∧ RelV (.str (toS l)) u) (hl : SOk l = true := by rfl) (hd : (x == ("__debug__" : Str)) = false := by decide) : EE L X W (.Name x pos) (eC (.str l)) := by
  obtain ⟨u, h1, h2⟩ := hm
  exact ee_gstr l hg h1 h2 hl hd
/-- never reached -/
theorem ess_bad : ESs L X W B n s sBad := ⟨fun pins s σ H D I h => by
  obtain ⟨env, st, ρ, P, re, rs, p⟩ := h
  exact p.elim⟩
end
end Eng

namespace Eng
open PySem PySem.Spec PyProof.Rows L2

/-! ### enumerate(a tuple), enumerate(a text) -/
set_option maxHeartbeats 1000000 in
theorem meets_enum1 {src : Value} {cell : Obj} {Cond : Heap → Prop} (B : Begins src cell Cond) :
    Meets (Builtin.«enumerate.__new__» ⟨[.type "enumerate", src], []⟩) (fun _ R s => Cond s.heap ∧
      R (.ok (.ret (.ref (s.heap.push cell).objs.size))) { s with heap := (s.heap.push cell).push { cls := .type "enumerate", data := .fields #[.none, .bool false, .ref s.heap.objs.size, rawInt 0, .none, .none] } }) :=
  .of_wp fun prog w A R s hh => by
    obtain ⟨hp, g, d, tk, os⟩ := s
    obtain ⟨hC, hR⟩ := hh
    have hsub := sub_enumerate
    have go : ∀ {A' : Around} {E : Value → Shared → Prop} {Q : Value → Shared → Prop}, Q (.ref hp.objs.size) ⟨hp.push cell, g, d, tk, os⟩ → wpAny (model prog w) A' (pyIter src) Q E ⟨hp, g, d, tk, os⟩ := fun q =>
      B.iter prog w _ _ ⟨hp, g, d, tk, os⟩ _ hC q
    wp_walk using go
    refine wpAny_stack_any fun st => wpAny_pure ?_
    split
    · rename_i c _ _ _ _ _
      cases (c == Value.type "enumerate") <;> (wp_walk using go; exact ⟨_, rfl, hR⟩)
    · wp_walk using go
      exact ⟨_, rfl, hR⟩
theorem call_enum1 {prog : Program} {w : World} {A : Around} {E : Value → Shared → Prop} {s : Shared} {src : Value} {cell : Obj} {Cond : Heap → Prop} {Q : Value → Shared → Prop} (B : Begins src cell Cond) (hC : Cond s.heap)
    (hq : ∀ h', IsEnum h' (s.heap.objs.size + 1) s.heap.objs.size 0 .none → h'.get? s.heap.objs.size = some cell → (∀ b o, s.heap.get? b = some o → h'.get? b = some o) → Q (.ref (s.heap.objs.size + 1)) { s with heap := h' }) :
    wpAny (model prog w) A (call (.type "enumerate") [src]) Q E s := by
  refine callType_new F.called_enumerate (by decide) (F.typeCall_enumerate_1 _) (F.newCall_enumerate_1 _) (fun obj => F.args_object_init_2 obj _) F.entry_enumerate_new (meets_enum1 B) ⟨hC, ?_⟩
  have hz : (s.heap.push cell).objs.size = s.heap.objs.size + 1 := Heap.size_push ..
  show _ ∧ _
  rw [hz]
  have he : IsEnum ((s.heap.push cell).push { cls := .type "enumerate", data := .fields #[.none, .bool false, .ref s.heap.objs.size, rawInt 0, .none, .none] }) (s.heap.objs.size + 1) s.heap.objs.size 0 .none := by
    have q := Heap.get?_push_size (s.heap.push cell) (o := { cls := .type "enumerate", data := .fields #[.none, .bool false, .ref s.heap.objs.size, rawInt 0, .none, .none] }) rfl
    rw [hz] at q
    exact q
  exact ⟨⟨_, he, rfl⟩, hq _ he (Heap.get?_push_of_some _ (Heap.get?_push_size _ B.free)) fun b o x => Heap.get?_push_of_some _ (Heap.get?_push_of_some _ x)⟩
/-- the i-th of what x stands for -/
def NthOf (K : PySem.W.Frag) (H : Hp) (x : V) (i : Nat) (y : Option V) : Prop := match x with
  | .str z => y = (z.cps[i]?).map fun c => V.str ⟨#[c]⟩
  | .ref a => ∃ xs, SqT K H a xs ∧ y = xs[i]?
  | _ => False
def NthAll (K : PySem.W.Frag) (H : Hp) (x : V) (i : Nat) (y : V) : Prop := match x with
  | .str z => some y = (z.cps[i]?).map fun c => V.str ⟨#[c]⟩
  | .ref a => ∀ xs, SqT K H a xs → xs[i]? = some y
  | _ => False
def ItN (K : PySem.W.Frag) (x : V) : It :=
  ⟨fun i H => ∃ y, NthOf K H x i (some y),
    fun i H v H' => ∃ T y, v = .ref T ∧ H T = none ∧ H' = upd H T (.tup [.int (i : Nat), y]) ∧ NthAll K H x i y,
    fun i H => NthOf K H x i none⟩
/-- what draws, at the place i -/
def DrawAt (X : Cx) (it : Addr) (fp : List Addr) (Hold : Nat → Heap → Prop) (i : Nat) (y : Option V) (s : Shared) : Prop := match y with
  | some y => ∃ (n : Nat) (P : Nat → Value → Prop) (St : Nat → Heap → Prop), Draws X.prog X.w X.A.in1 it fp n P St ∧ St i s.heap ∧ i < n ∧ (∀ u, P i u → RelV y u) ∧ ∀ h, St (i + 1) h → Hold (i + 1) h
  | none => ∃ (P : Nat → Value → Prop) (St : Nat → Heap → Prop), Draws X.prog X.w X.A.in1 it fp i P St ∧ St i s.heap
theorem turn_enumN {P : Program} {w : World} {K : PySem.W.Frag} {elts : List Expr} {kk : Nat} {tpos : Pos} {x : V} {e it : Addr} {fp : List Addr} {Hold : Nat → Heap → Prop} (hef : e ∉ fp) (hei : e ≠ it)
    (hlive : ∀ i h, Hold i h → ∃ o, h.get? it = some o ∧ ∀ v, o.data ≠ .cell v) (hkeep : ∀ i h h', Hold i h → (∀ b o, b ≠ e → h.get? b = some o → h'.get? b = some o) → Hold i h') (hkit : ∀ i h h', Hold i h → (∀ o, h.get? it = some o → h'.get? it = some o) → Hold i h')
    (hd : ∀ (X : Cx), X.prog = P → X.w = w → X.K = K → X.calm = true → ∀ (i : Nat) (pins : List (Addr × Obj)) (s : Shared) (σ : L2.St) (H : Hp) (y : Option V), Inv X pins σ H s → Hold i s.heap → NthOf K H x i y → DrawAt X it fp Hold i y s) :
    Turn P w K (.Tuple elts kk tpos) (ItN K x) [e, it] e (fun i h => (∃ old, IsEnum h e it ((i : Nat) : Int) old) ∧ Hold i h) where
  mem := by simp
  obj := fun i h st b hb => by
    obtain ⟨⟨old, he⟩, ho⟩ := st
    rcases (by simpa using hb : b = e ∨ b = it) with z | z
    · subst z; exact ⟨_, he, fun v q => nomatch q⟩
    · subst z; exact hlive i h ho
  keep := fun i h h' st k => ⟨let ⟨⟨old, he⟩, _⟩ := st; ⟨old, k e (by simp) _ he⟩, hkit i h h' st.2 fun o q => k it (by simp) o q⟩
  item := by
    intro X hP hw hK hc i pins s σ H E I hf st hg
    have dr := hd X hP hw hK hc i pins s σ H
    subst hP hw hK
    obtain ⟨⟨old, he⟩, ho⟩ := st
    obtain ⟨y, hy⟩ := hg
    obtain ⟨n, Pr, St, D, hst, hlt, hrel, hnext⟩ := dr (some y) I ho hy
    have hel : e < s.heap.objs.size := Heap.lt_size he
    have hil : it < s.heap.objs.size := by obtain ⟨_, q, _⟩ := hlive _ _ ho; exact Heap.lt_size q
    refine wpAny_pyNext_enum_itemD D he hst hlt hei hef fun u h' tk hPu hout hst' hT hsz hk => ?_
    refine ⟨_, rfl, wpAny_letOwnedTupleGo_enum (s := { s with heap := h', toks := tk + 1 }) hout fun h2 he2 sb => ?_⟩
    have hT2 : h2.get? s.heap.objs.size = some { cls := .type "tuple", data := .seq #[.int i tk, u] } := (sb.2 _ (Nat.ne_of_gt hel)).trans hT
    have new : ObjOk X.prog X.w (upd H s.heap.objs.size (.tup [.int (i : Nat), y])) h2 s.heap.objs.size (.tup [.int (i : Nat), y]) := by
      refine ⟨?_, [.int i tk, u], .cons ⟨_, rfl⟩ (.cons (hrel u hPu) .nil), ⟨_, hT2, rfl, _, rfl⟩⟩
      show 2 ≤ sizeLine
      decide
    have I1 : Inv X pins σ (upd H s.heap.objs.size (.tup [.int (i : Nat), y])) { s with heap := h2, toks := tk + 1 } := by
      refine I.turnedNew (ch := [e, it]) (fun b ob hb q => ?_) hf (Nat.le_refl _) new
      have h1 : b ≠ e := fun z => hb (by simp [z])
      have h3 : b ≠ it := fun z => hb (by simp [z])
      exact (sb.2 b h1).trans (hk b ob h1 h3 q)
    refine ⟨.ref s.heap.objs.size, _, I1, rfl, ⟨_, y, rfl, I.hok.fresh (Nat.le_refl _), rfl, ?_⟩, ⟨⟨u, ?_⟩, ?_⟩, fun b hb => ?_⟩
    · cases x with
      | str z => exact hy
      | ref a =>
        obtain ⟨ys, hq, hy⟩ := hy
        intro xs hxs
        rw [I.tuple_inj hxs hq]
        exact hy.symm
      | _ => exact hy
    · rw [show ((i + 1 : Nat) : Int) = (i : Int) + 1 by omega]
      exact he2
    · exact hkeep _ _ _ (hnext _ hst') fun b o hb q => (sb.2 b hb).trans q
    · have hb2 : b < s.heap.objs.size := by
        rcases (by simpa using hb : b = e ∨ b = it) with z | z
        · rw [z]; exact hel
        · rw [z]; exact hil
      rw [upd_ne (Nat.ne_of_lt hb2)]
      exact (hf b hb).1
  done := by
    intro X hP hw hK hc i pins s σ H E I hf st hg
    have dr := hd X hP hw hK hc i pins s σ H none
    subst hP hw hK
    obtain ⟨⟨old, he⟩, ho⟩ := st
    obtain ⟨Pr, St, D, hst⟩ := dr I ho hg
    obtain ⟨f0, f1, f2, f3, f4, f5⟩ := hf it (by simp)
    exact wpAny_pyNext_enum_endD D he hst fun h' eb => ⟨rfl, I.turned (t' := s.toks) (fun b o hb q => eb b o hb q) f0 f1 f3 f4 f5⟩
  self := fun A i s Q E st h => let ⟨⟨_, he⟩, _⟩ := st; wpAny_pyIter_enum he h
/-- no item left -/
theorem draws_end {prog : Program} {w : World} {A : Around} (hh : A.handled = none) (it t : Addr) (items : Array Value) (i : Nat) (hx : items[i]? = none) :
    Draws prog w A it [it, t] i (fun _ _ => True) (fun k h => k = i ∧ h.IsTupleIter it t i ∧ h.IsTuple t items) where
  live := fun _ _ st => let ⟨o, ho, _⟩ := st.2.1; ⟨o, ho⟩
  frame := fun _ _ _ st hk => ⟨st.1, st.2.1.at fun o e => hk it (by simp) o e, st.2.2.at fun o e => hk t (by simp) o e⟩
  item := fun k s Q E hi st hQ => absurd st.1 (Nat.ne_of_lt hi)
  done := fun s Q E st hE => wpAny_nextOf_tuple_end hh st.2.1 st.2.2 hx hE
theorem draws_endS {prog : Program} {w : World} {A : Around} (hh : A.handled = none) (it : Addr) (x : Str) (t : Tok) (i : Nat) (hx : x.cps[i]? = none) :
    Draws prog w A it [it] i (fun _ _ => True) (fun k h => k = i ∧ h.IsStrIter it (strIterType x) x t i) where
  live := fun _ _ st => let ⟨o, ho, _⟩ := st.2; ⟨o, ho⟩
  frame := fun _ _ _ st hk => ⟨st.1, let ⟨o, ho, q⟩ := st.2; ⟨o, hk it (by simp) o ho, q⟩⟩
  item := fun k s Q E hi st hQ => absurd st.1 (Nat.ne_of_lt hi)
  done := fun s Q E st hE => by
    have st2 := st.2
    cases ha : x.cps.all (· < 128)
    · simp only [strIterType, ha, Bool.false_eq_true, if_false] at st2
      exact wpAny_nextOf_wide_end hh st2 hx hE
    · simp only [strIterType, ha, if_true] at st2
      exact wpAny_nextOf_ascii_end hh st2 hx hE
def iEnumN (K : PySem.W.Frag) (ta : TA) : TI := fun σ H R => ta σ H fun vs H1 => ∃ x, vs = [x] ∧ ((∃ z, x = .str z) ∨ ∃ a xs, x = .ref a ∧ SqT K H1 a xs) ∧ R (ItN K x) H1
theorem pi_enumN {X : Cx} {e : Expr} {ta : TA} {p pos tpos : Pos} {elts : List Expr} {kk : Nat} (hc : X.calm = true) (hg : Gl X "enumerate") (hm : X.mg "enumerate" = none) (ha : PA X [e] ta) (hs : starEach [e] X.env = [(false, eval e X.env)] := by rfl) :
    PI X (.Tuple elts kk tpos) (.Call (.Name "enumerate" p) [e] [] pos) (iEnumN X.K ta) := by
  refine ⟨fun pins s σ H R I h => ?_⟩
  refine Call_ (ld_blt I hg hm boot_enumerate (PyProof.Rows.callWith_type1 (thn (ha.run pos pins s σ H _ I h) fun us s1 ⟨vs, H1, I1, r1, q1⟩ => ?_) hs rfl))
  obtain ⟨x, ex, hx, q⟩ := q1
  subst ex
  have fpk : ∀ b ∈ [s1.heap.objs.size + 1, s1.heap.objs.size], FpOk X pins H1 b := fun b hb => by
    have hle : s1.heap.objs.size ≤ b := by
      rcases (by simpa using hb : b = s1.heap.objs.size + 1 ∨ b = s1.heap.objs.size) with z | z <;> omega
    exact I1.fpOk hle (I1.hok.fresh hle)
  cases r1 with
  | cons r rr =>
    cases rr
    rcases hx with ⟨z, rfl⟩ | ⟨a, xs, rfl, hq⟩
    · obtain ⟨t, rfl⟩ := r
      refine call_enum1 (begins_text z t) trivial fun h' he hit hk => wpAny_pyIter_enum he ?_
      have I2 : Inv X pins σ H1 { s1 with heap := h' } := I1.kept (t' := s1.toks) hk
      refine ⟨s1.heap.objs.size + 1, [s1.heap.objs.size + 1, s1.heap.objs.size], _, _, H1, rfl, I2, turn_enumN (e := s1.heap.objs.size + 1) (it := s1.heap.objs.size) (fp := [s1.heap.objs.size]) (Hold := fun i h => h.IsStrIter s1.heap.objs.size (strIterType z) z t i) (fun hm => Nat.succ_ne_self _ (List.mem_singleton.mp hm)) (Nat.succ_ne_self _) ?_ ?_ ?_ ?_, ⟨⟨.none, he⟩, ⟨_, hit, rfl, rfl⟩⟩, fpk, q⟩
      · exact fun i h hh => let ⟨o, ho, hc, hdd⟩ := hh; ⟨o, ho, fun v q => by rw [hdd] at q; cases q⟩
      · exact fun i h h2 hh kk => let ⟨o, ho, q⟩ := hh; ⟨o, kk _ o (Nat.succ_ne_self _).symm ho, q⟩
      · exact fun i h h2 hh kk => let ⟨o, ho, q⟩ := hh; ⟨o, kk o ho, q⟩
      · intro X2 hP hw hK hc2 i pins2 s2 σ2 H2 y I3 hh hn
        cases y with
        | some y =>
          have hn : some y = (z.cps[i]?).map fun c => V.str ⟨#[c]⟩ := hn
          cases hz : z.cps[i]? with
          | none => rw [hz] at hn; cases hn
          | some c =>
            rw [hz] at hn
            have ey : y = V.str ⟨#[c]⟩ := Option.some.inj hn
            subst ey
            have hi : i < z.cps.size := (Array.getElem?_eq_some_iff.mp hz).1
            refine ⟨z.cps.size, fun i v => ∃ c u, z.cps[i]? = some c ∧ v = .str ⟨#[c]⟩ u, fun i h => h.IsStrIter s1.heap.objs.size (strIterType z) z t i, Draws.text (A := X2.A.in1) (I3.ok.hd hc2) s1.heap.objs.size z t, hh, hi, fun u hu => ?_, fun h hs => hs⟩
            obtain ⟨c', u', h1, h2⟩ := hu
            rw [hz] at h1
            cases h1
            exact ⟨u', h2⟩
        | none =>
          have hn : none = (z.cps[i]?).map fun c => V.str ⟨#[c]⟩ := hn
          cases hz : z.cps[i]? with
          | some c => rw [hz] at hn; cases hn
          | none => exact ⟨_, _, draws_endS (A := X2.A.in1) (I3.ok.hd hc2) s1.heap.objs.size z t i hz, ⟨rfl, hh⟩⟩
    · cases r
      obtain ⟨its, rv, pt, hz⟩ := I1.tuple hq
      have hal : a < s1.heap.objs.size := by
        obtain ⟨o, ho, _⟩ := pt
        exact Heap.lt_size ho
      refine call_enum1 (begins_tuple a its.toArray) pt fun h' he hit hk => wpAny_pyIter_enum he ?_
      have I2 : Inv X pins σ H1 { s1 with heap := h' } := I1.kept (t' := s1.toks) hk
      refine ⟨s1.heap.objs.size + 1, [s1.heap.objs.size + 1, s1.heap.objs.size], _, _, H1, rfl, I2, turn_enumN (e := s1.heap.objs.size + 1) (it := s1.heap.objs.size) (fp := [s1.heap.objs.size, a]) (Hold := fun i h => h.IsTupleIter s1.heap.objs.size a i) (fun hm => by
        rcases List.mem_cons.mp hm with z | z
        · exact Nat.succ_ne_self _ z
        · exact Nat.ne_of_gt (Nat.lt_succ_of_lt hal) (List.mem_singleton.mp z)) (Nat.succ_ne_self _) ?_ ?_ ?_ ?_, ⟨⟨.none, he⟩, ⟨_, hit, rfl, rfl⟩⟩, fpk, q⟩
      · exact fun i h hh => let ⟨o, ho, hc, hdd⟩ := hh; ⟨o, ho, fun v q => by rw [hdd] at q; cases q⟩
      · exact fun i h h2 hh kk => let ⟨o, ho, q⟩ := hh; ⟨o, kk _ o (Nat.succ_ne_self _).symm ho, q⟩
      · exact fun i h h2 hh kk => let ⟨o, ho, q⟩ := hh; ⟨o, kk o ho, q⟩
      · intro X2 hP hw hK hc2 i pins2 s2 σ2 H2 y I3 hh hn
        obtain ⟨ys, hs2, hy⟩ := hn
        rw [← hK] at hs2
        obtain ⟨its2, rv2, pt2, _⟩ := I3.tuple hs2
        have hlen := rv2.length
        cases y with
        | some y =>
          obtain ⟨u, hu, ru⟩ := rv2.get hy.symm
          have hi : i < its2.toArray.size := by
            have := (List.getElem?_eq_some_iff.mp hu).1
            simpa using this
          refine ⟨its2.toArray.size, fun i v => its2.toArray[i]? = some v, fun i h => h.IsTupleIter s1.heap.objs.size a i ∧ h.IsTuple a its2.toArray, Draws.tuple (A := X2.A.in1) (I3.ok.hd hc2) s1.heap.objs.size a (Nat.ne_of_lt hal) its2.toArray, ⟨hh, pt2⟩, hi, fun v hv => ?_, fun h hs => hs.1⟩
          have hv : its2.toArray[i]? = some v := hv
          have : some u = some v := by rw [← hu, ← hv]; simp
          cases this
          exact ru
        | none =>
          have hi : its2.toArray[i]? = none := by
            have := List.getElem?_eq_none_iff.mp hy.symm
            simp
            omega
          exact ⟨_, _, draws_end (A := X2.A.in1) (I3.ok.hd hc2) s1.heap.objs.size a its2.toArray i hi, ⟨rfl, hh, pt2⟩⟩
/-- the pairs -/
def enumV (k : Nat) : List Val → List Val
  | [] => []
  | x :: xs => .tup [.int (k : Int), x] :: enumV (k + 1) xs
def enumK (zs : List SV) (st1 : Sto) : Rv Src := match zs with
  | [.v (.tup xs)] => .ok (.seq (enumV 0 xs)) st1
  | [.v (.str s)] => .ok (.seq (enumV 0 (s.map fun c => .str [c]))) st1
  | _ => .bad
def iEnumF (fa : Env → Sto → Rv (List SV)) : Fi := fun env st => (fa env st).bind enumK
theorem enumV_get : ∀ {xs : List Val} {k i : Nat}, (enumV k xs)[i]? = (xs[i]?).map fun x => .tup [.int ((k + i : Nat) : Int), x]
  | [], _, _ => by simp [enumV]
  | x :: xs, k, 0 => by simp [enumV]
  | x :: xs, k, i + 1 => by
    simp only [enumV, List.getElem?_cons_succ, enumV_get (xs := xs) (k := k + 1) (i := i)]
    rw [show k + 1 + i = k + (i + 1) by omega]
theorem enumV_len : ∀ (xs : List Val) (k : Nat), (enumV k xs).length = xs.length
  | [], _ => rfl
  | x :: xs, k => by simp only [enumV, List.length_cons, enumV_len xs (k + 1)]
section
variable {G : Gc} {H0 : Hp} {ρ0 : Rho} {P0 : Ts}
theorem yield_en (htn : G.tn = false) {H : Hp} {ρ : Rho} {P : Ts} {st : Sto} {T : Addr} {k : Int} {y : Val} {u : V} (rs : RepS G H P ρ st) (hT : H T = none) (ry : RepV G H (TP P ρ) y u) :
    Kp (Tr ρ) H (Tr ρ) (upd H T (.tup [.int k, u])) ∧ RepS G (upd H T (.tup [.int k, u])) P ρ st ∧ RepV G (upd H T (.tup [.int k, u])) (TP P ρ) (.tup [.int k, y]) (.ref T) := by
  have h := yield_pair rs hT (.int k) ry
  unfold prV at h
  rw [htn] at h
  exact h
theorem walk_enumT (htn : G.tn = false) {K : PySem.W.Frag} (hK : G.K = K) {a : Addr} {xs : List Val} {vs : List V} (nt : NoTup H0 (TP P0 ρ0)) (h : H0 a = some (.tup vs)) (r : RepVs G H0 (TP P0 ρ0) xs vs) : WalkS G P0 ρ0 H0 (ItN K (.ref a)) (enumV 0 xs) := by
  subst hK
  intro i H P ρ st k rs
  have hq := k.sqT (G := G) nt (.inl (.inl h))
  have hr := RepVs.ext k nt r
  refine ⟨fun x hx => ?_, fun hl => ⟨vs, hq, ?_⟩⟩
  · rw [enumV_get] at hx
    cases e : xs[i]? with
    | none => rw [e] at hx; cases hx
    | some y =>
      rw [e] at hx
      cases hx
      obtain ⟨v, hv, rv⟩ := hr.get e
      refine ⟨⟨v, vs, hq, hv.symm⟩, fun w H' q => ?_⟩
      obtain ⟨T, u, rfl, hT, rfl, hn⟩ := q
      have := hn vs hq
      rw [hv] at this
      cases this
      rw [Nat.zero_add]
      exact yield_en htn rs hT rv
  · rw [enumV_len] at hl
    exact (List.getElem?_eq_none_iff.mpr (by rw [← hr.len]; exact hl)).symm
theorem walk_enumS (htn : G.tn = false) {K : PySem.W.Frag} (s : List Nat) (hs : SOk s = true) : WalkS G P0 ρ0 H0 (ItN K (.str (toS s))) (enumV 0 (s.map fun c => .str [c])) := by
  intro i H P ρ st k rs
  have at' : ∀ j : Nat, (toS s).cps[j]? = s[j]? := fun j => by simp
  refine ⟨fun x hx => ?_, fun hl => ?_⟩
  · rw [enumV_get, List.getElem?_map] at hx
    cases e : s[i]? with
    | none => rw [e] at hx; cases hx
    | some c =>
      rw [e] at hx
      cases hx
      refine ⟨⟨.str (toS [c]), by show some _ = ((toS s).cps[i]?).map _; rw [at', e]; rfl⟩, fun w H' q => ?_⟩
      obtain ⟨T, u, rfl, hT, rfl, hn⟩ := q
      have hn : some u = ((toS s).cps[i]?).map fun c => V.str ⟨#[c]⟩ := hn
      rw [at', e] at hn
      cases hn
      rw [Nat.zero_add]
      exact yield_en htn rs hT (.str [c] (sok_one hs e))
  · rw [enumV_len, List.length_map] at hl
    show none = ((toS s).cps[i]?).map _
    rw [at', List.getElem?_eq_none_iff.mpr hl]; rfl
end
section
variable {L : Lx} {X : Cx} {W : WX} {a e : Expr} {fr : Env → Sto → Rv (List SV)} {pos p : Pos}
theorem ei_enum (htn : L.tn = false) {elts : List Expr} {kk : Nat} {tpos : Pos} (hc : X.calm = true) (hg : Gl X "enumerate") (hm : X.mg "enumerate" = none) (ha : EA L X W [a] fr) (hs : starEach [a] X.env = [(false, eval a X.env)] := by rfl) : EI L X W (.Tuple elts kk tpos) (.Call (.Name "enumerate" p) [a] [] pos) (iEnumF fr) := by
  refine PI.weak (pi_enumN hc hg hm ha hs) fun σ H R ⟨env, st, ρ, P, re, rs, p⟩ => ⟨env, st, ρ, P, re, rs, PostA.thenI p fun z st1 v H1 k rs1 rx p => ?_⟩
  unfold enumK at p
  split at p
  · cases rx with
    | cons r t =>
      cases t
      cases r with
      | v r => cases r with
        | tup h r => exact ⟨_, rfl, .inr ⟨_, _, rfl, h.sq⟩, p _ H1 Kp.refl rs1 (walk_enumT htn rfl rs1.nt (h.off htn) r)⟩
  · cases rx with
    | cons r t =>
      cases t
      cases r with
      | v r => cases r with
        | str _ h => exact ⟨_, rfl, .inl ⟨_, rfl⟩, p _ H1 Kp.refl rs1 (walk_enumS htn _ h)⟩
  · exact p.elim
end
end Eng

namespace Eng
open PySem PySem.Spec PyProof.Rows L2

/-! ### comprehensions of two clauses -/
def compSeq2 (p : Pat) (t : Ft) (fi : Fi) (p1 : Pat) (t1 : Ft) (fe : Fe) (vs1 : List Nat) (env0 : Env) : List Val → List Val → Sto → Rv (List Val)
  | [], acc, st => .ok acc st
  | x :: r, acc, st => match bindP p x env0 with
    | some env => (t env st).bind fun b st1 => if b = true then (fi env st1).bind fun s st2 => match s with
        | .seq ys => if acc.length + ys.length ≤ 1000000 then (compSeq p1 t1 fe (wipeE env vs1) ys acc st2).bind fun acc2 st3 => compSeq2 p t fi p1 t1 fe vs1 env0 r acc2 st3 else .bad
        | .cell _ => .bad
      else compSeq2 p t fi p1 t1 fe vs1 env0 r acc st1
    | none => .bad
def eComp2 (fi : Fi) (p : Pat) (t : Ft) (fi1 : Fi) (p1 : Pat) (t1 : Ft) (fe : Fe) (vs vs1 : List Nat) : Fe := fun env st => (fi env st).bind fun s st1 => match s with
  | .seq xs => (compSeq2 p t fi1 p1 t1 fe vs1 (wipeE env vs) xs [] st1).fresh
  | .cell _ => .bad
/-- the list in the making: H the heap ahead of all, B the heap that the walk leans on -/
def CSt (G : Gc) (P : Ts) (ρ : Rho) (D : Addr) (H B : Hp) (acc : List Val) (st : Sto) (H2 : Hp) : Prop :=
  Kp (Tr ρ) H (Tr ρ) H2 ∧ Kp (TP (Plus P D) ρ) B (TP (Plus P D) ρ) H2 ∧ RepS G H2 (Plus P D) ρ st ∧ ∃ us, H2 D = some (.lst us) ∧ RepVs G H2 (TP (Plus P D) ρ) acc us
section
variable {G : Gc} {P : Ts} {ρ : Rho} {D : Addr} {H B B2 : Hp} {acc : List Val} {st st2 st4 st5 : Sto} {H2 H3 H4 : Hp}
theorem CSt.go (h : CSt G P ρ D H B acc st H2) (k : Kp (Tr ρ) H2 (Tr ρ) H3) (rs : RepS G H3 (Plus P D) ρ st2) : CSt G P ρ D H B acc st2 H3 := by
  obtain ⟨k1, k2, rs2, us, e, r⟩ := h
  exact ⟨k1.trans k, k2.trans k.tp, rs, us, k.keepX (rs2.apart D (.inr rfl)) e (by intros; simp) rfl, r.ext k.tp rs2.nt⟩
theorem CSt.rebase (h : CSt G P ρ D H B acc st H2) : CSt G P ρ D H H2 acc st H2 := ⟨h.1, Kp.refl, h.2.2.1, h.2.2.2⟩
theorem CSt.base (h : CSt G P ρ D H B2 acc st H2) (k : Kp (TP (Plus P D) ρ) B (TP (Plus P D) ρ) B2) : CSt G P ρ D H B acc st H2 := ⟨h.1, k.trans h.2.1, h.2.2.1, h.2.2.2⟩
end
section
variable {L : Lx} {X : Cx} {W : WX} {P : Ts} {ρ : Rho} {D : Addr} {H B : Hp} {acc : List Val} {st2 : Sto} {H2 H3 : Hp} {p p1 : Pat} {g g1 : TG} {t t1 : Ft} {fe : Fe} {fi fi1 : Fi} {envB env' : Env} {σ σB : L2.St} {vs vs1 : List Nat} {x : Val} {v : V} {stB : Sto}
/-- one turn: the target, the test -/
theorem comp_head (hpat : EP1 X p g) (hv : ∀ i ∈ p.names, i ∈ vs) (reB : RepE (gx L X) B (Plus P D) ρ envB σB) (ntB : NoTup B (TP (Plus P D) ρ)) (hS : CSt (gx L X) P ρ D H B acc st2 H2) (k3 : Kp (Tr ρ) H2 (Tr ρ) H3) (rs3 : RepS (gx L X) H3 (Plus P D) ρ st2)
    (rv : RepV (gx L X) H3 (TP (Plus P D) ρ) x v) (hb : bindP p x envB = some env') {b : Bool} {st4 : Sto} (ht : t env' st2 = .ok b st4) {C : Bool → L2.St → Hp → Prop}
    (cont : ∀ σ4 H4, RepE (gx L X) H4 (Plus P D) ρ env' σ4 → CSt (gx L X) P ρ D H B acc st4 H4 → C b σ4 H4) :
    g v σB H3 fun σ2 H2 => L2.wipe σ2 vs = L2.wipe σB vs ∧ TTm (gx L X) W0 t σ2 H2 fun b H3 => C b σ2 H3 := by
  have hS3 := hS.go k3 rs3
  have re3 : RepE (gx L X) H3 (Plus P D) ρ envB σB := ⟨reB.len, fun i z h => by
    obtain ⟨u, e, r⟩ := reB.get i z h
    refine ⟨u, e, ?_⟩
    cases r with
    | v r => exact .v (r.ext hS3.2.1 ntB)
    | loc q => exact .loc q⟩
  refine pat_ok hpat re3 rv hb fun σ4 re4 hw => ⟨hw vs hv, env', st2, ρ, Plus P D, re4, rs3, ?_⟩
  rw [ht]
  exact fun H4 k4 rs4 => cont σ4 H4 (re4.ext k4 rs3) (hS3.go k4 rs4)
/-- .. the item -/
theorem comp_push (h0D : NN H D) {σ4 : L2.St} {st4 st5 : Sto} {H4 : Hp} (re : RepE (gx L X) H4 (Plus P D) ρ env' σ4) (hS : CSt (gx L X) P ρ D H B acc st4 H4) {z : SV} {y : Val} (hf : fe env' st4 = .ok z st5) (hz : z.froz = .v y) (hl : acc.length < sizeLine) {Nx : Hp → Prop}
    (w : ∀ H5, CSt (gx L X) P ρ D H B (acc ++ [y]) st5 H5 → Nx H5) : TEm (gx L X) W0 fe σ4 H4 fun y H5 => ∃ us, H5 D = some (.lst us) ∧ us.length < sizeLine ∧ Nx (upd H5 D (.lst (us ++ [y]))) := by
  refine ⟨env', st4, ρ, Plus P D, re, hS.2.2.1, ?_⟩
  rw [hf]
  intro u H5 k5 rs5 rx
  have rz := rx.z
  rw [hz] at rz
  obtain ⟨kA, kB, rs6, us, e5, rus⟩ := hS.go k5 rs5
  cases rz with
  | v ry =>
    refine ⟨us, e5, by rw [← rus.len]; exact hl, ?_⟩
    have kw : Kp (TP (Plus P D) ρ) H5 (TP (Plus P D) ρ) (upd H5 D (.lst (us ++ [u]))) := kp_write (.inl (.inr rfl))
    refine w _ ⟨⟨fun a o na e nt => ?_, fun a n => h0D.over kA.stay n, fun a t => .inl t⟩, kB.trans kw, rs5.writeP (.inr rfl) ⟨by intros; simp, by intros; simp, by intros; simp, by intros; simp⟩, us ++ [u], upd_same, RepVs.app (rus.ext kw rs5.nt) (ry.ext kw rs5.nt)⟩
    · rw [upd_ne (h0D.ne e nt)]; exact kA.keep a o na e nt
theorem bind_ok {α β : Type} {r : Rv α} {f : α → Sto → Rv β} {a : β} {s : Sto} (h : r.bind f = .ok a s) : ∃ b s1, r = .ok b s1 ∧ f b s1 = .ok a s := by
  cases r with
  | ok b s1 => exact ⟨b, s1, rfl, h⟩
  | exc _ _ => cases h
  | bad => cases h
/-- what a turn of a comprehension comes to -/
theorem compSeq_ok {env0 : Env} {r : List Val} {a : List Val} {s : Sto} (h : compSeq p t fe env0 (x :: r) acc st2 = .ok a s) :
    ∃ env b st4, bindP p x env0 = some env ∧ t env st2 = .ok b st4 ∧ (b = true → ∃ z y st5, fe env st4 = .ok z st5 ∧ z.froz = .v y ∧ compSeq p t fe env0 r (acc ++ [y]) st5 = .ok a s) ∧ (b = false → compSeq p t fe env0 r acc st4 = .ok a s) := by
  unfold compSeq at h
  cases hb : bindP p x env0 with
  | none => rw [hb] at h; cases h
  | some env =>
    rw [hb] at h
    obtain ⟨b, st4, h1, h2⟩ := bind_ok h
    refine ⟨env, b, st4, rfl, h1, fun e => ?_, fun e => ?_⟩
    · subst e
      rw [if_pos rfl] at h2
      obtain ⟨z, st5, h3, h4⟩ := bind_ok h2
      cases hz : z.froz with
      | v y => simp only [hz] at h4; exact ⟨z, y, st5, h3, hz, h4⟩
      | loc _ => simp only [hz] at h4; cases h4
      | fl _ => simp only [hz] at h4; cases h4
      | fd _ _ => simp only [hz] at h4; cases h4
    · subst e
      simpa using h2
theorem compSeq2_ok {env0 : Env} {r : List Val} {a : List Val} {s : Sto} (h : compSeq2 p t fi1 p1 t1 fe vs1 env0 (x :: r) acc st2 = .ok a s) :
    ∃ env b st4, bindP p x env0 = some env ∧ t env st2 = .ok b st4 ∧ (b = true → ∃ ys st5 acc2 st6, fi1 env st4 = .ok (.seq ys) st5 ∧ acc.length + ys.length ≤ 1000000 ∧ compSeq p1 t1 fe (wipeE env vs1) ys acc st5 = .ok acc2 st6 ∧ compSeq2 p t fi1 p1 t1 fe vs1 env0 r acc2 st6 = .ok a s) ∧
      (b = false → compSeq2 p t fi1 p1 t1 fe vs1 env0 r acc st4 = .ok a s) := by
  unfold compSeq2 at h
  cases hb : bindP p x env0 with
  | none => rw [hb] at h; cases h
  | some env =>
    rw [hb] at h
    obtain ⟨b, st4, h1, h2⟩ := bind_ok h
    refine ⟨env, b, st4, rfl, h1, fun e => ?_, fun e => ?_⟩
    · subst e
      rw [if_pos rfl] at h2
      obtain ⟨sr, st5, h3, h4⟩ := bind_ok h2
      cases sr with
      | cell _ => cases h4
      | seq ys =>
        simp only at h4
        split at h4
        · rename_i hl
          obtain ⟨acc2, st6, h5, h6⟩ := bind_ok h4
          exact ⟨ys, st5, acc2, st6, h3, hl, h5, h6⟩
        · cases h4
    · subst e
      simpa using h2
/-- the inner walk -/
theorem comp_in (hpat : EP1 X p1 g1) (hv : ∀ i ∈ p1.names, i ∈ vs1) (h0D : NN H D) {env2 : Env} {σ4 : L2.St} {H5 : Hp} {J : It} {ys acc2 : List Val} {st5 st6 : Sto} {Nx : Hp → Prop} (re : RepE (gx L X) H5 (Plus P D) ρ env2 σ4) (hS : CSt (gx L X) P ρ D H B acc st5 H5)
    (wk : WalkS (gx L X) (Plus P D) ρ H5 J ys) (hl : acc.length + ys.length ≤ 1000000) (hq : compSeq p1 t1 fe (wipeE env2 vs1) ys acc st5 = .ok acc2 st6) (fin : ∀ H', CSt (gx L X) P ρ D H B acc2 st6 H' → Nx H') :
    ∃ W1 : Nat → Nat → Hp → Prop, (∃ m, W1 0 m H5) ∧ ∀ j k H, W1 j k H → (J.stop j H ∧ Nx H) ∨ (J.go j H ∧ ∃ N1 : Hp → Prop, (∀ H', N1 H' → ∃ k', k' < k ∧ W1 (j + 1) k' H') ∧ ∀ x H', J.yld j H x H' → g1 x (L2.wipe σ4 vs1) H' fun σ3 H5 => L2.wipe σ3 vs1 = L2.wipe σ4 vs1 ∧ TTm (gx L X) W0 t1 σ3 H5 fun b H6 =>
      if b = true then TEm (gx L X) W0 fe σ3 H6 fun y H7 => ∃ us, H7 D = some (.lst us) ∧ us.length < sizeLine ∧ N1 (upd H7 D (.lst (us ++ [y]))) else N1 H6) := by
  have hz : 1000000 < sizeLine := by decide
  have reW : RepE (gx L X) H5 (Plus P D) ρ (wipeE env2 vs1) (L2.wipe σ4 vs1) := re.wipe vs1
  have nt5 := hS.2.2.1.nt
  refine ⟨fun j k H6 => ∃ ac s6, k = ys.length - j ∧ ac.length ≤ acc.length + j ∧ CSt (gx L X) P ρ D H H5 ac s6 H6 ∧ compSeq p1 t1 fe (wipeE env2 vs1) (ys.drop j) ac s6 = .ok acc2 st6, ⟨ys.length, acc, st5, rfl, Nat.le_refl _, hS.rebase, hq⟩, fun j k H6 hW1 => ?_⟩
  obtain ⟨ac, s6, hk, hl6, hS6, hq6⟩ := hW1
  have w1 := wk j H6 (Plus P D) ρ s6 hS6.2.1 hS6.2.2.1
  by_cases hj : j < ys.length
  · rw [List.drop_eq_getElem_cons hj] at hq6
    obtain ⟨env3, b3, st7, hb3, ht3, hT3, hF3⟩ := compSeq_ok hq6
    obtain ⟨hgo1, hy1⟩ := w1.1 ys[j] (List.getElem?_eq_getElem hj)
    refine .inr ⟨hgo1, fun H' => ∃ ac' s', ac'.length ≤ acc.length + (j + 1) ∧ CSt (gx L X) P ρ D H H5 ac' s' H' ∧ compSeq p1 t1 fe (wipeE env2 vs1) (ys.drop (j + 1)) ac' s' = .ok acc2 st6, fun H' hN => ?_, fun v7 H7 yy7 => ?_⟩
    · obtain ⟨ac', s', a, b, c⟩ := hN
      exact ⟨ys.length - (j + 1), by omega, ac', s', rfl, a, b, c⟩
    · obtain ⟨k7, rs7, rv7⟩ := hy1 v7 H7 yy7
      have key1 := comp_head (C := fun b σ3 H6 => if b = true then TEm (gx L X) W0 fe σ3 H6 fun y H7 => ∃ us, H7 D = some (.lst us) ∧ us.length < sizeLine ∧ ∃ ac' s', ac'.length ≤ acc.length + (j + 1) ∧ CSt (gx L X) P ρ D H H5 ac' s' (upd H7 D (.lst (us ++ [y]))) ∧ compSeq p1 t1 fe (wipeE env2 vs1) (ys.drop (j + 1)) ac' s' = .ok acc2 st6
        else ∃ ac' s', ac'.length ≤ acc.length + (j + 1) ∧ CSt (gx L X) P ρ D H H5 ac' s' H6 ∧ compSeq p1 t1 fe (wipeE env2 vs1) (ys.drop (j + 1)) ac' s' = .ok acc2 st6) hpat hv reW nt5 hS6 k7 rs7 rv7 hb3 ht3 (fun σ8 H8 re8 hS8 => ?_)
      · rw [wipe_wipe fun i h => h] at key1
        exact key1
      · cases b3 with
        | false =>
          simp only [Bool.false_eq_true, if_false]
          exact ⟨ac, st7, by omega, hS8, hF3 rfl⟩
        | true =>
          simp only [if_true]
          obtain ⟨z, y, st8, h1, h2, h3⟩ := hT3 rfl
          exact comp_push (Nx := fun H' => ∃ ac' s', ac'.length ≤ acc.length + (j + 1) ∧ CSt (gx L X) P ρ D H H5 ac' s' H' ∧ compSeq p1 t1 fe (wipeE env2 vs1) (ys.drop (j + 1)) ac' s' = .ok acc2 st6) h0D re8 hS8 h1 h2 (by omega) fun H9 hS9 => ⟨ac ++ [y], st8, by rw [List.length_append]; simp; omega, hS9, h3⟩
  · rw [List.drop_eq_nil_of_le (by omega)] at hq6
    cases hq6
    exact .inl ⟨w1.2 (by omega), fin H6 (hS6.base hS.2.1)⟩
theorem comp2_tm (hpat : EP1 X p g) (hv : ∀ i ∈ p.names, i ∈ vs) (hpat1 : EP1 X p1 g1) (hv1 : ∀ i ∈ p1.names, i ∈ vs1) (σ : L2.St) (H : Hp) (Q : VK) (h : TEm (gx L X) W (eComp2 fi p t fi1 p1 t1 fe vs vs1) σ H Q) (hz : 1000000 < sizeLine := by decide) :
    tLc2 (TIm (gx L X) W fi) g (TTm (gx L X) W0 t) (TIm (gx L X) W0 fi1) g1 (TTm (gx L X) W0 t1) (TEm (gx L X) W0 fe) vs vs1 σ H Q := by
  obtain ⟨env, st, ρ, P, re, rs, q⟩ := h
  refine ⟨env, st, ρ, P, re, rs, ?_⟩
  unfold eComp2 at q
  cases hf : fi env st with
  | exc e st1 => rw [hf] at q; exact q
  | bad => rw [hf] at q; exact q
  | ok s st1 =>
    rw [hf] at q
    cases s with
    | cell l => exact q.elim
    | seq xs =>
      intro J H1 k1 rs1 wk D hD
      have q : Post (gx L X) W σ P ρ H (compSeq2 p t fi1 p1 t1 fe vs1 (wipeE env vs) xs [] st1).fresh Q := q
      cases hc : compSeq2 p t fi1 p1 t1 fe vs1 (wipeE env vs) xs [] st1 with
      | exc _ _ => rw [hc] at q; exact q.elim
      | bad => rw [hc] at q; exact q.elim
      | ok res stE =>
        rw [hc] at q
        have h0D : NN H D := k1.none (.inl hD)
        have rsD : RepS (gx L X) (upd H1 D (.lst [])) (Plus P D) ρ st1 := rs1.freshP hD ⟨by intros; simp, by intros; simp, by intros; simp, by intros; simp⟩
        have nP : ¬ P D := fun t => rs1.ntr hD (.inl t)
        have reD : RepE (gx L X) (upd H1 D (.lst [])) (Plus P D) ρ (wipeE env vs) (L2.wipe σ vs) := (re.ext k1 rs).plus hD rs1 |>.wipe vs
        have st0 : CSt (gx L X) P ρ D H (upd H1 D (.lst [])) [] st1 (upd H1 D (.lst [])) := ⟨k1.trans (kp_new hD), Kp.refl, rsD, [], upd_same, .nil⟩
        let Nn := fun (i : Nat) (H' : Hp) => ∃ acc' st', CSt (gx L X) P ρ D H (upd H1 D (.lst [])) acc' st' H' ∧ compSeq2 p t fi1 p1 t1 fe vs1 (wipeE env vs) (xs.drop i) acc' st' = .ok res stE
        refine ⟨fun i m H2 => m = xs.length - i ∧ Nn i H2, ⟨xs.length, rfl, [], st1, st0, hc⟩, fun i m H2 hW => ?_⟩
        obtain ⟨hm, acc, st2, hS, hq⟩ := hW
        have w := wk i H2 (Plus P D) ρ st2 ((kp_newP hD).trans hS.2.1) hS.2.2.1
        by_cases hi : i < xs.length
        · rw [List.drop_eq_getElem_cons hi] at hq
          obtain ⟨env2, b, st4, hb, ht, hT, hF⟩ := compSeq2_ok hq
          obtain ⟨hgo, hy⟩ := w.1 xs[i] (List.getElem?_eq_getElem hi)
          refine .inr ⟨hgo, Nn (i + 1), fun H' hN => ⟨xs.length - (i + 1), by omega, rfl, hN⟩, fun v H3 yy => ?_⟩
          obtain ⟨k3, rs3, rv⟩ := hy v H3 yy
          have key := comp_head (C := fun b σ2 H3 => if b = true then TIm (gx L X) W0 fi1 σ2 H3 fun J1 H4 => ∃ W1 : Nat → Nat → Hp → Prop, (∃ m, W1 0 m H4) ∧ ∀ j k H, W1 j k H →
              (J1.stop j H ∧ Nn (i + 1) H) ∨ (J1.go j H ∧ ∃ Nx1 : Hp → Prop, (∀ H', Nx1 H' → ∃ k', k' < k ∧ W1 (j + 1) k' H') ∧ ∀ x H', J1.yld j H x H' → g1 x (L2.wipe σ2 vs1) H' fun σ3 H5 => L2.wipe σ3 vs1 = L2.wipe σ2 vs1 ∧ TTm (gx L X) W0 t1 σ3 H5 fun b H6 =>
                if b = true then TEm (gx L X) W0 fe σ3 H6 fun y H7 => ∃ us, H7 D = some (.lst us) ∧ us.length < sizeLine ∧ Nx1 (upd H7 D (.lst (us ++ [y]))) else Nx1 H6) else Nn (i + 1) H3)
              hpat hv reD rsD.nt hS k3 rs3 rv hb ht (fun σ4 H4 re4 hS4 => ?_)
          · rw [wipe_wipe fun i h => h] at key
            exact key
          · cases b with
            | false => simp only [Bool.false_eq_true, if_false]; exact ⟨acc, st4, hS4, hF rfl⟩
            | true =>
              simp only [if_true]
              obtain ⟨ys, st5, acc2, st6, h1, h2, h3, h4⟩ := hT rfl
              refine ⟨env2, st4, ρ, Plus P D, re4, hS4.2.2.1, ?_⟩
              rw [h1]
              intro J1 H5 k5 rs5 wk1
              exact comp_in hpat1 hv1 h0D (re4.ext k5 hS4.2.2.1) (hS4.go k5 rs5) wk1 h2 h3 fun H' hS' => ⟨acc2, st6, hS', h4⟩
        · rw [List.drop_eq_nil_of_le (by omega)] at hq
          cases hq
          obtain ⟨k2, _, rs2, us, e, rv⟩ := hS
          exact .inl ⟨w.2 (by omega), q _ H2 k2 rs2.drop (.fl e h0D rv rs2 nP)⟩
end
section
variable {L : Lx} {X : Cx} {W : WX} {elt tg iter tg1 iter1 : Expr} {ifs ifs1 : List Expr} {scope : Scope} {own : List (Str × Nat)} {vs1 : List Nat} {pos : Pos} {fi fi1 : Fi} {p p1 : Pat} {t t1 : Ft} {fe : Fe} {g g1 : TG}
theorem ee_comp2 (hc : X.calm = true) (hN : X.N.Nodup) (hi : EI L X W tg iter fi) (ok : BlkOk X.N X.env.scope scope own) (hv : ∀ i ∈ vs1, i ∈ own.map (·.2))
    (hg : ∀ (s : Shared) (H : Hp) (C : Addr) (cl : List (Str × Addr)) (fp : List Addr), PG (X.blk s H scope (compEnvC scope cl C X.env) fp) tg g) (ht : ∀ (s : Shared) (H : Hp) (C : Addr) (cl : List (Str × Addr)) (fp : List Addr), PTs (X.blk s H scope (compEnvC scope cl C X.env) fp) ifs (TTm (gx L X) W0 t))
    (hi1 : ∀ (s : Shared) (H : Hp) (C : Addr) (cl : List (Str × Addr)) (fp : List Addr), PI (X.blk s H scope (compEnvC scope cl C X.env) fp) tg1 iter1 (TIm (gx L X) W0 fi1))
    (hg1 : ∀ (s : Shared) (H : Hp) (C : Addr) (cl : List (Str × Addr)) (fp : List Addr), PG (X.blk s H scope (compEnvC scope cl C X.env) fp) tg1 g1) (ht1 : ∀ (s : Shared) (H : Hp) (C : Addr) (cl : List (Str × Addr)) (fp : List Addr), PTs (X.blk s H scope (compEnvC scope cl C X.env) fp) ifs1 (TTm (gx L X) W0 t1))
    (he : ∀ (s : Shared) (H : Hp) (C : Addr) (cl : List (Str × Addr)) (fp : List Addr), PE (X.blk s H scope (compEnvC scope cl C X.env) fp) elt (TEm (gx L X) W0 fe)) (hpat : EP1 X p g) (hpv : ∀ i ∈ p.names, i ∈ own.map (·.2)) (hpat1 : EP1 X p1 g1) (hpv1 : ∀ i ∈ p1.names, i ∈ vs1)
    (hs : ∀ x, foldedSetIterable iter X.env x = pure x := by intro _; rfl) (hs1 : ∀ env x, foldedSetIterable iter1 env x = pure x := by intro _ _; rfl) :
    EE L X W (.ListComp elt [⟨tg, iter, ifs, 0⟩, ⟨tg1, iter1, ifs1, 0⟩] scope pos) (eComp2 fi p t fi1 p1 t1 fe (own.map (·.2)) vs1) :=
  PE.weak (pe_lc2 hc hN hi ok hv hg ht hi1 hg1 ht1 he hs hs1) fun σ H Q h => comp2_tm hpat hpv hpat1 hpv1 σ H Q h
theorem es_setc2 {n i : Nat} {y : Str} {py spos : Pos} (m : Md) (B : List Nat) (hc : X.calm = true) (hN : X.N.Nodup) (hi : EI L X W tg iter fi) (ok : BlkOk X.N X.env.scope scope own) (hv : ∀ i ∈ vs1, i ∈ own.map (·.2))
    (hg : ∀ (s : Shared) (H : Hp) (C : Addr) (cl : List (Str × Addr)) (fp : List Addr), PG (X.blk s H scope (compEnvC scope cl C X.env) fp) tg g) (ht : ∀ (s : Shared) (H : Hp) (C : Addr) (cl : List (Str × Addr)) (fp : List Addr), PTs (X.blk s H scope (compEnvC scope cl C X.env) fp) ifs (TTm (gx L X) W0 t))
    (hi1 : ∀ (s : Shared) (H : Hp) (C : Addr) (cl : List (Str × Addr)) (fp : List Addr), PI (X.blk s H scope (compEnvC scope cl C X.env) fp) tg1 iter1 (TIm (gx L X) W0 fi1))
    (hg1 : ∀ (s : Shared) (H : Hp) (C : Addr) (cl : List (Str × Addr)) (fp : List Addr), PG (X.blk s H scope (compEnvC scope cl C X.env) fp) tg1 g1) (ht1 : ∀ (s : Shared) (H : Hp) (C : Addr) (cl : List (Str × Addr)) (fp : List Addr), PTs (X.blk s H scope (compEnvC scope cl C X.env) fp) ifs1 (TTm (gx L X) W0 t1))
    (he : ∀ (s : Shared) (H : Hp) (C : Addr) (cl : List (Str × Addr)) (fp : List Addr), PE (X.blk s H scope (compEnvC scope cl C X.env) fp) elt (TEm (gx L X) W0 fe)) (hpat : EP1 X p g) (hpv : ∀ i ∈ p.names, i ∈ own.map (·.2)) (hpat1 : EP1 X p1 g1) (hpv1 : ∀ i ∈ p1.names, i ∈ vs1)
    (hy : X.N[i]? = some y := by rfl) (hyl : X.env.scope.names.lookup y = some .local := by rfl)
    (hsw : swapsWith (.ListComp elt [⟨tg, iter, ifs, 0⟩, ⟨tg1, iter1, ifs1, 0⟩] scope pos) (some (.Name y py)) spos.line X.env = pure true := by exact sw_true rfl rfl rfl (by decide +kernel)) (hs : ∀ x, foldedSetIterable iter X.env x = pure x := by intro _; rfl) (hs1 : ∀ env x, foldedSetIterable iter1 env x = pure x := by intro _ _; rfl) :
    ES L X W (B ++ m.cells) n (.Assign [.Name y py] (.ListComp elt [⟨tg, iter, ifs, 0⟩, ⟨tg1, iter1, ifs1, 0⟩] scope pos) spos) (sSet m n B i (eComp2 fi p t fi1 p1 t1 fe (own.map (·.2)) vs1)) :=
  PS.weak (ps_setLc2 hc hN hy hyl hsw hi ok hv hg ht hi1 hg1 ht1 he hs hs1) fun D σ H h => comp2_tm hpat hpv hpat1 hpv1 σ H _ (set_tm D σ H h)
end
end Eng

namespace Eng
open PySem PySem.Spec PyProof.Rows L2
theorem rm65 {A : Around} {k : Nat} (hr : Room k A) : A.units + 65 < cLine := by have := hr.un; omega
/-- what a law's def is asked -/
def spLaw (K : PySem.W.Frag) : Sp := fun vs H Q _ => ∃ (a : Addr) (ns : List Int), vs = [.ref a] ∧ SqL K H a (ns.map V.int) ∧ ns.length ≤ 63 ∧ ∀ H', Q (.bl true) H'
theorem ofInts {G : Gc} {H : Hp} {T : Ts} : ∀ ns : List Int, RepVs G H T (ns.map Val.int) (ns.map V.int)
  | [] => .nil
  | n :: ns => .cons (.int n) (ofInts ns)
theorem sp_law {K : PySem.W.Frag} {mg : Str → Option Value} {c : Fc} {tn : Bool} (hc : ∀ ns : List Int, ns.length ≤ 63 → ∃ st, c [.v (.seq (ns.map .int))] [] = .ok (.v (.bl true)) st) (vs : List V) (H : Hp) (Q : VK) (E : XK) (h : spLaw K vs H Q E) : SpF0 ⟨K, mg, [], none, tn⟩ 1 c vs H Q E := by
  obtain ⟨a, ns, rfl, hs, hl, q⟩ := h
  have e0 : ∀ b, ¬ TP (fun _ => False) ([] : Rho) b := fun b t => t.elim id fun t => by cases t
  have rs : RepS (⟨K, mg, [], none, tn⟩ : Gc) H (fun _ => False) [] [] := by
    refine ⟨rfl, fun l l' a e => ?_, fun l a e => ?_, fun l e => ?_, fun p hp => ?_, fun a h => h.elim, fun a h => h.elim⟩
    · simp at e
    · simp at e
    · simp at e
    · cases hp
  have rv : RepV (⟨K, mg, [], none, tn⟩ : Gc) H (TP (fun _ => False) []) (.seq (ns.map .int)) (.ref a) := by
    rcases hs with hs | hs
    · exact .seqH hs (e0 _) (ofInts ns)
    · exact .seqK (fun H' => .inr hs) (ofInts ns)
  refine ⟨[.v (.seq (ns.map .int))], [], [], fun _ => False, rfl, .cons (.v rv) .nil, rs, ?_⟩
  obtain ⟨st, e⟩ := hc ns hl
  rw [e]
  intro v H' k rs' rx
  cases rx with
  | v r => cases r; exact q H'
end Eng

namespace Eng
open PySem PySem.Spec PyProof.Rows L2
/-! ### the mirrors, reckoned -/
def sel3 {γ : Type} (o : Option Bool) (p q r : γ) : γ := match o with
  | some true => p
  | some false => q
  | none => r
section
variable {α β : Type} {a : α} {st st1 : Sto} {f : α → Sto → Rv β} {env env1 : Env} {fa fb fc fo fi : Fe} {ta tb : Ft} {x y : Val} {z : SV} {fr : Env → Sto → Rv (List SV)} {i j : Int} {s t : List Nat} {xs ys : List Val}
@[simp] theorem s_bind_ok : (Rv.ok a st).bind f = f a st := rfl
@[simp] theorem s_bind_bad : (Rv.bad : Rv α).bind f = .bad := rfl
@[simp] theorem s_eVar (i : Nat) : eVar i env st = (match env[i]? with
  | some (some z) => .ok z st
  | _ => .bad) := rfl
@[simp] theorem s_eC : eC x env st = .ok (.v x) st := rfl
@[simp] theorem s_e1 {o : Val → Option SV} : e1 o fa env st = (fa env st).bind fun x st1 => outO ((x.val st1).bind o) st1 := rfl
@[simp] theorem s_e2 {o : Val → Val → Option SV} : e2 o fa fb env st = (fa env st).bind fun x st1 => (fb env st1).bind fun y st2 => outO ((x.val st2).bind fun a => (y.val st2).bind fun b => o a b) st2 := rfl
@[simp] theorem s_outO : outO (some z) st = .ok z st := rfl
@[simp] theorem s_outO0 : outO none st = .bad := rfl
@[simp] theorem s_val_v : (SV.v x).val st = some x := rfl
@[simp] theorem s_val_fl : (SV.fl xs).val st = some (.lst xs) := rfl
@[simp] theorem s_val_fd {t : Bool} {k : List (Val × Val)} : (SV.fd t k).val st = some (.dic t k) := rfl
@[simp] theorem s_val_loc {l : Nat} : (SV.loc l).val st = (match st[l]? with
    | some (.lst xs) => some (.lst xs)
    | some (.dic t kvs) => some (.dic t kvs)
    | _ => none) := rfl
@[simp] theorem s_froz_v : (SV.v x).froz = .v x := rfl
@[simp] theorem s_froz_fl : (SV.fl xs).froz = .v (.lst xs) := rfl
@[simp] theorem s_froz_fd {t : Bool} {k : List (Val × Val)} : (SV.fd t k).froz = .v (.dic t k) := rfl
@[simp] theorem s_froz_loc {l : Nat} : (SV.loc l).froz = .loc l := rfl
@[simp] theorem s_outB {b : Bool} : outB (some (.v (.bl b))) st = .ok b st := rfl
@[simp] theorem s_tV : tV fa env st = (fa env st).bind fun x st1 => outB (some x) st1 := rfl
@[simp] theorem s_tAnd : tAnd ta tb env st = (ta env st).bind fun b st1 => if b = true then tb env st1 else .ok false st1 := rfl
@[simp] theorem s_tOr : tOr ta tb env st = (ta env st).bind fun b st1 => if b = true then .ok true st1 else tb env st1 := rfl
@[simp] theorem s_tNot : tNot ta env st = (ta env st).bind fun b st1 => .ok (!b) st1 := rfl
@[simp] theorem s_asB {b : Bool} : asB (.v (.bl b)) = some b := rfl
@[simp] theorem s_sel {γ : Type} {b : Bool} {p q r : γ} : sel3 (some b) p q r = if b = true then p else q := by cases b <;> rfl
@[simp] theorem s_eAnd : eAnd fa fb env st = (fa env st).bind fun x st1 => sel3 (asB x) (fb env st1) (.ok (.v (.bl false)) st1) .bad := by
  unfold eAnd
  cases fa env st with
  | ok z s =>
    simp only [s_bind_ok]
    cases asB z with
    | none => rfl
    | some b => cases b <;> rfl
  | _ => rfl
@[simp] theorem s_eOr : eOr fa fb env st = (fa env st).bind fun x st1 => sel3 (asB x) (.ok (.v (.bl true)) st1) (fb env st1) .bad := by
  unfold eOr
  cases fa env st with
  | ok z s =>
    simp only [s_bind_ok]
    cases asB z with
    | none => rfl
    | some b => cases b <;> rfl
  | _ => rfl
@[simp] theorem s_eNot : eNot fa env st = (fa env st).bind fun x st1 => sel3 (asB x) (.ok (.v (.bl false)) st1) (.ok (.v (.bl true)) st1) .bad := by
  unfold eNot
  cases fa env st with
  | ok z s =>
    simp only [s_bind_ok]
    cases asB z with
    | none => rfl
    | some b => cases b <;> rfl
  | _ => rfl
@[simp] theorem s_eIf : eIf ta fa fb env st = (ta env st).bind fun b st1 => if b = true then fa env st1 else fb env st1 := rfl
@[simp] theorem s_aNil : aNil env st = .ok [] st := rfl
@[simp] theorem s_aCons : aCons fa fr env st = (fa env st).bind fun x st1 => (fr env st1).bind fun xs st2 => .ok (x.froz :: xs) st2 := rfl
@[simp] theorem s_eChain {o o' : Val → Val → Option SV} : eChain o o' fa fb fc env st = (fa env st).bind fun x st1 => (fb env st1).bind fun y st2 =>
  sel3 (((x.val st2).bind fun a => (y.val st2).bind fun b => o a b).bind asB) ((fc env st2).bind fun z st3 => outO ((y.val st3).bind fun b => (z.val st3).bind fun c => o' b c) st3) (.ok (.v (.bl false)) st2) .bad := by
  unfold eChain
  cases fa env st with
  | ok x s1 =>
    simp only [s_bind_ok]
    cases fb env s1 with
    | ok y s2 =>
      simp only [s_bind_ok]
      cases ((x.val s2).bind fun a => (y.val s2).bind fun b => o a b).bind asB with
      | none => rfl
      | some b => cases b <;> rfl
    | _ => rfl
  | _ => rfl
@[simp] theorem s_sNil : sNil env st = .nx env st := rfl
@[simp] theorem s_andThen_nx {g : Fs} : (Rs.nx env st).andThen g = g env st := rfl
@[simp] theorem s_andThen_rt {g : Fs} : (Rs.rt z st).andThen g = .rt z st := rfl
@[simp] theorem s_sSeq {f g : Fs} : sSeq f g env st = (f env st).andThen g := rfl
@[simp] theorem s_toS {f : SV → Sto → Rs} : (Rv.ok z st).toS env f = f z st := rfl
@[simp] theorem s_toSB {b : Bool} {f : Bool → Sto → Rs} : (Rv.ok b st).toSB env f = f b st := rfl
@[simp] theorem s_sExpr : sExpr fa env st = (fa env st).toS env fun _ st1 => .nx env st1 := rfl
@[simp] theorem s_sRet : sRet fa env st = (fa env st).toS env fun z st1 => .rt z st1 := rfl
@[simp] theorem s_sIf {f g : Fs} : sIf ta f g env st = (ta env st).toSB env fun b st1 => if b = true then f env st1 else g env st1 := rfl
@[simp] theorem s_frz_v {n : Nat} {B : List Nat} : Md.run .f n B (.v x) env st = some (.v x, env, st) := rfl
@[simp] theorem s_frz_fl {n : Nat} {B : List Nat} : Md.run .f n B (.fl xs) env st = some (.v (.lst xs), env, st) := rfl
@[simp] theorem s_frz_fd {n : Nat} {B : List Nat} {t : Bool} {k : List (Val × Val)} : Md.run .f n B (.fd t k) env st = some (.v (.dic t k), env, st) := rfl
@[simp] theorem s_bnd {n j : Nat} {B : List Nat} : Md.run (.c j) n B z env st = bnd n j z env st := rfl
@[simp] theorem s_setAll0 : setAll env [] [] = some env := rfl
@[simp] theorem s_setAll {i : Nat} {is : List Nat} {zs : List SV} : setAll env (i :: is) (z :: zs) = setAll (env.set i (some z)) is zs := rfl
@[simp] theorem s_bNil : bNil env st = .ok [] env st := rfl
@[simp] theorem s_rbS {zs : List SV} {f : List SV → Env → Sto → Rs} : (Rb.ok zs env st).toS f = f zs env st := rfl
@[simp] theorem s_sPar {is : List Nat} {fb : Fb} : sPar is fb env st = (fb env st).toS fun zs env' st' => match setAll env' is zs with
  | some env2 => .nx env2 st'
  | none => .bad := rfl
@[simp] theorem s_gN {i : Nat} : gN i z env st = .nx (env.set i (some z)) st := rfl
@[simp] theorem s_gsNil : gsNil [] env st = .nx env st := rfl
@[simp] theorem s_gsCons {g : Fg} {r : List SV → Fs} {zs : List SV} : gsCons g r (z :: zs) env st = (g z env st).andThen (r zs) := rfl
@[simp] theorem s_sTup {fb : Fb} {g : List SV → Fs} : sTup fb g env st = (fb env st).toS fun zs env' st' => match g zs env' st' with
  | .nx env2 st2 => .nx env2 st2
  | _ => .bad := rfl
@[simp] theorem s_eCall {c : Fc} : eCall c fr env st = (fr env st).bind fun zs st1 => c zs st1 := rfl
@[simp] theorem s_valsOf0 : valsOf st [] = some [] := rfl
@[simp] theorem s_valsOf {zs : List SV} : valsOf st (z :: zs) = (match z.val st, valsOf st zs with
    | some x, some xs => some (x :: xs)
    | _, _ => none) := rfl
@[simp] theorem s_eB {o : List Val → Option SV} : eB o fr env st = (fr env st).bind fun zs st1 => outO ((valsOf st1 zs).bind o) st1 := rfl
@[simp] theorem s_eM {T : String} {o : Val → List Val → Option SV} : eM T o fo fr env st = (fo env st).bind fun z st1 => if rcv T (z.val st1) = true then
  (fr env st1).bind fun zs st2 => outO ((z.val st2).bind fun a => (valsOf st2 zs).bind fun as => o a as) st2 else .bad := rfl
@[simp] theorem s_rcv_str : rcv "str" (some (.str s)) = true := rfl
@[simp] theorem s_rcv_lst : rcv "list" (some (.lst xs)) = true := rfl
@[simp] theorem s_pNo : pNo env st = .ok none st := rfl
@[simp] theorem s_pAt : pAt fa env st = (fa env st).bind pInt := rfl
@[simp] theorem s_pInt : pInt (.v (.int i)) st = .ok (some i) st := rfl
@[simp] theorem s_eSl {fl fu : Fp} : eSl fa fl fu env st = (fa env st).bind fun x st1 => (fl env st1).bind fun lo st2 => (fu env st2).bind fun hi st3 => outO ((x.val st3).bind fun a => vSl a lo hi) st3 := rfl
@[simp] theorem s_frzAll0 : frzAll [] = some [] := rfl
@[simp] theorem s_frzAll {zs : List SV} : frzAll (.v x :: zs) = (frzAll zs).map (x :: ·) := by
  simp only [frzAll]
  cases frzAll zs <;> rfl
@[simp] theorem s_eTup : eTup fr env st = (fr env st).bind fun zs st1 => if zs.length ≤ 1000000 then outO ((frzAll zs).map fun xs => .v (.tup xs)) st1 else .bad := rfl
@[simp] theorem s_eLst : eLst fr env st = (fr env st).bind fun zs st1 => if zs.length ≤ 1000000 then outO ((frzAll zs).map fun xs => .fl xs) st1 else .bad := rfl
@[simp] theorem s_eDic {t : Bool} : eDic t env st = .ok (.fd t []) st := rfl
@[simp] theorem s_tYes : tYesF env st = .ok true st := rfl
@[simp] theorem s_bind_n {i : Nat} : bindP (.n i) x env = some (env.set i (some (.v x))) := rfl
@[simp] theorem s_bind_t {is : List Nat} : bindP (.t is) (.tup xs) env = setAll env is (xs.map .v) := rfl
@[simp] theorem s_retV {n : Nat} : retV n (.v x) st = some (.v x) := rfl
@[simp] theorem s_retF {n : Nat} : retV n (.fl xs) st = some (.fl xs) := rfl
@[simp] theorem s_wipe0 : wipeE env [] = env := rfl
@[simp] theorem s_wipe {v : Nat} {vs : List Nat} : wipeE env (v :: vs) = (wipeE env vs).set v none := rfl
@[simp] theorem s_fresh {st : Sto} : (Rv.ok xs st).fresh = .ok (.fl xs) st := rfl
/-! the ops -/
@[simp] theorem s_add : vAdd (.int i) (.int j) = some (.v (.int (i + j))) := rfl
@[simp] theorem s_addS : vAdd (.str s) (.str t) = if SOk (s ++ t) = true then some (.v (.str (s ++ t))) else none := rfl
@[simp] theorem s_addT : vAdd (.tup xs) (.tup ys) = if xs.length + ys.length ≤ 1000000 then some (.v (.tup (xs ++ ys))) else none := rfl
@[simp] theorem s_addL : vAdd (.lst xs) (.lst ys) = if xs.length + ys.length ≤ 1000000 then some (.fl (xs ++ ys)) else none := rfl
@[simp] theorem s_sub : vSub (.int i) (.int j) = some (.v (.int (i - j))) := rfl
theorem mul_ok (h : mulOk i = true) : vMul (.int i) (.int j) = some (.v (.int (i * j))) := by
  show (if (mulOk i || mulOk j) = true then some (SV.v (Val.int (i * j))) else none) = _
  rw [h]
  rfl
@[simp] theorem s_div : vDiv (.int i) (.int j) = if (decide (0 < j) && decide (j < 1073741824)) = true then some (.v (.int (i / j))) else none := rfl
@[simp] theorem s_mod : vMod (.int i) (.int j) = if 0 < j then some (.v (.int (i % j))) else none := rfl
@[simp] theorem s_eq : vEq x y = if (okD x 32 && okD y 32) = true then some (.v (.bl (eqB x y))) else none := rfl
@[simp] theorem s_ne : vNe x y = if (okD x 32 && okD y 32) = true then some (.v (.bl (!eqB x y))) else none := rfl
@[simp] theorem s_lt : vLt (.int i) (.int j) = some (.v (.bl (decide (i < j)))) := rfl
@[simp] theorem s_ltS : vLt (.str s) (.str t) = some (.v (.bl (decide (s < t)))) := rfl
@[simp] theorem s_le : vLe (.int i) (.int j) = some (.v (.bl (decide (i ≤ j)))) := rfl
@[simp] theorem s_gt : vGt (.int i) (.int j) = some (.v (.bl (decide (j < i)))) := rfl
@[simp] theorem s_ge : vGe (.int i) (.int j) = some (.v (.bl (decide (j ≤ i)))) := rfl
@[simp] theorem s_is : vIs x .non = if isGlb x = true then none else some (.v (.bl (isNon x))) := by cases x <;> rfl
@[simp] theorem s_isB {b c : Bool} : vIs (.bl b) (.bl c) = some (.v (.bl (b == c))) := rfl
@[simp] theorem s_isn : vIsN x .non = if isGlb x = true then none else some (.v (.bl (!isNon x))) := by cases x <;> rfl
@[simp] theorem s_isnB {b c : Bool} : vIsN (.bl b) (.bl c) = some (.v (.bl (!(b == c)))) := rfl
@[simp] theorem s_ixT : vIx (.tup xs) (.int i) = (atI xs i).map .v := rfl
@[simp] theorem s_ixL : vIx (.lst xs) (.int i) = (atI xs i).map .v := rfl
@[simp] theorem s_ixS : vIx (.str s) (.int i) = (atI s i).map fun c => .v (.str [c]) := rfl
@[simp] theorem s_slT {lo hi : Option Int} : vSl (.tup xs) lo hi = some (.v (.tup (cutL xs lo hi))) := rfl
@[simp] theorem s_slL {lo hi : Option Int} : vSl (.lst xs) lo hi = some (.fl (cutL xs lo hi)) := rfl
@[simp] theorem s_slS {lo hi : Option Int} : vSl (.str s) lo hi = some (.v (.str (cutL s lo hi))) := rfl
@[simp] theorem s_in : vIn x y = (inB x y).map fun b => .v (.bl b) := rfl
@[simp] theorem s_notin : vNotIn x y = (inB x y).map fun b => .v (.bl (!b)) := rfl
theorem s_inT : inB x (.tup ys) = if (flatA x && ys.all flatA) = true then some (ys.any fun y => eqB y x) else none := by cases x <;> rfl
@[simp] theorem s_inS {c : Nat} : inB (.str [c]) (.str s) = some (decide (c ∈ s)) := rfl
@[simp] theorem s_lenT : vLen [.tup xs] = some (.v (.int xs.length)) := rfl
@[simp] theorem s_lenL : vLen [.lst xs] = some (.v (.int xs.length)) := rfl
@[simp] theorem s_lenS : vLen [.str s] = some (.v (.int s.length)) := rfl
@[simp] theorem s_abs : vAbs [.int i] = some (.v (.int (if i < 0 then -i else i))) := rfl
@[simp] theorem s_int : vInt [.int i] = some (.v (.int i)) := rfl
@[simp] theorem s_str : vStr [.str s] = some (.v (.str s)) := rfl
@[simp] theorem s_tupL : vTuple [.lst xs] = some (.v (.tup xs)) := rfl
@[simp] theorem s_tupT : vTuple [.tup xs] = some (.v (.tup xs)) := rfl
@[simp] theorem s_listT : vList [.tup xs] = some (.fl xs) := rfl
@[simp] theorem s_listL : vList [.lst xs] = some (.fl xs) := rfl
@[simp] theorem s_listQ : vList [.seq xs] = some (.fl xs) := rfl
@[simp] theorem s_all : vAll [.lst xs] = (blsOf xs).map fun bs => .v (.bl (bs.all id)) := rfl
@[simp] theorem s_any : vAny [.lst xs] = (blsOf xs).map fun bs => .v (.bl (bs.any id)) := rfl
@[simp] theorem s_isiI (n : String) : vIsi [x, .ty n] = (isiV x n).map fun b => .v (.bl b) := rfl
end
section
variable {i : Int} {b : Bool} {s : List Nat} {xs : List Val}
@[simp] theorem isi_ii : isiV (.int i) "int" = some true := rfl
@[simp] theorem isi_ib : isiV (.int i) "bool" = some false := rfl
@[simp] theorem isi_is : isiV (.int i) "str" = some false := rfl
@[simp] theorem isi_it : isiV (.int i) "tuple" = some false := rfl
@[simp] theorem isi_bi : isiV (.bl b) "int" = some true := rfl
@[simp] theorem isi_bb : isiV (.bl b) "bool" = some true := rfl
@[simp] theorem isi_bs : isiV (.bl b) "str" = some false := rfl
@[simp] theorem isi_bt : isiV (.bl b) "tuple" = some false := rfl
@[simp] theorem isi_si : isiV (.str s) "int" = some false := rfl
@[simp] theorem isi_sb : isiV (.str s) "bool" = some false := rfl
@[simp] theorem isi_ss : isiV (.str s) "str" = some true := rfl
@[simp] theorem isi_st : isiV (.str s) "tuple" = some false := rfl
@[simp] theorem isi_ti : isiV (.tup xs) "int" = some false := rfl
@[simp] theorem isi_tb : isiV (.tup xs) "bool" = some false := rfl
@[simp] theorem isi_ts : isiV (.tup xs) "str" = some false := rfl
@[simp] theorem isi_tt : isiV (.tup xs) "tuple" = some true := rfl
@[simp] theorem isi_li : isiV (.lst xs) "int" = some false := rfl
@[simp] theorem isi_lb : isiV (.lst xs) "bool" = some false := rfl
@[simp] theorem isi_ls : isiV (.lst xs) "str" = some false := rfl
@[simp] theorem isi_lt : isiV (.lst xs) "tuple" = some false := rfl
@[simp] theorem isi_ni : isiV .non "int" = some false := rfl
@[simp] theorem isi_nb : isiV .non "bool" = some false := rfl
@[simp] theorem isi_ns : isiV .non "str" = some false := rfl
@[simp] theorem isi_nt : isiV .non "tuple" = some false := rfl
end
@[simp] theorem s_rbcons {z : SV} {zs : List SV} {env : Env} {st : Sto} : Rb.cons z (.ok zs env st) = .ok (z :: zs) env st := rfl
def onI (g : Int → Val) : Val → Val
  | .int i => g i
  | _ => .non
@[simp] theorem onI_int (g : Int → Val) (i : Int) : onI g (.int i) = g i := rfl
def onS (g : List Nat → Val) : Val → Val
  | .str i => g i
  | _ => .non
@[simp] theorem onS_str (g : List Nat → Val) (i : List Nat) : onS g (.str i) = g i := rfl
def onIb (g : Int → Bool) : Val → Bool
  | .int i => g i
  | _ => false
@[simp] theorem onIb_int (g : Int → Bool) (i : Int) : onIb g (.int i) = g i := rfl
section
variable {i : Int} {b t : Bool} {s : List Nat} {xs : List Val} {k : List (Val × Val)}
@[simp] theorem ig_n : isGlb .non = false := rfl
@[simp] theorem ig_b : isGlb (.bl b) = false := rfl
@[simp] theorem ig_i : isGlb (.int i) = false := rfl
@[simp] theorem ig_s : isGlb (.str s) = false := rfl
@[simp] theorem ig_t : isGlb (.tup xs) = false := rfl
@[simp] theorem ig_l : isGlb (.lst xs) = false := rfl
@[simp] theorem ig_d : isGlb (.dic t k) = false := rfl
@[simp] theorem in_n : isNon .non = true := rfl
@[simp] theorem in_b : isNon (.bl b) = false := rfl
@[simp] theorem in_i : isNon (.int i) = false := rfl
@[simp] theorem in_s : isNon (.str s) = false := rfl
@[simp] theorem in_t : isNon (.tup xs) = false := rfl
@[simp] theorem in_l : isNon (.lst xs) = false := rfl
@[simp] theorem in_d : isNon (.dic t k) = false := rfl
end
/-! ### statements, step by step -/
section
variable {env env1 : Env} {st st1 st2 : Sto} {f g : Fs} {t : Ft} {z : SV} {fa : Fe} {x : Val}
theorem seq_nx (h : f env st = .nx env1 st1) : sSeq f g env st = g env1 st1 := by unfold sSeq; rw [h]; rfl
theorem seq_rt (h : f env st = .rt z st1) : sSeq f g env st = .rt z st1 := by unfold sSeq; rw [h]; rfl
theorem if_t (h : t env st = .ok true st1) : sIf t f g env st = f env st1 := by unfold sIf; rw [h]; rfl
theorem if_f (h : t env st = .ok false st1) : sIf t f g env st = g env st1 := by unfold sIf; rw [h]; rfl
theorem ret_v (h : fa env st = .ok z st1) : sRet fa env st = .rt z st1 := by unfold sRet; rw [h]; rfl
theorem exp_v (h : fa env st = .ok z st1) : sExpr fa env st = .nx env st1 := by unfold sExpr; rw [h]; rfl
theorem set_f {n i : Nat} (h : fa env st = .ok z st1) (hz : z.froz = .v x) (hn : ∀ l, z ≠ .loc l) : sSet .f n [] i fa env st = .nx (env.set i (some (.v x))) st1 := by
  unfold sSet
  rw [h]
  cases z with
  | v y => cases hz; rfl
  | fl y => cases hz; rfl
  | fd t y => cases hz; rfl
  | loc l => exact absurd rfl (hn l)
theorem set_v {n i : Nat} (h : fa env st = .ok (.v x) st1) : sSet .f n [] i fa env st = .nx (env.set i (some (.v x))) st1 := set_f h rfl fun _ e => by cases e
theorem set_l {n i : Nat} {xs : List Val} (h : fa env st = .ok (.fl xs) st1) : sSet .f n [] i fa env st = .nx (env.set i (some (.v (.lst xs)))) st1 := set_f h rfl fun _ e => by cases e
end
/-! steps that leave the store -/
section
variable {env env1 : Env} {st : Sto} {f g h : Fs} {t : Ft} {z : SV} {fa : Fe} {x : Val} {r : Rs}
theorem stF (ht : t env st = .ok false st) (k : h env st = r) : sSeq (sIf t f sNil) h env st = r := (seq_nx (if_f ht)).trans k
theorem stT {z : SV} {st1 : Sto} (ht : t env st = .ok true st) (k : f env st = .rt z st1) : sSeq (sIf t f g) h env st = .rt z st1 := seq_rt ((if_t ht).trans k)
theorem stV {n i : Nat} (hf : fa env st = .ok (.v x) st) (k : h (env.set i (some (.v x))) st = r) : sSeq (sSet .f n [] i fa) h env st = r := (seq_nx (set_v hf)).trans k
theorem stL {n i : Nat} {xs : List Val} (hf : fa env st = .ok (.fl xs) st) (k : h (env.set i (some (.v (.lst xs)))) st = r) : sSeq (sSet .f n [] i fa) h env st = r := (seq_nx (set_l hf)).trans k
theorem stE (hf : fa env st = .ok z st) (k : h env st = r) : sSeq (sExpr fa) h env st = r := (seq_nx (exp_v hf)).trans k
end
section
variable {env : Env} {st st1 : Sto} {fa fb : Fe} {b : Bool} {x : Val} {r : Rv SV}
theorem tn_v (h : fa env st = .ok (.v (.bl b)) st1) : tNot (tV fa) env st = .ok (!b) st1 := by simp [h]
theorem tv_v (h : fa env st = .ok (.v (.bl b)) st1) : tV fa env st = .ok b st1 := by simp [h]
theorem ea_t (h : fa env st = .ok (.v (.bl true)) st1) (k : fb env st1 = r) : eAnd fa fb env st = r := by simp [h, k]
theorem ea_f (h : fa env st = .ok (.v (.bl false)) st1) : eAnd fa fb env st = .ok (.v (.bl false)) st1 := by simp [h]
theorem e2_ok {o : Val → Val → Option SV} {y : Val} {z : SV} (ha : fa env st = .ok (.v x) st) (hb : fb env st = .ok (.v y) st) (ho : o x y = some z) : e2 o fa fb env st = .ok z st := by
  unfold e2
  rw [ha, s_bind_ok, hb, s_bind_ok]
  show outO (o x y) st = _
  rw [ho]
  rfl
theorem e2_g {o : Val → Val → Option SV} {y : Val} {z za zb : SV} (ha : fa env st = .ok za st) (hb : fb env st = .ok zb st) (va : za.val st = some x) (vb : zb.val st = some y) (ho : o x y = some z) : e2 o fa fb env st = .ok z st := by
  unfold e2
  rw [ha, s_bind_ok, hb, s_bind_ok, va, vb]
  show outO (o x y) st = _
  rw [ho]
  rfl
theorem e2_h {o : Val → Val → Option SV} {y : Val} {z za zb : SV} {st2 : Sto} (ha : fa env st = .ok za st1) (hb : fb env st1 = .ok zb st2) (va : za.val st2 = some x) (vb : zb.val st2 = some y) (ho : o x y = some z) : e2 o fa fb env st = .ok z st2 := by
  unfold e2
  rw [ha, s_bind_ok, hb, s_bind_ok, va, vb]
  show outO (o x y) st2 = _
  rw [ho]
  rfl
theorem ar_1 {z1 : SV} (h1 : fa env st = .ok z1 st) : aCons fa aNil env st = .ok [z1.froz] st := by simp [h1]
theorem ar_c {z1 : SV} {fr : Env → Sto → Rv (List SV)} {zs : List SV} (h1 : fa env st = .ok z1 st) (h2 : fr env st = .ok zs st) : aCons fa fr env st = .ok (z1.froz :: zs) st := by simp [h1, h2]
theorem ec_ok {c : Fc} {fr : Env → Sto → Rv (List SV)} {zs : List SV} (h : fr env st = .ok zs st1) (k : c zs st1 = r) : eCall c fr env st = r := by simp [h, k]
theorem ec_1 {c : Fc} (h : fa env st = .ok (.v x) st1) (k : c [.v x] st1 = r) : eCall c (aCons fa aNil) env st = r := by simp [h, k]
end
theorem bc_v {n : Nat} {fa : Fe} {fr : Fb} {env : Env} {st st1 st2 : Sto} {x : Val} {zs : List SV} (h : fa env st = .ok (.v x) st1) (k : fr env st1 = .ok zs env st2) : bCons .f n [] fa fr env st = .ok (.v x :: zs) env st2 := by
  unfold bCons
  rw [h]
  simp [k]
theorem bc_c {n j : Nat} {fa : Fe} {fr : Fb} {env env1 env3 : Env} {st st1 st2 st3 : Sto} {z z' : SV} {zs : List SV} (h : fa env st = .ok z st1) (hb : bnd n j z env st1 = some (z', env1, st2)) (k : fr env1 st2 = .ok zs env3 st3) : bCons (.c j) n [] fa fr env st = .ok (z' :: zs) env3 st3 := by
  unfold bCons
  rw [h]
  simp [hb, k]
theorem tup_nx {fb : Fb} {g : List SV → Fs} {env env1 env2 : Env} {st st1 st2 : Sto} {zs : List SV} (h : fb env st = .ok zs env1 st1) (k : g zs env1 st1 = .nx env2 st2) : sTup fb g env st = .nx env2 st2 := by
  rw [s_sTup, h]
  simp [k]
/-! ### a def -/
theorem call_rt {N m : Nat} {body : Nat → Fs} {zs : List SV} {st st' : Sto} {z z' : SV} (h : body st.length (zs.map some ++ List.replicate (N - zs.length) none) (st ++ List.replicate m .dead) = .rt z st') (hz : retV st.length z st' = some z') : callF N m body zs st = .ok z' (st'.take st.length) := by
  unfold callF
  rw [h]
  simp only [hz]
theorem call_rt0 {N : Nat} {body : Nat → Fs} {zs : List SV} {st st' : Sto} {x : Val} (h : body st.length (zs.map some ++ List.replicate (N - zs.length) none) st = .rt (.v x) st') (hl : st'.length = st.length) : callF N 0 body zs st = .ok (.v x) st' := by
  rw [call_rt (z := .v x) (z' := .v x) (st' := st') (by simpa using h) rfl, ← hl, List.take_length]
/-- a def without cells that hands back a value -/
theorem call_v {N : Nat} {body : Nat → Fs} {zs : List SV} {st : Sto} {x : Val} (h : body st.length (zs.map some ++ List.replicate (N - zs.length) none) st = .rt (.v x) st) : callF N 0 body zs st = .ok (.v x) st := by
  rw [call_rt (z := .v x) (z' := .v x) (st' := st) (by simpa using h) rfl]
  simp
theorem call_fl {N : Nat} {body : Nat → Fs} {zs : List SV} {st : Sto} {x : List Val} (h : body st.length (zs.map some ++ List.replicate (N - zs.length) none) st = .rt (.fl x) st) : callF N 0 body zs st = .ok (.fl x) st := by
  rw [call_rt (z := .fl x) (z' := .fl x) (st' := st) (by simpa using h) rfl]
  simp
theorem call_nx {N : Nat} {body : Nat → Fs} {zs : List SV} {st : Sto} {env : Env} (h : body st.length (zs.map some ++ List.replicate (N - zs.length) none) st = .nx env st) : callF N 0 body zs st = .ok (.v .non) st := by
  unfold callF
  simp only [List.replicate_zero, List.append_nil]
  rw [h]
  simp
/-! ### loops -/
theorem forSeq_inv {bd : Val → Fs} : ∀ (xs : List Val) (Iv : Nat → Env → Sto → Prop) {env : Env} {st : Sto}, Iv 0 env st → (∀ i x env st, xs[i]? = some x → Iv i env st → ∃ env' st', bd x env st = .nx env' st' ∧ Iv (i + 1) env' st') →
    ∃ env' st', forSeq bd xs env st = .nx env' st' ∧ Iv xs.length env' st'
  | [], Iv, env, st, h0, _ => ⟨env, st, rfl, h0⟩
  | x :: xs, Iv, env, st, h0, hs => by
    obtain ⟨e1, s1, h1, h2⟩ := hs 0 x env st rfl h0
    obtain ⟨e2, s2, h3, h4⟩ := forSeq_inv xs (fun i => Iv (i + 1)) h2 fun i y e s hy hi => hs (i + 1) y e s (by simpa using hy) hi
    exact ⟨e2, s2, by rw [forSeq, h1]; exact h3, h4⟩
theorem for_inv {fi : Fi} {p : Pat} {n : Nat} {B : List Nat} {body : Fs} {xs : List Val} (Iv : Nat → Env → Sto → Prop) {env : Env} {st st1 : Sto} (hf : fi env st = .ok (.seq xs) st1) (h0 : Iv 0 env st1)
    (hs : ∀ i x env st, xs[i]? = some x → Iv i env st → ∃ env1, bindP p x env = some env1 ∧ ∃ env' st', body env1 st = .nx env' st' ∧ Iv (i + 1) env' st') :
    ∃ env' st', sFor fi p n B body env st = .nx env' st' ∧ Iv xs.length env' st' := by
  unfold sFor
  rw [hf]
  refine forSeq_inv xs Iv h0 fun i x env st hx hi => ?_
  obtain ⟨env1, h1, h2⟩ := hs i x env st hx hi
  rw [h1]
  exact h2
/-! ### comprehensions that only reckon -/
theorem compSeq_map {p : Pat} {t : Ft} {fe : Fe} {env0 : Env} {st : Sto} (c : Val → Bool) (g : Val → Val) : ∀ (xs acc : List Val), (∀ x ∈ xs, ∃ env, bindP p x env0 = some env ∧ t env st = .ok (c x) st ∧ (c x = true → ∃ z, fe env st = .ok z st ∧ z.froz = .v (g x))) →
    compSeq p t fe env0 xs acc st = .ok (acc ++ (xs.filter c).map g) st
  | [], acc, _ => by simp [compSeq]
  | x :: xs, acc, h => by
    obtain ⟨env, h1, h2, h3⟩ := h x List.mem_cons_self
    have ih := fun acc => compSeq_map c g xs acc fun y hy => h y (List.mem_cons_of_mem _ hy)
    unfold compSeq
    rw [h1]
    simp only [h2, s_bind_ok]
    cases e : c x with
    | false =>
      simp only [Bool.false_eq_true, if_false]
      rw [ih, List.filter_cons_of_neg (by simp [e])]
    | true =>
      obtain ⟨z, h4, h5⟩ := h3 e
      simp only [if_true, h4, s_bind_ok, h5]
      rw [ih, List.filter_cons_of_pos e]
      simp
/-- .. over what is told -/
theorem comp_map {fi : Fi} {p : Pat} {t : Ft} {fe : Fe} {vs : List Nat} {env : Env} {st : Sto} {xs : List Val} (c : Val → Bool) (g : Val → Val) (hf : fi env st = .ok (.seq xs) st) (hl : xs.length ≤ 1000000)
    (h : ∀ x ∈ xs, ∃ env', bindP p x (wipeE env vs) = some env' ∧ t env' st = .ok (c x) st ∧ (c x = true → ∃ z, fe env' st = .ok z st ∧ z.froz = .v (g x))) : eComp fi p t fe vs env st = .ok (.fl ((xs.filter c).map g)) st := by
  unfold eComp
  rw [hf]
  simp only [s_bind_ok, hl, if_true]
  rw [compSeq_map c g xs [] h]
  simp
/-- no condition -/
theorem comp_all {fi : Fi} {p : Pat} {fe : Fe} {vs : List Nat} {env : Env} {st : Sto} {xs : List Val} (g : Val → Val) (hf : fi env st = .ok (.seq xs) st) (hl : xs.length ≤ 1000000)
    (h : ∀ x ∈ xs, ∃ env', bindP p x (wipeE env vs) = some env' ∧ ∃ z, fe env' st = .ok z st ∧ z.froz = .v (g x)) : eComp fi p tYesF fe vs env st = .ok (.fl (xs.map g)) st := by
  rw [comp_map (fun _ => true) g hf hl fun x hx => ?_]
  · rw [List.filter_eq_self.mpr fun _ _ => rfl]
  · obtain ⟨env', h1, h2⟩ := h x hx
    exact ⟨env', h1, rfl, fun _ => h2⟩
theorem bls_map (g : Val → Bool) : ∀ xs : List Val, blsOf (xs.map fun x => .bl (g x)) = some (xs.map g)
  | [] => rfl
  | x :: xs => by simp only [List.map_cons, blsOf, bls_map g xs]
theorem strs_map : ∀ xs : List (List Nat), strsOf (xs.map .str) = some xs
  | [] => rfl
  | x :: xs => by simp only [List.map_cons, strsOf, strs_map xs]
theorem ints_map : ∀ xs : List Int, intsOf (xs.map .int) = some xs
  | [] => rfl
  | x :: xs => by simp only [List.map_cons, intsOf, ints_map xs]
/-- all([..]) -/
theorem all_comp {fi : Fi} {p : Pat} {fe : Fe} {vs : List Nat} {env : Env} {st : Sto} {xs : List Val} (g : Val → Bool) (hf : fi env st = .ok (.seq xs) st) (hl : xs.length ≤ 1000000)
    (h : ∀ x ∈ xs, ∃ env', bindP p x (wipeE env vs) = some env' ∧ fe env' st = .ok (.v (.bl (g x))) st) : eB vAll (aCons (eComp fi p tYesF fe vs) aNil) env st = .ok (.v (.bl (xs.all g))) st := by
  have e := comp_all (p := p) (fe := fe) (vs := vs) (fun x => .bl (g x)) hf hl fun x hx => let ⟨env', h1, h2⟩ := h x hx; ⟨env', h1, _, h2, rfl⟩
  rw [s_eB, s_aCons, e]
  simp only [s_bind_ok, s_aNil, s_froz_fl, s_valsOf, s_val_v, s_valsOf0, Option.bind_some, s_all, bls_map, Option.map_some, s_outO]
  simp [Function.comp_def]
/-! ### walks -/
theorem any_tup {fa : Fe} {env : Env} {st st1 : Sto} {xs : List Val} (h : fa env st = .ok (.v (.tup xs)) st1) : iAnyF fa env st = .ok (.seq xs) st1 := by unfold iAnyF; rw [h]; rfl
theorem any_lst {fa : Fe} {env : Env} {st st1 : Sto} {xs : List Val} (h : fa env st = .ok (.v (.lst xs)) st1) : iAnyF fa env st = .ok (.seq xs) st1 := by unfold iAnyF; rw [h]; rfl
theorem any_fl {fa : Fe} {env : Env} {st st1 : Sto} {xs : List Val} (h : fa env st = .ok (.fl xs) st1) : iAnyF fa env st = .ok (.seq xs) st1 := by unfold iAnyF; rw [h]; rfl
theorem any_str {fa : Fe} {env : Env} {st st1 : Sto} {s : List Nat} (h : fa env st = .ok (.v (.str s)) st1) : iAnyF fa env st = .ok (.seq (s.map fun c => .str [c])) st1 := by unfold iAnyF; rw [h]; rfl
/-! two clauses -/
theorem compSeq2_map {p p1 : Pat} {fi1 : Fi} {fe : Fe} {vs1 : List Nat} {env0 : Env} {st : Sto} (ys : Val → List Val) (g : Val → Val → Val) : ∀ (xs acc : List Val), acc.length + (xs.flatMap fun x => (ys x).map (g x)).length ≤ 1000000 →
    (∀ x ∈ xs, ∃ env, bindP p x env0 = some env ∧ fi1 env st = .ok (.seq (ys x)) st ∧ ∀ y ∈ ys x, ∃ env1, bindP p1 y (wipeE env vs1) = some env1 ∧ ∃ z, fe env1 st = .ok z st ∧ z.froz = .v (g x y)) →
    compSeq2 p tYesF fi1 p1 tYesF fe vs1 env0 xs acc st = .ok (acc ++ xs.flatMap fun x => (ys x).map (g x)) st
  | [], acc, _, _ => by simp [compSeq2]
  | x :: xs, acc, hl, h => by
    obtain ⟨env, h1, h2, h3⟩ := h x List.mem_cons_self
    rw [List.flatMap_cons, List.length_append, List.length_map] at hl
    have e1 := compSeq_map (p := p1) (t := tYesF) (fe := fe) (env0 := wipeE env vs1) (st := st) (fun _ => true) (g x) (ys x) acc fun y hy => by
      obtain ⟨env1, a, b⟩ := h3 y hy
      exact ⟨env1, a, rfl, fun _ => b⟩
    rw [List.filter_eq_self.mpr fun _ _ => rfl] at e1
    have ih := compSeq2_map ys g xs (acc ++ (ys x).map (g x)) (by rw [List.length_append, List.length_map]; omega) fun y hy => h y (List.mem_cons_of_mem _ hy)
    unfold compSeq2
    rw [h1]
    simp only [s_tYes, s_bind_ok, if_true, h2]
    rw [if_pos (by omega), e1]
    simp only [s_bind_ok]
    rw [ih]
    simp
theorem comp2_map {fi fi1 : Fi} {p p1 : Pat} {fe : Fe} {vs vs1 : List Nat} {env : Env} {st : Sto} {xs : List Val} (ys : Val → List Val) (g : Val → Val → Val) (hf : fi env st = .ok (.seq xs) st) (hl : (xs.flatMap fun x => (ys x).map (g x)).length ≤ 1000000)
    (h : ∀ x ∈ xs, ∃ env1, bindP p x (wipeE env vs) = some env1 ∧ fi1 env1 st = .ok (.seq (ys x)) st ∧ ∀ y ∈ ys x, ∃ env2, bindP p1 y (wipeE env1 vs1) = some env2 ∧ ∃ z, fe env2 st = .ok z st ∧ z.froz = .v (g x y)) :
    eComp2 fi p tYesF fi1 p1 tYesF fe vs vs1 env st = .ok (.fl (xs.flatMap fun x => (ys x).map (g x))) st := by
  unfold eComp2
  rw [hf]
  simp only [s_bind_ok]
  rw [compSeq2_map ys g xs [] (by simpa using hl) h]
  simp
/-! comprehensions that draw -/
theorem compSeq_st {p : Pat} {fe : Fe} {env0 : Env} (Iv : Sto → Prop) (Pv : Val → Prop) : ∀ (xs acc : List Val) (st : Sto), Iv st → (∀ x ∈ xs, ∀ st, Iv st → ∃ env, bindP p x env0 = some env ∧ ∃ z st', fe env st = .ok z st' ∧ (∃ y, z.froz = .v y ∧ Pv y) ∧ Iv st') →
    ∃ ys st', compSeq p tYesF fe env0 xs acc st = .ok (acc ++ ys) st' ∧ ys.length = xs.length ∧ (∀ y ∈ ys, Pv y) ∧ Iv st'
  | [], acc, st, h0, _ => ⟨[], st, by simp [compSeq], rfl, (fun _ h => by cases h), h0⟩
  | x :: xs, acc, st, h0, h => by
    obtain ⟨env, h1, z, s1, h2, ⟨y, h3, h4⟩, h5⟩ := h x List.mem_cons_self st h0
    obtain ⟨ys, s2, h6, h7, h8, h9⟩ := compSeq_st Iv Pv xs (acc ++ [y]) s1 h5 fun q hq => h q (List.mem_cons_of_mem _ hq)
    refine ⟨y :: ys, s2, ?_, by simp [h7], fun q hq => ?_, h9⟩
    · unfold compSeq
      rw [h1]
      simp only [s_tYes, s_bind_ok, if_true, h2, h3]
      rw [h6]
      simp
    · rcases List.mem_cons.mp hq with rfl | hq
      · exact h4
      · exact h8 q hq
theorem comp_st {fi : Fi} {p : Pat} {fe : Fe} {vs : List Nat} {env : Env} {st st1 : Sto} {xs : List Val} (Iv : Sto → Prop) (Pv : Val → Prop) (hf : fi env st = .ok (.seq xs) st1) (hl : xs.length ≤ 1000000) (h0 : Iv st1)
    (h : ∀ x ∈ xs, ∀ st, Iv st → ∃ env', bindP p x (wipeE env vs) = some env' ∧ ∃ z st', fe env' st = .ok z st' ∧ (∃ y, z.froz = .v y ∧ Pv y) ∧ Iv st') :
    ∃ ys st', eComp fi p tYesF fe vs env st = .ok (.fl ys) st' ∧ ys.length = xs.length ∧ (∀ y ∈ ys, Pv y) ∧ Iv st' := by
  obtain ⟨ys, s2, h6, h7⟩ := compSeq_st Iv Pv xs [] st1 h0 h
  refine ⟨ys, s2, ?_, h7⟩
  unfold eComp
  rw [hf]
  simp only [s_bind_ok, hl, if_true, h6]
  rfl
/-! keys that are texts -/
def dv (ws : List (List Nat)) : List (Val × Val) := ws.map fun w => (.str w, .bl true)
def addW (ws : List (List Nat)) (w : List Nat) : List (List Nat) := if w ∈ ws then ws else ws ++ [w]
theorem dHas_dv (ws : List (List Nat)) (w : List Nat) : dHas (dv ws) (.str w) = decide (w ∈ ws) := by
  unfold dHas dv
  rw [Bool.eq_iff_iff]
  simp [eqB]
theorem dPut_dv (ws : List (List Nat)) (w : List Nat) : dPut (dv ws) (.str w) (.bl true) = dv (addW ws w) := by
  unfold dPut addW
  rw [dHas_dv]
  by_cases h : w ∈ ws
  · rw [if_pos h, decide_eq_true h, if_pos rfl]
    unfold dv
    rw [List.map_map]
    refine List.map_congr_left fun q _ => ?_
    simp only [Function.comp]
    split <;> rfl
  · rw [if_neg h, decide_eq_false h]
    simp [dv]
theorem addW_nodup {ws : List (List Nat)} {w : List Nat} (h : ws.Nodup) : (addW ws w).Nodup := by
  unfold addW
  split
  · exact h
  · rename_i hn
    rw [List.nodup_append]
    refine ⟨h, by simp, fun a ha b hb => ?_⟩
    have : b = w := by simpa using hb
    subst this
    exact fun e => hn (e ▸ ha)
theorem addW_len (ws : List (List Nat)) (w : List Nat) : (addW ws w).length ≤ ws.length + 1 := by
  unfold addW
  split <;> simp
theorem addW_pos (ws : List (List Nat)) (w : List Nat) : addW ws w ≠ [] := by
  unfold addW
  split
  · rename_i h
    intro e
    rw [e] at h
    cases h
  · simp
theorem addW_mem {ws : List (List Nat)} {w q : List Nat} (h : q ∈ addW ws w) : q ∈ ws ∨ q = w := by
  unfold addW at h
  split at h
  · exact .inl h
  · rcases List.mem_append.mp h with h | h
    · exact .inl h
    · exact .inr (by simpa using h)
theorem dv_len (ws : List (List Nat)) : (dv ws).length = ws.length := by simp [dv]
theorem dv_keys (ws : List (List Nat)) : strsOf ((dv ws).map (·.1)) = some ws := by
  have : (dv ws).map (·.1) = ws.map Val.str := by simp [dv, Function.comp_def]
  rw [this, strs_map]
theorem sort_dv {ws : List (List Nat)} (h : ws.length < 64) : vSort [.dic false (dv ws)] = some (.fl ((sortS ws).map .str)) := by
  show (match strsOf ((dv ws).map (·.1)) with
    | some ys => if ys.length < 64 then some (SV.fl ((sortS ys).map .str)) else none
    | none => none) = _
  rw [dv_keys]
  simp [h]
end Eng

namespace Eng
open PySem PySem.Spec PyProof.Rows L2
/-! ### defs that may raise -/
/-- a def's wish about what is raised -/
abbrev WF (E : XK) : WX := fun cls d _ H => E cls d H
theorem takesF {X : Cx} {E : XK} (hs : X.stack = X.env :: X.outer) (hf : X.env.frame = some X.env.locals) (hex : X.ex = []) {E₁ : Value → Shared → Prop}
    (hx : X.xe = fun e s' => wpAny (model X.prog X.w) X.A (leaving X.env e) (fun _ s'' => L2N.CX X.prog X.w X.outer X.H_0 X.s_0 E e s'') E₁ s') : L2N.Takes X (WF E) := L2N.takes_of hs hf hex hx
theorem takesO {X : Cx} : L2N.Takes X W0 := fun _ _ ⟨_, _, _, _, _, _, _, _, _, _, _, _, _, _, _, _, w⟩ => w.elim
section
variable {P : Program} {w : World} {K : PySem.W.Frag} {mg : Str → Option Value} {base : Heap} {L : Lx}
theorem fn_exc {x qual : Str} {s : Stmt} {f : Addr} {fd : FuncData} {N ps : List Str} {k m : Nat} {body : Nat → Fs} {B : List Nat} (F : L2.Fun K x qual s f fd) (S : FnScope N ps (defScope s))
    (hb : ∀ (A : Around) (outer : List PySem.Env) (s0 : Shared) (H : Hp) (E : XK) (n : Nat), Room k (A.deeper (envOfC qual (defScope s) s0.heap.objs.size f fd.code)) →
      L2N.Takes (cxOf (L2N.CX P w) P w K mg base N qual (defScope s) f fd.code A outer s0 H E) (WF E) →
      PassesOwn (model P w) (A.deeper (envOfC qual (defScope s) s0.heap.objs.size f fd.code)) (envOfC qual (defScope s) s0.heap.objs.size f fd.code) (cxOf (L2N.CX P w) P w K mg base N qual (defScope s) f fd.code A outer s0 H E).xe →
      ESs L (cxOf (L2N.CX P w) P w K mg base N qual (defScope s) f fd.code A outer s0 H E) (WF E) B n (defBody s) (body n)) :
    FnOk P w K mg base (L2N.CX P w) (k + 1) f fd ps (SpF ⟨K, mg, L.T, L.ex, L.tn⟩ ps.length (callF N.length m body)) := by
  obtain ⟨_, _, _, _, _, _, cv, _, _, rfl, lk, hcd⟩ := F.ex
  refine L2.fn_of lk hcd S (fun vs H Q E h => ?_) (fun A outer s0 H vs Q E hr h => ?_)
  · obtain ⟨zs, st, ρ, P', hl, rz, _⟩ := h
    rw [← rz.len]; exact hl
  · obtain ⟨zs, st, ρ, P', hl, rz, rs, p⟩ := h
    refine ⟨_, hb A outer s0 H E st.length hr (takesF rfl rfl rfl rfl) (L2.passes_of rfl), _, _, ρ ++ List.replicate m none, P', RepE.start (N := N) rz m rs.nt (fun l a e => ?_), rs.enter m, callF_post rz rs (fun _ _ _ _ z => z) p⟩
    have hlt : l < ρ.length := (List.getElem?_eq_some_iff.mp e).1
    rw [List.getElem?_append_left hlt]; exact e
end
section
variable {X : Cx} {L : Lx} {W : WX} {k i : Nat} {f : Addr} {fd : FuncData} {ps : List Str} {c : Fc} {x : Str} {p pos : Pos} {e : Expr} {es : List Expr} {fa : Env → Sto → Rv (List SV)}
theorem call_in {σ : L2.St} {H : Hp} {Q : VK} {n : Nat} (hl : ∀ env st zs st', fa env st = .ok zs st' → zs.length = n) {env : Env} {st : Sto} {ρ : Rho} {P : Ts} (q : Post (gx L X) W σ P ρ H (eCall c fa env st) Q) :
    PostA (gx L X) W σ P ρ H (fa env st) fun vs H1 => SpF (gx L X) n c vs H1 Q (WE W σ) := by
  unfold eCall at q
  cases h : fa env st with
  | bad => rw [h] at q; exact q
  | exc ex s => rw [h] at q; exact q
  | ok zs st1 =>
    rw [h] at q
    intro vs H1 k1 rs1 rz
    refine ⟨zs, st1, ρ, P, hl _ _ _ _ h, rz, rs1, ?_⟩
    have q : Post (gx L X) W σ P ρ H (c zs st1) Q := q
    have q := Post.step k1 q
    cases h2 : c zs st1 with
    | ok z s => rw [h2] at q; exact q
    | exc ex s => rw [h2] at q; exact q
    | bad => rw [h2] at q; exact q
/-- a call of a def that may raise -/
theorem ee_callX (F : FnOk X.prog X.w X.K X.mg X.base (L2N.CX X.prog X.w) k f fd ps (SpF (gx L X) ps.length c)) (tk : L2N.Takes X W) (hr : Room k X.A) (hg : Gl X x) (hm : X.mg x = some (.ref f)) (hk : PySem.W.keepIn X.K (.ref f) = true) (hb : Binds X.K fd ps [])
    (ha : EA L X W (e :: es) fa) (hl : ∀ env st zs st', fa env st = .ok zs st' → zs.length = ps.length) (hdb : (x == ("__debug__" : Str)) = false := by decide) (he : starEach (e :: es) X.env = (false, eval e X.env) :: starEach es X.env := by rfl) (hpl : (backTo pos (starEach es X.env)).any (·.1) = false := by rfl) :
    EE L X W (.Call (.Name x p) (e :: es) [] pos) (eCall c fa) :=
  PE.weak (pe_callS F hr hg hm hk hb (fun σ => L2N.passAt tk σ) ha hdb he hpl) fun σ H Q ⟨env, st, ρ, P, re, rs, q⟩ => ⟨env, st, ρ, P, re, rs, call_in hl q⟩
/-! ### raise X('..') -/
def sRaise (x : Str) : Fs := fun env st => .exc ⟨x, none⟩ env st
/-- what is known of an own error class that has no __init__ of its own -/
structure ExcK (K : PySem.W.Frag) (mg : Str → Option Value) (x : Str) : Prop where
  ex : ∃ C : Addr, mg x = some (.ref C) ∧ PySem.W.excIn K C [.type "ValueError", .type "Exception", .type "BaseException", .type "object"] "ValueError.__new__" = true ∧ PySem.W.keepIn K (.ref C) = true ∧
    PySem.W.subIn K (.ref C) (.type "BaseException") = some true ∧ PySem.W.typeIn K (.ref C) = some (.type "type")
theorem es_raise {n j : Nat} {m : Str} {p2 pos' : Pos} (T : ExcK X.K X.mg x) (hc : X.calm = true) (tk : L2N.Takes X W) (hg : Gl X x) (hdb : (x == ("__debug__" : Str)) = false := by decide) :
    ES L X W [] n (.Raise (some (.Call (.Name x p) [.Constant (.str m) j p2] [] pos)) none pos') (sRaise x) := by
  obtain ⟨C, gC, xC, kC, bC, tC⟩ := T.ex
  refine PS.weak (L2N.ps_raise hc tk (L2N.pmk_own PySem.F.excBase_ValueError xC gC kC (raises_own bC tC) hg hdb)) fun D σ H ⟨env, st, ρ, P, re, rs, q⟩ => ?_
  exact q (.ref C) none σ H ρ .refl rs re ⟨gC, rfl⟩
end
/-! ### a name that holds one of some defs -/
/-- what the defs of some names do -/
def tabF (tab : List (Str × Fc)) (x : Str) : Option Fc := (tab.find? fun p => p.1 == x).map (·.2)
def eCallV (i : Nat) (tab : List (Str × Fc)) (fa : Env → Sto → Rv (List SV)) : Fe := fun env st => match env[i]? with
  | some (some (.v (.glb x))) => (match tabF tab x with
    | some c => eCall c fa env st
    | none => .bad)
  | _ => .bad
/-- the defs of a table, each with as many parameters -/
def TabOk (X : Cx) (L : Lx) (k n : Nat) (tab : List (Str × Fc)) : Prop :=
  ∀ x c, tabF tab x = some c → ∃ (f : Addr) (fd : FuncData) (ps : List Str), X.mg x = some (.ref f) ∧ ps.length = n ∧ PySem.W.keepIn X.K (.ref f) = true ∧ Binds X.K fd ps [] ∧ FnOk X.prog X.w X.K X.mg X.base (L2N.CX X.prog X.w) k f fd ps (SpF (gx L X) ps.length c)
section
variable {X : Cx} {L : Lx} {W : WX} {k i n : Nat} {x : Str} {p pos : Pos} {e : Expr} {es : List Expr} {fa : Env → Sto → Rv (List SV)} {tab : List (Str × Fc)} {c : Fc}
theorem TabOk.nil : TabOk X L k n [] := fun x c h => by simp [tabF] at h
theorem TabOk.cons {f : Addr} {fd : FuncData} {ps : List Str} (F : FnOk X.prog X.w X.K X.mg X.base (L2N.CX X.prog X.w) k f fd ps (SpF (gx L X) ps.length c)) (hm : X.mg x = some (.ref f)) (hk : PySem.W.keepIn X.K (.ref f) = true) (hb : Binds X.K fd ps []) (hn : ps.length = n)
    (r : TabOk X L k n tab) : TabOk X L k n ((x, c) :: tab) := fun y d h => by
  unfold tabF at h
  rw [List.find?_cons] at h
  by_cases e : (x == y) = true
  · simp only [e] at h
    cases h
    have := eq_of_beq e
    subst this
    exact ⟨f, fd, ps, hm, hn, hk, hb, F⟩
  · have e : (x == y) = false := by simpa using e
    simp only [e] at h
    exact r y d h
theorem ee_callV (T : TabOk X L k n tab) (tk : L2N.Takes X W) (hr : Room k X.A) (hN : X.N[i]? = some x) (hv : Vis X.env.scope x) (ha : EA L X W (e :: es) fa) (hl : ∀ env st zs st', fa env st = .ok zs st' → zs.length = n)
    (hdb : (x == ("__debug__" : Str)) = false := by decide) (hcd : (x == ("__classdict__" : Str)) = false := by decide)
    (he : starEach (e :: es) X.env = (false, eval e X.env) :: starEach es X.env := by rfl) (hpl : (backTo pos (starEach es X.env)).any (·.1) = false := by rfl) : EE L X W (.Call (.Name x p) (e :: es) [] pos) (eCallV i tab fa) := by
  refine ⟨fun pins s σ H Q I h => ?_⟩
  obtain ⟨env, st, ρ, P, re, rs, q⟩ := h
  unfold eCallV at q
  split at q
  · rename_i y hy
    split at q
    · rename_i c hc
      obtain ⟨f, fd, ps, hm, hn, hk, hb, F⟩ := T y c hc
      obtain ⟨v, h1, h2⟩ := re.get i _ hy
      have hv2 : v = .ref f := by
        cases h2 with
        | v r =>
          cases r with
          | glb g r =>
            have g' : X.mg y = some _ := g
            rw [hm] at g'
            cases g'
            cases v <;> first | (cases r; rfl) | (obtain ⟨_, r⟩ := r; cases r) | cases r
      subst hv2
      have hA : TAm (gx L X) W fa σ H fun vs H1 => SpF (gx L X) ps.length c vs H1 Q (WE W σ) := ⟨env, st, ρ, P, re, rs, call_in (by rw [hn]; exact hl) q⟩
      refine wpAny_Call_Name_kw (thn ((pe_var (pos := p) hN hv hdb hcd).run pins s σ H (fun v H1 => v = .ref f ∧ H1 = H) I ⟨.ref f, h1, rfl, rfl⟩) fun u s1 hu => ?_)
      obtain ⟨v1, H1, I1, r1, rfl, rfl⟩ := hu
      cases r1
      exact PySem.W.callWith_K (h₀ := X.base) I1.ok.mod.kin hk (thn (ha.run pos pins s1 σ _ _ I1 hA) fun us s2 hz => by
        obtain ⟨vs, H2, I2, r, z⟩ := hz
        exact ⟨I2.kIn, run_fnS F hr hb (L2N.passAt tk σ) I2 r z⟩) he hpl
    · exact q.elim
  · exact q.elim
end
end Eng

namespace Eng
open PySem PySem.Spec PyProof.Rows L2
/-! ### a lambda handed to a def that tries it -/
section
variable {G : Gc} {H H1 : Hp} {P : Ts} {ρ : Rho} {st : Sto}
theorem kp_extN (e : LamX.ExtN H H1) : Kp (Tr ρ) H (Tr ρ) H1 :=
  ⟨fun a o _ h t => .inl (e a o h t), fun a n => by
    cases h : H a with
    | none => exact .inl h
    | some o =>
      by_cases t : ∃ ps, o = .tbl ps
      · obtain ⟨ps, rfl⟩ := t
        exact .inr ⟨ps, h⟩
      · have t : ∀ ps, o ≠ .tbl ps := fun ps z => t ⟨ps, z⟩
        exact (n.no (e a o h t) t).elim, fun _ t => .inl t⟩
theorem RepS.extN (rs : RepS G H P ρ st) (e : LamX.ExtN H H1) (t : LamX.Tabs G.T H1) : RepS G H1 P ρ st := by
  have k : Kp (TP P ρ) H (TP P ρ) H1 := (kp_extN (ρ := ρ) e).tp
  refine ⟨rs.len, rs.nd, fun l a h => ?_, rs.dead, t, fun a pa => ?_, rs.apart⟩
  · obtain ⟨o, e1, r⟩ := rs.obj l a h
    obtain ⟨u, e2, q⟩ := SO.plain r
    exact ⟨o, e1, r.ext k rs.nt ((e a u e2 q.1).trans e2.symm)⟩
  · obtain ⟨u, e2, q⟩ := rs.prv a pa
    exact ⟨u, e a u e2 q.1, q⟩
end
/-! ### a lambda's context, its errors told with their context -/
/-- the context of the lambda's body -/
def lamCxN (X : Cx) (A : Around) (outer : List PySem.Env) (s : Shared) (H : Hp) (E : XK) (scope : Scope) (f c' : Addr) : Cx :=
  (LamX.lamCx X A outer s H E scope f c').wish fun e s' => wpAny (model X.prog X.w) (A.deeper (LamX.lamEnv X scope s.heap.objs.size f c')) (leaving (LamX.lamEnv X scope s.heap.objs.size f c') e) (fun _ s'' => L2N.CX X.prog X.w outer H s E e s'') (fun e' s'' => L2N.CX X.prog X.w outer H s E e' s'') s'
section
variable {X : Cx} {pins : List (Addr × Obj)} {σ : L2.St} {H : Hp} {s : Shared}
/-- x(), in the def that got the lambda -/
theorem pe_actN {CXg : CXT} {Eg : XK} {Ng : List Str} {qg : Str} {sg : Scope} {g f c' : Addr} {cdg pm ctv : Value} {params : Arguments} {body : Expr} {scope : Scope} {k i : Nat} {a : Str} {pn : List (Addr × Obj)} {xe : Value → Shared → Prop} {W : WX} {E : XK} {tb : TE} {p1 p2 : Pos}
    (I : Inv X pins σ H s) (L : LamX.LamS X.env.scope scope) (hf : s.heap.get? f = some (PySem.W.kla_obj "<lambda>" (X.env.qual ++ "<lambda>") params body scope (cloFrom X.env.cells scope.names []) pm c' ctv)) (hfn : H f = none) (hfr : f ∉ frs X.stack)
    (hbind : bindArgs (PySem.W.kla_fn "<lambda>" (X.env.qual ++ "<lambda>") params body scope (cloFrom X.env.cells scope.names []) pm (.ref c') ctv) ⟨[], []⟩ = pure [])
    (tk : L2N.Takes ((cxOf CXg X.prog X.w X.K X.mg X.base Ng qg sg g cdg X.A X.stack s H Eg).tr pn xe) W) (hr : Room (k + 1) (X.A.deeper (envOfC qg sg s.heap.objs.size g cdg)))
    (hbody : ∀ (A : Around) (outer : List PySem.Env) (s : Shared) (H : Hp), Room k (A.deeper (LamX.lamEnv X scope s.heap.objs.size f c')) → PE (lamCxN X A outer s H E scope f c') body tb)
    (hN : Ng[i]? = some a) (hv : Vis sg a) (hd : (a == ("__debug__" : Str)) = false := by decide) (hcd : (a == ("__classdict__" : Str)) = false := by decide) :
    PE ((cxOf CXg X.prog X.w X.K X.mg X.base Ng qg sg g cdg X.A X.stack s H Eg).tr pn xe) (.Call (.Name a p1) [] [] p2)
      (fun σZ HZ Q => σZ[i]? = some (some (.ref f)) ∧ HZ c' = some (LamX.CodeO c' (X.env.qual ++ "<lambda>")) ∧ (∀ cls d H', E cls d H' → W cls d σZ H') ∧ tb σ HZ Q) := by
  refine ⟨fun pinsZ sZ σZ HZ Q IZ h => ?_⟩
  obtain ⟨hs, hc, hW, ht⟩ := h
  refine wpAny_Call_Name_kw (thn ((pe_var (pos := p1) (i := i) hN hv hd hcd).run pinsZ sZ σZ HZ (fun v H1 => v = .ref f ∧ H1 = HZ) IZ ⟨.ref f, hs, rfl, rfl⟩) fun u s1 ⟨v, H1, I1, r1, q1⟩ => ?_)
  obtain ⟨rfl, rfl⟩ := q1
  obtain rfl : u = Value.ref f := r1
  have of1 := I1.base.keep f _ hf hfn hfr (fun z => nomatch (show f ∈ ([] : List Addr) from z))
  refine PySem.W.callWith_F0 ⟨_, _, _, _, of1⟩ ?_
  obtain ⟨⟨oc, vs, t, hoc, hdc, hvc⟩, _, _⟩ := I1.hok c' _ hc
  have rc : codeAny (model X.prog X.w) (X.A.deeper (envOfC qg sg s.heap.objs.size g cdg)) (.call (.ref f) ⟨[], []⟩) (CR (L2N.CX X.prog X.w) (envOfC qg sg s.heap.objs.size g cdg :: X.stack) X.prog X.w H1 s1 Q E) s1 := by
    refine PySem.W.kla_callFunE hr.depth of1 rfl L.co L.gen rfl ⟨c', oc, vs, t, rfl, hoc, hdc, hvc⟩ ?_
    rw [hbind]
    refine wpAny_pure (wpAny_newFunctionEnv (fun y hy => (L.own y hy).2) (fun y hy => absurd hy (by simp)) (fun h₁ hns hsb => ⟨I1.nolimit.fresh _ hsb, ?_⟩) L.kind)
    have kp : ∀ b o, s1.heap.get? b = some o → h₁.get? b = some o := fun b o e => hsb.extBut b o (Nat.ne_of_lt (Heap.lt_size e)) (Heap.get?_push_of_some _ e)
    have J := (LamX.lam_start2 (E := E) (f := f) (c' := c') (tk := s1.toks + ([] : List (Str × Value)).length) I L I1.env0 hr.hd I1.base hns kp).wish fun e s' => wpAny (model X.prog X.w) ((X.A.deeper (envOfC qg sg s.heap.objs.size g cdg)).deeper (LamX.lamEnv X scope s1.heap.objs.size f c')) (leaving (LamX.lamEnv X scope s1.heap.objs.size f c') e) (fun _ s'' => L2N.CX X.prog X.w (envOfC qg sg s.heap.objs.size g cdg :: X.stack) H1 s1 E e s'') (fun e' s'' => L2N.CX X.prog X.w (envOfC qg sg s.heap.objs.size g cdg :: X.stack) H1 s1 E e' s'') s'
    refine PySem.W.kla_codeExpr (wpAny_mono ((hbody _ _ s1 H1 (hr.deeper _)).run [] _ _ H1 Q J ht) (fun v s' hq => ?_) fun e s' hq => hq)
    obtain ⟨w', H', J', rv, q⟩ := hq
    exact ⟨w', H', J'.os, J'.bare, J'.base, J'.hok, rv, q⟩
  refine wpAny_call (codeAny_mono rc fun r s' hq => ?_)
  cases r with
  | error e => exact tk e s' (L2N.XE.of_call I1 hW hq)
  | ok fl =>
    cases fl with
    | ret u => exact I1.after hq
    | next => exact False.elim hq
    | brk => exact False.elim hq
    | cont => exact False.elim hq
end
/-- a def that gets such a lambda -/
def GivesN (X : Cx) (Ng : List Str) (x : Str) (sg : Scope) (g : Addr) (cdg : Value) (bg : List Stmt) (a : Str) (q : Str) (TT : (XK → Hp → VK → Prop) → Hp → VK → Prop) : Prop :=
  ∀ (f c' : Addr) (s : Shared) (H : Hp) (Q : VK) (tl : XK → Hp → VK → Prop),
    (∀ (W : WX) (pn : List (Addr × Obj)) (xe : Value → Shared → Prop) (E : XK) (p1 p2 : Pos), L2N.Takes ((cxOf C8.CX0 X.prog X.w X.K X.mg X.base Ng x sg g cdg X.A X.stack s H C8.E0).tr pn xe) W →
      PE ((cxOf C8.CX0 X.prog X.w X.K X.mg X.base Ng x sg g cdg X.A X.stack s H C8.E0).tr pn xe) (.Call (.Name a p1) [] [] p2) (fun σZ HZ Q => σZ[0]? = some (some (.ref f)) ∧ HZ c' = some (LamX.CodeO c' q) ∧ (∀ cls d H', E cls d H' → W cls d σZ H') ∧ tl E HZ Q)) →
    Room 0 (X.A.deeper (envOfC x sg s.heap.objs.size g cdg)) → H c' = some (LamX.CodeO c' q) → TT tl H Q →
    ∃ t, PSs (cxOf C8.CX0 X.prog X.w X.K X.mg X.base Ng x sg g cdg X.A X.stack s H C8.E0).nox bg t ∧ t { nx := fun _ H' => Q .non H', rt := Q } (L2.start Ng [.ref f]) H
section
variable {X : Cx}
theorem pe_lamN {T : List (Addr × Str)} {TT : (XK → Hp → VK → Prop) → Hp → VK → Prop} {x a : Str} {g c P : Addr} {k : Nat} {pg : Arguments} {bg : List Stmt} {sg : Scope} {dV kV doc pm cdv ct oc : Value} {an od : Option Addr} {osl : Array (Option Value)} {Ng : List Str}
    {params : Arguments} {body : Expr} {scope : Scope} {t : XK → TE} {p lpos pos : Pos} (hg : Gl X x) (hm : X.mg x = some (.ref g)) (hk : PySem.W.keepIn X.K (.ref g) = true)
    (lk : X.K.lookup g = some ⟨oc, od, .func (PySem.W.fnOf x x pg bg sg dV kV doc pm an cdv ct), osl⟩) (hcg : PySem.W.codeIn X.K cdv x = true) (hb : L2.Binds X.K (PySem.W.fnOf x x pg bg sg dV kV doc pm an cdv ct) [a] []) (Sg : FnScope Ng [a] sg) (hNg : Ng[0]? = some a) (hva : Vis sg a)
    (hG : GivesN X Ng x sg g cdv bg a (X.env.qual ++ "<lambda>") TT)
    (TB : LamX.TabB X.base X.mg c P) (hcode : X.env.code = .ref c) (hmT : (P, X.env.qual ++ "<lambda>") ∈ T) (hu : ∀ p ∈ T, p.1 = P → p.2 = X.env.qual ++ "<lambda>") (hr : Room (k + 2) X.A) (L : LamX.LamS X.env.scope scope) (hdef : defaultsOf params X.env = ([], []))
    (hbind : ∀ (q : Str) (cl : List (Str × Addr)) (pm cv ctv : Value), bindArgs (PySem.W.kla_fn "<lambda>" q params body scope cl pm cv ctv) ⟨[], []⟩ = pure [])
    (hbody : ∀ (A : Around) (outer : List PySem.Env) (s : Shared) (H : Hp) (E : XK) (f c' : Addr), Room k (A.deeper (LamX.lamEnv X scope s.heap.objs.size f c')) → PE (lamCxN X A outer s H E scope f c') body (t E))
    (hdb : (x == ("__debug__" : Str)) = false := by decide) (hd : (a == ("__debug__" : Str)) = false := by decide) (hcd : (a == ("__classdict__" : Str)) = false := by decide) :
    PE X (.Call (.Name x p) [.Lambda params body scope lpos] [] pos) (LamX.tLam T TT t) := by
  refine ⟨fun pins s σ H Q I ⟨hT, h⟩ => ?_⟩
  refine wpAny_Call_Name_kw (ld_glob I hg hm (PySem.W.callWith_K (h₀ := X.base) I.ok.mod.kin hk ?_ (by rfl) (by rfl)) hdb)
  show wpAny _ _ (spliced ((false, eval (.Lambda params body scope lpos) X.env) :: backTo pos (starEach [] X.env))) _ _ s
  refine Calls.spliced_cons (LamX.lam_make2 I TB hcode hmT hu hT hdef (L.has I.ok) fun f c' pm' ctv H1 s' I1 eN T1 hf hfn hfr hco => Calls.spliced_nil ⟨I1.kIn, ?_⟩)
  have rc : codeAny (model X.prog X.w) X.A (.call (.ref g) ⟨[.ref f], []⟩) (CR C8.CX0 X.stack X.prog X.w H1 s' Q C8.E0) s' :=
    LamX.run_ofS (N := Ng) (ps := [a]) (us := [.ref f]) (vs := [.ref f]) lk hcg Sg hr I1.env0 (hb s' [.ref f] I1.kIn rfl) (.cons rfl .nil) rfl fun hr' => by
      obtain ⟨t', ht', hq'⟩ := hG f c' s' H1 Q (fun E H' Q' => t E σ H' Q') (fun W pn xe E p1 p2 tk => pe_actN (i := 0) I1 L hf hfn hfr (hbind _ _ _ _ _) tk hr' (fun A outer s H hr2 => hbody A outer s H E f c' hr2) hNg hva hd hcd) (hr'.mono (Nat.zero_le _)) hco (h H1 eN T1)
      exact ⟨t', ht'.nox, hq'⟩
  refine wpAny_call (codeAny_mono rc fun r s2 hq => ?_)
  cases r with
  | error e => exact (show False from hq).elim
  | ok fl =>
    cases fl with
    | ret u => exact I1.after hq
    | next => exact False.elim hq
    | brk => exact False.elim hq
    | cont => exact False.elim hq
end
/-- x(lambda: e), where x says whether the call raises such an error -/
def eRef (mt : Str → Option Bool) (fe : Fe) : Fe := fun env st => match fe env st with
  | .ok _ st' => .ok (.v (.bl false)) st'
  | .exc e st' => (match mt e.cls with
    | some true => .ok (.v (.bl true)) st'
    | _ => .bad)
  | .bad => .bad
/-- which errors an except clause of the class at CS takes -/
def Catch (K : PySem.W.Frag) (mg : Str → Option Value) (CS : Addr) (mt : Str → Option Bool) : Prop := ∀ x b, mt x = some b → ∀ cls, mg x = some cls → PySem.W.exmOne K cls (.ref CS) = some b
/-- what is told of the lambda: whether it raised -/
def TTref (K : PySem.W.Frag) (CS : Addr) : (XK → Hp → VK → Prop) → Hp → VK → Prop := fun tl H Q =>
  tl (fun cls _ H' => PySem.W.exmOne K cls (.ref CS) = some true ∧ Q (.bl true) H') H fun _ H' => Q (.bl false) H'
section
variable {X : Cx}
theorem refused_gives {Ng : List Str} {x a e q : Str} {sg : Scope} {g CS : Addr} {cdg : Value} {j j2 : Nat} {p1 p2 p3 p4 p5 p6 p7 p8 p9 p10 : Pos} (hge : sg.names.lookup e = some .globalImplicit) (hme : X.mg e = some (.ref CS)) (hde : (e == ("__debug__" : Str)) = false)
    (h0 : ∀ f : Addr, (L2.start Ng [V.ref f])[0]? = some (some (V.ref f))) :
    GivesN X Ng x sg g cdg [.Try [.Expr (.Call (.Name a p1) [] [] p2) p3] [.ExceptHandler (some (.Name e p4)) none [.Return (some (.Constant (.bool true) j p5)) p6] p7] [] [] p8, .Return (some (.Constant (.bool false) j2 p9)) p10] a q (TTref X.K CS) := by
  intro f c' s H Q tl act _ hc h
  have hgl : Gl (cxOf C8.CX0 X.prog X.w X.K X.mg X.base Ng x sg g cdg X.A X.stack s H C8.E0).nox e := hge
  have body : ∀ (W : WX) (pn : List (Addr × Obj)) (xe : Value → Shared → Prop), L2N.Takes ((cxOf C8.CX0 X.prog X.w X.K X.mg X.base Ng x sg g cdg X.A X.stack s H C8.E0).nox.tr pn xe) W →
      PSs ((cxOf C8.CX0 X.prog X.w X.K X.mg X.base Ng x sg g cdg X.A X.stack s H C8.E0).nox.tr pn xe) [.Expr (.Call (.Name a p1) [] [] p2) p3]
        (fun D σ H => ∃ Ech : XK, (∀ cls d H', Ech cls d H' → W cls d σ H') ∧ σ[0]? = some (some (.ref f)) ∧ H c' = some (LamX.CodeO c' q) ∧ tl Ech H fun _ H' => D.nx σ H') := fun W pn xe tk => by
    refine ⟨fun pins s' σ H' D I h' => ?_⟩
    obtain ⟨Ech, hW, h1, h2, h3⟩ := h'
    exact (pss_one (ps_expr (pos := p3) (act W pn xe Ech p1 p2 tk) rfl)).run pins s' σ H' D I ⟨h1, h2, hW, h3⟩
  refine ⟨_, pss_cons (L2N.ps_try_many (Wout := W0) rfl rfl takesO (fun W pn xe tk _ => body W pn xe tk) (.cons (c := .ref CS) ⟨hgl, hde, .inl hme⟩ (fun b oe cls d pn _ _ => pss_one (ps_ret pe_bl)) .nil)) (pss_one (ps_ret pe_bl)), ?_⟩
  exact ⟨fun cls _ H' => PySem.W.exmOne X.K cls (.ref CS) = some true ∧ Q (.bl true) H', fun cls d H' z => ⟨true, z.1, fun _ b _ => z.2, fun z => nomatch z⟩, h0 f, hc, h⟩
variable {L : Lx} {W : WX}
theorem ee_refused {x a e qual : Str} {g c Pt CS : Addr} {fd : FuncData} {k : Nat} {s : Stmt} {Ng : List Str} {params : Arguments} {body : Expr} {scope : Scope} {fe : Fe} {mt : Str → Option Bool} {p lpos pos : Pos} {j j2 : Nat} {p1 p2 p3 p4 p5 p6 p7 p8 p9 p10 : Pos}
    (F : L2.Fun X.K x x s g fd) (hs : defBody s = [.Try [.Expr (.Call (.Name a p1) [] [] p2) p3] [.ExceptHandler (some (.Name e p4)) none [.Return (some (.Constant (.bool true) j p5)) p6] p7] [] [] p8, .Return (some (.Constant (.bool false) j2 p9)) p10])
    (hge : (defScope s).names.lookup e = some .globalImplicit) (hme : X.mg e = some (.ref CS)) (hM : Catch X.K X.mg CS mt)
    (hg : Gl X x) (hm : X.mg x = some (.ref g)) (hk : PySem.W.keepIn X.K (.ref g) = true) (hb : L2.Binds X.K fd [a] []) (Sg : FnScope Ng [a] (defScope s)) (hNg : Ng[0]? = some a) (hva : Vis (defScope s) a)
    (TB : LamX.TabB X.base X.mg c Pt) (hcode : X.env.code = .ref c) (hmT : (Pt, X.env.qual ++ "<lambda>") ∈ L.T) (hu : ∀ p ∈ L.T, p.1 = Pt → p.2 = X.env.qual ++ "<lambda>") (hr : Room (k + 2) X.A) (LS : LamX.lamSB X.env.scope scope = true) (hdef : defaultsOf params X.env = ([], []))
    (hbind : ∀ (q : Str) (cl : List (Str × Addr)) (pm cv ctv : Value), bindArgs (PySem.W.kla_fn "<lambda>" q params body scope cl pm cv ctv) ⟨[], []⟩ = pure [])
    (hbody : ∀ (A : Around) (outer : List PySem.Env) (s : Shared) (H : Hp) (E : XK) (f c' : Addr), Room k (A.deeper (LamX.lamEnv X scope s.heap.objs.size f c')) → EE L (lamCxN X A outer s H E scope f c') (WF E) body fe)
    (hde : (e == ("__debug__" : Str)) = false := by decide) (hdb : (x == ("__debug__" : Str)) = false := by decide) (hd : (a == ("__debug__" : Str)) = false := by decide) (hcd : (a == ("__classdict__" : Str)) = false := by decide) :
    EE L X W (.Call (.Name x p) [.Lambda params body scope lpos] [] pos) (eRef mt fe) := by
  obtain ⟨oc, od, kV, doc, pm, an, cdv, ct, osl, rfl, lk, hcg⟩ := F.ex
  have h0 : ∀ f : Addr, (L2.start Ng [V.ref f])[0]? = some (some (V.ref f)) := fun f => rfl
  rw [hs] at lk hb
  refine PE.weak (pe_lamN (T := L.T) (t := fun E => TEm (gx L X) (WF E) fe) hg hm hk lk hcg hb Sg hNg hva (refused_gives hge hme hde h0) TB hcode hmT hu hr (LamX.lamS_by LS) hdef hbind hbody hdb hd hcd) fun σ H Q ⟨env, st, ρ, P, re, rs, q⟩ => ?_
  refine ⟨rs.tab, fun H1 eN T1 => ?_⟩
  have k1 : Kp (Tr ρ) H (Tr ρ) H1 := kp_extN eN
  refine ⟨env, st, ρ, P, re.ext k1 rs, rs.extN eN T1, ?_⟩
  unfold eRef at q
  cases h : fe env st with
  | bad => rw [h] at q; exact q.elim
  | ok z st' =>
    rw [h] at q
    exact fun v H' k rs' _ => q (.bl false) H' (k1.trans k) rs' (.v (.bl false))
  | exc ex st' =>
    rw [h] at q
    simp only at q
    split at q
    · rename_i hmt
      exact fun cls d H' k rs' rx => ⟨hM ex.cls true hmt cls rx.1, q (.bl true) H' (k1.trans k) rs' (.v (.bl true))⟩
    · exact q.elim
end
end Eng

set_option maxHeartbeats 2000000
namespace Eng
open PySem PySem.Spec PyProof.Rows L2
/-- the end of a row, the code tables of some defs told -/
theorem walk_tabs {l : PySem.W.OpenLaw} {n k : Nat} {q : Program} {loose : List Str} {XP : (Str → Option Value) → Heap → Prop} {YP : World → Heap → Prop} {d : DefRec} {KP : Params → PySem.W.Frag} {CX : World → CXT} {x : Str} (names : List Str)
    (hn : l.most = some n) (hn2 : n ≤ sizeLine) (hdf : d.params.defaults = []) (hr : Room k callerA) (hrec : ∀ y ∈ names, ((recsOf q).any fun e => e.name == y) = true) (hY : ∀ (w : World) (h : Heap), YP w h → (KP w.params).In h)
    (F : ∀ (w : World) (mg : Str → Option Value) (fa : Addr) (h : Heap), YP w h → XP mg h → (KP w.params).In h → h.Ns mainGlobals mg → mg d.name = some (.ref fa) → (∀ y ∈ names, ∀ f, mg y = some (.ref f) → LamX.OwnTab (KP w.params) f h) → LamX.LawAtS l w (KP w.params) (CX w) k n x mg fa h)
    (hCX : ∀ (w : World) (H : Hp) (s : Shared) (e : Value) (s' : Shared), CX w [] H s (fun _ _ _ => False) e s' → False) :
    PySem.W.WalkO q loose XP YP l.row.toRowW d [] (fun f vs => PySem.call f vs) := by
  refine Att.attach_callB hn hdf fun w s₀ s₁ mg mb fa o pm cd doc a vs ns G Y ho hd hcd hmg hobj hints hlen hbits hg => ?_
  have tabs : ∀ y ∈ names, ∀ f, mg y = some (.ref f) → LamX.OwnTab (KP w.params) f s₁.heap := by
    intro y hy f hf c P o1 fd1 e dd vs1 sl a1 a2 a3 a4 a5
    obtain ⟨r, hr1, hr2⟩ := List.any_eq_true.mp (hrec y hy)
    have er : r.name = y := eq_of_beq hr2
    obtain ⟨f', o', fd', c', P', b1, b2, b3, b4, _, ⟨⟨oc, vc, d1, _, d2, d3⟩, hP⟩⟩ := G.T.tab r hr1
    rw [er] at b1
    have ef : f = f' := Value.ref.inj (Option.some.inj (hf.symm.trans b1))
    subst ef
    have KX := hY w _ Y
    have eo : o1 = o' := Option.some.inj ((KX _ _ a1).symm.trans b2)
    subst eo
    have efd : fd1 = fd' := Data.func.inj (a2.symm.trans b3)
    subst efd
    have ec : c = c' := Value.ref.inj (a3.symm.trans b4)
    subst ec
    have eoc := Option.some.inj ((KX _ _ a4).symm.trans d1)
    subst eoc
    have evs : vs1 = vc := Data.fields.inj d2
    subst evs
    have eP : P = P' := Value.ref.inj (Option.some.inj (a5.symm.trans d3))
    subst eP
    exact hP
  obtain ⟨fd, cs, sp, h1, h2, h3, h4, h5, h6⟩ := F w mg fa _ Y G.X (hY w _ Y) G.T.g hmg tabs
  exact LamX.law_callTs (hY w _ Y) G.T.g G.T.b G.T.builtins G.T.nolimit hg h1 h2 h3 G.T.bmain hobj hints (Nat.le_trans hlen hn2) hr h6 h4 (fun H hH hS => h5 H a ns hlen hbits hH hS) fun H e s' => hCX w H s₁ e s'
/-- a def's code object and its table, read off the written part -/
theorem tab_in {K : PySem.W.Frag} {x : Str} {c P : Addr} (t : PySem.W.tabIn K x = some (c, P)) : ∃ (f : Addr) (e1 e2 : Value) (d1 d2 : Option Addr) (fd : FuncData) (vs : Array Value) (s1 s2 : Array (Option Value)), PySem.W.nsIn K mainGlobals x = some (some (.ref f)) ∧
    K.lookup f = some ⟨e1, d1, .func fd, s1⟩ ∧ fd.code = .ref c ∧ K.lookup c = some ⟨e2, d2, .fields vs, s2⟩ ∧ vs[11]? = some (.ref P) := by
  unfold PySem.W.tabIn at t
  split at t
  · rename_i f hf
    split at t
    · rename_i hfo
      split at t
      · rename_i c2 hc
        split at t
        · rename_i hco
          split at t
          · rename_i P2 hv
            cases t
            exact ⟨f, _, _, _, _, _, _, _, _, hf, hfo, hc, hco, hv⟩
          · cases t
        · cases t
      · cases t
    · cases t
  · cases t
/-- .. the table is empty -/
theorem tab_own {K : PySem.W.Frag} {h : Heap} {mg : Str → Option Value} {x : Str} {c P : Addr} (KX : K.In h) (G : h.Ns mainGlobals mg) (t : PySem.W.tabIn K x = some (c, P)) (own : ∀ f, mg x = some (.ref f) → LamX.OwnTab K f h) : h.get? P = some { cls := .none, data := .fields #[] } := by
  obtain ⟨f, e1, e2, d1, d2, fd, vs, s1, s2, a1, a2, a3, a4, a5⟩ := tab_in t
  exact own f (PySem.W.mg_of KX G a1) c P _ fd e2 d2 vs s2 a2 rfl a3 a4 a5
theorem tab_code {K : PySem.W.Frag} {x : Str} {c P f : Addr} {e1 : Value} {d1 : Option Addr} {fd : FuncData} {s1 : Array (Option Value)} (t : PySem.W.tabIn K x = some (c, P)) (a1 : PySem.W.nsIn K mainGlobals x = some (some (.ref f))) (a2 : K.lookup f = some ⟨e1, d1, .func fd, s1⟩) : fd.code = .ref c := by
  obtain ⟨f', _, _, _, _, fd', _, _, _, b1, b2, b3, _⟩ := tab_in t
  rw [a1] at b1
  cases b1
  rw [a2] at b2
  cases b2
  exact b3
/-- what the law's def is asked, with tables -/
theorem sp_lawT {K : PySem.W.Frag} {mg : Str → Option Value} {T : List (Addr × Str)} {c : Fc} {tn : Bool} (hc : ∀ ns : List Int, ns.length ≤ 63 → ∃ st, c [.v (.seq (ns.map .int))] [] = .ok (.v (.bl true)) st) {H : Hp} {a : Addr} {ns : List Int} (hl : ns.length ≤ 63) (hT : ∀ p ∈ T, H p.1 = some (.tbl #[])) (hs : SqL K H a (ns.map V.int)) :
    SpF ⟨K, mg, T, none, tn⟩ 1 c [.ref a] H (fun v _ => v = .bl true) fun _ _ _ => False := by
  have e0 : ∀ b, ¬ TP (fun _ => False) ([] : Rho) b := fun b t => t.elim id fun t => by cases t
  have rs : RepS (⟨K, mg, T, none, tn⟩ : Gc) H (fun _ => False) [] [] := by
    refine ⟨rfl, fun l l' a e => ?_, fun l a e => ?_, fun l e => ?_, fun p hp => .nil (hT p hp), fun a h => h.elim, fun a h => h.elim⟩
    · simp at e
    · simp at e
    · simp at e
  have rv : RepV (⟨K, mg, T, none, tn⟩ : Gc) H (TP (fun _ => False) []) (.seq (ns.map .int)) (.ref a) := by
    rcases hs with hs | hs
    · exact .seqH hs (e0 _) (ofInts ns)
    · exact .seqK (fun H' => .inr hs) (ofInts ns)
  refine ⟨[.v (.seq (ns.map .int))], [], [], fun _ => False, rfl, .cons (.v rv) .nil, rs, ?_⟩
  obtain ⟨st, e⟩ := hc ns hl
  rw [e]
  intro v H' k rs' rx
  cases rx with
  | v r => cases r; rfl
/-- an except clause of one class -/
def mtOne (x : Str) : Str → Option Bool := fun y => if x == y then some true else none
theorem catch_one {K : PySem.W.Frag} {mg : Str → Option Value} {x : Str} {C : Addr} (hm : mg x = some (.ref C)) (h : PySem.W.exmOne K (.ref C) (.ref C) = some true) : Catch K mg C (mtOne x) := fun y b e cls hc => by
  unfold mtOne at e
  split at e
  · rename_i q
    cases e
    rw [← eq_of_beq q, hm] at hc
    cases hc
    exact h
  · cases e
/-- a number that the module's top reckons -/
theorem loose_int {p : Program} {lv : List (Str × PySem.W.WData)} {mg : Str → Option Value} {h : Heap} {x : Str} {i : Int} (hx : PySem.W.XL p lv mg h) (hm : (x, PySem.W.WData.int i) ∈ lv) : ∃ t : Tok, mg x = some (.int i t) := by
  obtain ⟨v, e, r⟩ := hx.2.val _ hm
  obtain ⟨t, rfl, _⟩ := PySem.W.readsW_int_inv r
  exact ⟨t, e⟩
end Eng

namespace Eng
open PySem PySem.Spec PyProof.Rows L2
/-! ### dict comprehensions, keys ints or texts -/
def dcSeq (p : Pat) (t : Ft) (fk fv : Fe) (env0 : Env) : List Val → List (Val × Val) → Sto → Rv (List (Val × Val))
  | [], acc, st => .ok acc st
  | x :: r, acc, st => match bindP p x env0 with
    | some env => (t env st).bind fun b st1 => if b = true then (fk env st1).bind fun zk st2 => (fv env st2).bind fun zv st3 => match zk, zv.froz with
        | .v k, .v y => if (keyOf k).isSome = true then dcSeq p t fk fv env0 r (dPut acc k y) st3 else .bad
        | _, _ => .bad
      else dcSeq p t fk fv env0 r acc st1
    | none => .bad
def Rv.freshD (r : Rv (List (Val × Val))) : Rv SV := match r with
  | .ok ys st => .ok (.fd false ys) st
  | _ => .bad
def eDComp (fi : Fi) (p : Pat) (t : Ft) (fk fv : Fe) (vs : List Nat) : Fe := fun env st => (fi env st).bind fun s st1 => match s with
  | .seq xs => if xs.length ≤ 1000000 then (dcSeq p t fk fv (wipeE env vs) xs [] st1).freshD else .bad
  | .cell _ => .bad
theorem dPut_len (kvs : List (Val × Val)) (x y : Val) : (dPut kvs x y).length ≤ kvs.length + 1 := by
  unfold dPut
  split <;> simp
section
variable {X : Cx} {L : Lx} {W : WX} {tg iter kx vx : Expr} {fi : Fi} {p : Pat} {g : TG} {t : Ft} {fk fv : Fe} {vs : List Nat}
theorem dcomp_tm (hpat : EP1 X p g) (hv : ∀ i ∈ p.names, i ∈ vs) (σ : L2.St) (H : Hp) (Q : VK) (h : TEm (gx L X) W (eDComp fi p t fk fv vs) σ H Q) (hz : 1000000 < sizeLine := by decide) :
    tDc (TIm (gx L X) W fi) g (TTm (gx L X) W0 t) (TEm (gx L X) W0 fk) (TEm (gx L X) W0 fv) vs σ H Q := by
  obtain ⟨env, st, ρ, P, re, rs, q⟩ := h
  refine ⟨env, st, ρ, P, re, rs, ?_⟩
  unfold eDComp at q
  cases hf : fi env st with
  | exc e st1 => rw [hf] at q; exact q
  | bad => rw [hf] at q; exact q
  | ok s st1 =>
    rw [hf] at q
    intro J H1 k1 rs1 wk D hD
    cases s with
    | cell l => exact q.elim
    | seq xs =>
      have q : Post (gx L X) W σ P ρ H (if xs.length ≤ 1000000 then (dcSeq p t fk fv (wipeE env vs) xs [] st1).freshD else .bad) Q := q
      split at q
      · rename_i hxl
        have h0D : NN H D := k1.none (.inl hD)
        have rsD : RepS (gx L X) (upd H1 D (.dK [])) (Plus P D) ρ st1 := rs1.freshP hD ⟨by intros; simp, by intros; simp, by intros; simp, by intros; simp⟩
        have nP : ¬ P D := fun t => rs1.ntr hD (.inl t)
        have reD : RepE (gx L X) (upd H1 D (.dK [])) (Plus P D) ρ (wipeE env vs) (L2.wipe σ vs) := (re.ext k1 rs).plus hD rs1 |>.wipe vs
        let St := fun (acc : List (Val × Val)) (st2 : Sto) (H2 : Hp) => Kp (Tr ρ) H (Tr ρ) H2 ∧ Kp (TP (Plus P D) ρ) (upd H1 D (.dK [])) (TP (Plus P D) ρ) H2 ∧ RepS (gx L X) H2 (Plus P D) ρ st2 ∧ ∃ us, H2 D = some (.dK us) ∧ RepK (gx L X) H2 (TP (Plus P D) ρ) acc us
        have st0 : St [] st1 (upd H1 D (.dK [])) := ⟨k1.trans (kp_new hD), Kp.refl, rsD, [], upd_same, .nil⟩
        let Qv := fun r : Rv (List (Val × Val)) => Post (gx L X) W σ P ρ H r.freshD Q
        refine ⟨fun i m H2 => ∃ acc st2, m = xs.length - i ∧ acc.length ≤ i ∧ St acc st2 H2 ∧ Qv (dcSeq p t fk fv (wipeE env vs) (xs.drop i) acc st2), ⟨xs.length, [], st1, rfl, Nat.le_refl _, st0, q⟩, fun i m H2 hW => ?_⟩
        obtain ⟨acc, st2, hm, hl, hS, hq⟩ := hW
        have w := wk i H2 (Plus P D) ρ st2 ((kp_newP hD).trans hS.2.1) hS.2.2.1
        by_cases hi : i < xs.length
        · rw [List.drop_eq_getElem_cons hi] at hq
          obtain ⟨hgo, hy⟩ := w.1 xs[i] (List.getElem?_eq_getElem hi)
          refine .inr ⟨hgo, fun H' => ∃ acc' st', acc'.length ≤ i + 1 ∧ St acc' st' H' ∧ Qv (dcSeq p t fk fv (wipeE env vs) (xs.drop (i + 1)) acc' st'), fun H' hN => ?_, fun v H3 yy => ?_⟩
          · obtain ⟨acc', st', a, b, c⟩ := hN
            exact ⟨xs.length - (i + 1), by omega, acc', st', rfl, a, b, c⟩
          · obtain ⟨k3, rs3, rv⟩ := hy v H3 yy
            obtain ⟨k2, kB, rs2, us, eD, rus⟩ := hS
            unfold dcSeq at hq
            cases hb : bindP p xs[i] (wipeE env vs) with
            | none => rw [hb] at hq; exact hq.elim
            | some env' =>
              rw [hb] at hq
              have re3 : RepE (gx L X) H3 (Plus P D) ρ (wipeE env vs) (L2.wipe σ vs) := ⟨reD.len, fun i z h => by
                obtain ⟨u, e, r⟩ := reD.get i z h
                refine ⟨u, e, ?_⟩
                cases r with
                | v r => exact .v ((r.ext kB rsD.nt).ext k3.tp rs2.nt)
                | loc q => exact .loc q⟩
              refine pat_ok hpat re3 rv hb fun σ4 re4 hw => ⟨?_, ?_⟩
              · rw [hw vs hv, wipe_wipe fun i h => h]
              · refine ⟨env', st2, ρ, Plus P D, re4, rs3, ?_⟩
                cases ht : t env' st2 with
                | bad => simp only [ht, Rv.bind] at hq; exact hq.elim
                | exc e s => simp only [ht, Rv.bind] at hq; exact hq.elim
                | ok b st4 =>
                  simp only [ht, Rv.bind] at hq
                  intro H4 k4 rs4
                  have nD : ¬ Tr ρ D := rs2.apart D (.inr rfl)
                  have keepD : ∀ {Ha Hb : Hp} {sa sb : Sto} {us : List (Key × V)}, Kp (Tr ρ) Ha (Tr ρ) Hb → RepS (gx L X) Hb (Plus P D) ρ sb → Ha D = some (.dK us) → Hb D = some (.dK us) := fun {Ha Hb sa sb us} k r e => by
                    rcases k.keep D _ nD e (by intros; simp) with e' | ⟨_, od, e'⟩
                    · exact e'
                    · obtain ⟨u, e2, pl⟩ := r.prv D (.inr rfl)
                      rw [e'] at e2
                      cases e2
                      exact (pl.2.2.1 _ _ rfl).elim
                  have eD4 : H4 D = some (.dK us) := keepD (sa := st2) (k3.trans k4) rs4 eD
                  have rus4 := rus.ext (k3.trans k4).tp rs2.nt
                  have kB4 := (kB.trans k3.tp).trans k4.tp
                  have kA4 := (k2.trans k3).trans k4
                  cases b with
                  | false =>
                    simp only [Bool.false_eq_true, if_false] at hq ⊢
                    exact ⟨acc, st4, by omega, ⟨kA4, kB4, rs4, us, eD4, rus4⟩, hq⟩
                  | true =>
                    simp only [if_true] at hq ⊢
                    refine ⟨env', st4, ρ, Plus P D, re4.ext k4 rs3, rs4, ?_⟩
                    cases hfk : fk env' st4 with
                    | bad => simp only [hfk] at hq; exact hq.elim
                    | exc e s => simp only [hfk] at hq; exact hq.elim
                    | ok zk st5 =>
                      simp only [hfk] at hq
                      intro y H5 k5 rs5 rx
                      refine ⟨env', st5, ρ, Plus P D, (re4.ext k4 rs3).ext k5 rs4, rs5, ?_⟩
                      cases hfv : fv env' st5 with
                      | bad => simp only [hfv] at hq; exact hq.elim
                      | exc e s => simp only [hfv] at hq; exact hq.elim
                      | ok zv st6 =>
                        simp only [hfv] at hq
                        intro z H6 k6 rs6 rx6
                        have rz := rx6.z
                        cases hz2 : zv.froz with
                        | loc _ => rw [hz2] at hq; cases zk <;> exact hq.elim
                        | fl _ => rw [hz2] at hq; cases zk <;> exact hq.elim
                        | fd _ => rw [hz2] at hq; cases zk <;> exact hq.elim
                        | v yv =>
                          rw [hz2] at hq rz
                          cases rx with
                          | loc _ => exact hq.elim
                          | fl _ _ _ _ _ => exact hq.elim
                          | fdK _ _ _ _ _ => exact hq.elim
                          | fdT _ _ _ _ _ => exact hq.elim
                          | @v kv _ rk =>
                            simp only at hq
                            split at hq
                            · rename_i hkk
                              obtain ⟨kk, hkk⟩ := Option.isSome_iff_exists.mp hkk
                              obtain rfl := keyOf_V' hkk rk
                              cases rz with
                              | v ry =>
                                have eD6 : H6 D = some (.dK us) := keepD (sa := st5) k6 rs6 (keepD (sa := st4) k5 rs5 eD4)
                                refine ⟨us, kk, rfl, eD6, by rw [← rus.len]; omega, dPut acc kv yv, st6, by have := dPut_len acc kv yv; omega, ?_, hq⟩
                                have kw : Kp (TP (Plus P D) ρ) H6 (TP (Plus P D) ρ) (upd H6 D (.dK (putK us kk z))) := kp_write (.inl (.inr rfl))
                                have k7 := (kA4.trans k5).trans k6
                                exact ⟨⟨fun a o na e nt => by rw [upd_ne (h0D.ne e nt)]; exact k7.keep a o na e nt, fun a n => h0D.over k7.stay n, fun a t => .inl t⟩, ((kB4.trans k5.tp).trans k6.tp).trans kw,
                                  rs6.writeP (.inr rfl) ⟨by intros; simp, by intros; simp, by intros; simp, by intros; simp⟩, putK us kk z, upd_same,
                                  repK_put hkk ((rk.ext k6.tp rs5.nt).ext kw rs6.nt) (ry.ext kw rs6.nt) (((rus4.ext k5.tp rs4.nt).ext k6.tp rs5.nt).ext kw rs6.nt)⟩
                            · exact hq.elim
        · rw [List.drop_eq_nil_of_le (by omega)] at hq
          obtain ⟨k2, _, rs2, us, e, rv⟩ := hS
          exact .inl ⟨w.2 (by omega), (show Post (gx L X) W σ P ρ H (.ok (.fd false acc) st2) Q from hq) _ H2 k2 rs2.drop (.fdK e h0D rv rs2 nP)⟩
      · exact q.elim
theorem ee_dcomp {ifs : List Expr} {scope : Scope} {own : List (Str × Nat)} {pos : Pos} (hc : X.calm = true) (hN : X.N.Nodup) (hi : EI L X W tg iter fi) (ok : BlkOk X.N X.env.scope scope own)
    (hg : ∀ (s : Shared) (H : Hp) (C : Addr) (cl : List (Str × Addr)) (fp : List Addr), PG (X.blk s H scope (compEnvC scope cl C X.env) fp) tg g) (ht : ∀ (s : Shared) (H : Hp) (C : Addr) (cl : List (Str × Addr)) (fp : List Addr), PTs (X.blk s H scope (compEnvC scope cl C X.env) fp) ifs (TTm (gx L X) W0 t))
    (hk : ∀ (s : Shared) (H : Hp) (C : Addr) (cl : List (Str × Addr)) (fp : List Addr), PE (X.blk s H scope (compEnvC scope cl C X.env) fp) kx (TEm (gx L X) W0 fk)) (he : ∀ (s : Shared) (H : Hp) (C : Addr) (cl : List (Str × Addr)) (fp : List Addr), PE (X.blk s H scope (compEnvC scope cl C X.env) fp) vx (TEm (gx L X) W0 fv))
    (hpat : EP1 X p g) (hv : ∀ i ∈ p.names, i ∈ own.map (·.2)) (hs : ∀ x, foldedSetIterable iter X.env x = pure x := by intro _; rfl) :
    EE L X W (.DictComp kx vx [⟨tg, iter, ifs, 0⟩] scope pos) (eDComp fi p t fk fv (own.map (·.2))) :=
  PE.weak (pe_dc hc hN hi ok hg ht hk he hs) fun σ H Q h => dcomp_tm hpat hv σ H Q h
end
end Eng

namespace Eng
open PySem PySem.Spec PyProof.Rows L2
/-! ### mirrors: more of lists, dicts, sorting -/
/-- a method that writes a cell: the new thing, and what is told -/
def eMW (o : SO → List Val → Option (SO × Val)) (fo : Fe) (fa : Env → Sto → Rv (List SV)) : Fe := fun env st => match fo env st with
  | .ok (.loc l) st1 => (match st1[l]? with
    | some (.lst _) => (fa env st1).bind fun zs st2 => (match st2[l]?, frzAll zs with
      | some so, some xs => (match o so xs with
        | some (so', y) => .ok (.v y) (st2.set l so')
        | none => .bad)
      | _, _ => .bad)
    | _ => .bad)
  | .exc e st1 => .exc e st1
  | _ => .bad
def oApp : SO → List Val → Option (SO × Val)
  | .lst xs, [y] => if xs.length < 1000000 then some (.lst (xs ++ [y]), .non) else none
  | _, _ => none
/-- a, b, .. = e -/
def sUnp (fa : Fe) (is : List Nat) : Fs := fun env st => (fa env st).toS env fun z st1 => match z.froz with
  | .v x => (match bindP (.t is) x env with
    | some env' => .nx env' st1
    | none => .bad)
  | _ => .bad
/-- {k: v for ..}, keys tuples -/
def dcSeqT (p : Pat) (t : Ft) (fk fv : Fe) (env0 : Env) : List Val → List (Val × Val) → Sto → Rv (List (Val × Val))
  | [], acc, st => .ok acc st
  | x :: r, acc, st => match bindP p x env0 with
    | some env => (t env st).bind fun b st1 => if b = true then (fk env st1).bind fun zk st2 => (fv env st2).bind fun zv st3 => match zk, zv.froz with
        | .v k, .v y => if keyIs true k = true then dcSeqT p t fk fv env0 r (dPut acc k y) st3 else .bad
        | _, _ => .bad
      else dcSeqT p t fk fv env0 r acc st1
    | none => .bad
def Rv.freshT (r : Rv (List (Val × Val))) : Rv SV := match r with
  | .ok ys st => .ok (.fd true ys) st
  | _ => .bad
def eDCompT (fi : Fi) (p : Pat) (t : Ft) (fk fv : Fe) (vs : List Nat) : Fe := fun env st => (fi env st).bind fun s st1 => match s with
  | .seq xs => if xs.length ≤ 1000000 then (dcSeqT p t fk fv (wipeE env vs) xs [] st1).freshT else .bad
  | .cell _ => .bad
/-- a dict's keys, pairs, values, walked -/
def iKeyF (fa : Fe) : Fi := fun env st => (fa env st).bind fun z st1 => match z.froz with
  | .v (.dic _ kvs) => .ok (.seq (kvs.map (·.1))) st1
  | _ => .bad
def iItmF (fa : Fe) : Fi := fun env st => (fa env st).bind fun z st1 => match z.froz with
  | .v (.dic _ kvs) => .ok (.seq (kvs.map fun p => .tup [p.1, p.2])) st1
  | _ => .bad
def iValF (fa : Fe) : Fi := fun env st => (fa env st).bind fun z st1 => match z.froz with
  | .v (.dic false kvs) => .ok (.seq (kvs.map (·.2))) st1
  | _ => .bad
/-! order of plain things of one shape -/
mutual
def shp : Val → Val → Bool
  | .int _, y => match y with
    | .int _ => true
    | _ => false
  | .str _, y => match y with
    | .str _ => true
    | _ => false
  | .tup xs, y => match y with
    | .tup ys => shps xs ys
    | _ => false
  | _, _ => false
def shps : List Val → List Val → Bool
  | [], ys => match ys with
    | [] => true
    | _ => false
  | x :: xs, ys => match ys with
    | [] => false
    | y :: ys => shp x y && shps xs ys
end
mutual
def ltV : Val → Val → Bool
  | .int i, y => match y with
    | .int j => decide (i < j)
    | _ => false
  | .str s, y => match y with
    | .str t => decide (s < t)
    | _ => false
  | .tup xs, y => match y with
    | .tup ys => ltVs xs ys
    | _ => false
  | _, _ => false
def ltVs : List Val → List Val → Bool
  | [], ys => match ys with
    | [] => false
    | _ :: _ => true
  | x :: xs, ys => match ys with
    | [] => false
    | y :: ys => if eqB x y = true then ltVs xs ys else ltV x y
end
def leV (a b : Val) : Bool := !ltV b a
def sortV (xs : List Val) : List Val := isort leV xs
/-- tuples with items, all of one shape -/
def oneShp : List Val → Bool
  | [] => true
  | x :: xs => (match x with
    | .tup (_ :: _) => true
    | _ => false) && (shp x x && xs.all fun y => shp x y)
def srtOk (xs : List Val) : Bool := oneShp xs && (okDs xs 31 && decide (xs.length ≤ 1000000))
def vSortX : List Val → Option SV
  | [.lst xs] => match xs with
    | .tup _ :: _ => if srtOk xs = true then some (.fl (sortV xs)) else none
    | _ => vSort [.lst xs]
  | [.dic true kvs] => if srtOk (kvs.map (·.1)) = true then some (.fl (sortV (kvs.map (·.1)))) else none
  | xs => vSort xs
/-- sorted(d.items()) -/
def vSortIt : List Val → Option SV
  | [.dic true kvs] => if srtOk (kvs.map fun p => .tup [p.1, p.2]) = true then some (.fl (sortV (kvs.map fun p => .tup [p.1, p.2]))) else none
  | _ => none
def findV (x : Val) : List Val → Nat → Option Nat
  | [], _ => none
  | y :: ys, k => if eqB y x = true then some k else findV x ys (k + 1)
def vLIndex : Val → List Val → Option SV
  | .lst xs, [x] => if (okD x 31 && okDs xs 31) = true then (findV x xs 0).map fun k => .v (.int (k : Nat)) else none
  | _, _ => none
def vLenX : List Val → Option SV
  | [.dic true kvs] => some (.v (.int kvs.length))
  | xs => vLen xs
/-! x(lambda: e), where x tells the word of what the call raises -/
mutual
def noX : Val → Bool
  | .tup xs => noXs xs
  | .lst xs => noXs xs
  | .dic _ kvs => noXk kvs
  | .seq xs => noXs xs
  | .exn _ _ => false
  | .prs xs => noXs xs
  | _ => true
def noXs : List Val → Bool
  | [] => true
  | x :: xs => noX x && noXs xs
def noXk : List (Val × Val) → Bool
  | [] => true
  | (x, y) :: xs => noX x && noX y && noXk xs
end
def noXo : SO → Bool
  | .dead => true
  | .lst xs => noXs xs
  | .dic _ kvs => noXk kvs
/-- N slots, the i-th one the error's; mt: which errors are caught; suite, and what stands behind the try -/
def eWord (N i : Nat) (mt : Str → Option Bool) (suite after : Nat → Fs) (fe : Fe) : Fe := fun env st => match fe env st with
  | .ok _ st' => (match after st'.length (List.replicate N none) st' with
    | .rt (.v x) st2 => if noX x = true then .ok (.v x) st2 else .bad
    | _ => .bad)
  | .exc e st' => (match mt e.cls, e.arg with
    | some true, none => if st'.all noXo = true then (match suite st'.length ((List.replicate N none).set i (some (.v (.exn e.cls none)))) st' with
      | .rt (.v x) st2 => if (noX x && st2.all noXo) = true then .ok (.v x) st2 else .bad
      | _ => .bad) else .bad
    | _, _ => .bad)
  | .bad => .bad
/-- isinstance(error, C) -/
def vIsE (tab : Str → Option Bool) : Val → Option SV
  | .exn c none => (tab c).map fun b => .v (.bl b)
  | _ => none
end Eng

namespace Eng
open PySem PySem.Spec PyProof.Rows L2
theorem oApp_some {so so' : SO} {xs : List Val} {y : Val} (h : oApp so xs = some (so', y)) : ∃ ys x, so = .lst ys ∧ xs = [x] ∧ ys.length < 1000000 ∧ so' = .lst (ys ++ [x]) ∧ y = .non := by
  unfold oApp at h
  split at h
  · split at h
    · rename_i hl
      cases h
      exact ⟨_, _, rfl, rfl, hl, rfl, rfl⟩
    · cases h
  · cases h
theorem RepVs.single {G : Gc} {H : Hp} {T : Ts} {x : Val} {vs : List V} (r : RepVs G H T [x] vs) : ∃ v, vs = [v] ∧ RepV G H T x v := by
  cases r with
  | cons a b => cases b; exact ⟨_, rfl, a⟩
section
variable {X : Cx} {L : Lx} {W : WX} {o e t tg : Expr} {es : List Expr} {fo fa : Fe} {fr : Env → Sto → Rv (List SV)} {pos apos cpos : Pos} {n : Nat} {is : List Nat} {g : TG}
/-! ### a.append(x) -/
theorem ee_app (ho : EE L X W o fo) (ha : EA L X W (e :: es) fr)
    (hbase : attributeBase o "append" X.env (eval o X.env) = eval o X.env := by rfl)
    (hfew : ((backTo pos (starEach (e :: es) X.env)).all (fun x => !x.1) && (backToKw pos (keywordEach [] X.env)).all (fun x => x.1.isSome)
      && decide ((e :: es).length + ([] : List Keyword).length + (if ([] : List Keyword).isEmpty then 0 else 1) < 30)) = true := by rfl)
    (hline : (apos.endLine == pos.line) = true := by rfl) (hs : starEach (e :: es) X.env = (false, eval e X.env) :: starEach es X.env := by rfl) (hplain : (backTo pos (starEach es X.env)).any (·.1) = false := by rfl) :
    EE L X W (.Call (.Attribute o "append" apos) (e :: es) [] pos) (eMW oApp fo fr) := by
  refine PE.weak (pe_bm PySem.F.plainAttrs_list PySem.F.slot_list_append PySem.F.type_list_append mt_append ho ha hbase hfew hline hs hplain) fun σ H Q ⟨env, st, ρ, P, re, rs, p⟩ => ⟨env, st, ρ, P, re, rs, ?_⟩
  unfold eMW at p
  cases h1 : fo env st with
  | bad => rw [h1] at p; exact p
  | exc ex s => rw [h1] at p; exact p
  | ok z st1 =>
    rw [h1] at p
    intro v H1 k1 rs1 rx
    cases rx with
    | v _ => exact p.elim
    | fl _ _ _ _ _ => exact p.elim
    | fdK _ _ _ _ _ => exact p.elim
    | fdT _ _ _ _ _ => exact p.elim
    | @loc l a ql =>
      simp only at p
      split at p
      · rename_i xs0 hst1
        obtain ⟨o1, e1, r1⟩ := rs1.obj l a ql
        rw [hst1] at e1
        cases e1
        refine ⟨?_, env, st1, ρ, P, re.ext k1 rs, rs1, PostA.then (Post.step k1 p) fun zs st2 vs H2 k2 rs2 rz p2 => ?_⟩
        · cases r1 with
          | lst hh _ => exact .inl ⟨rfl, _, .inl (.inl hh)⟩
        · split at p2
          · rename_i so xs hso hfz
            split at p2
            · rename_i so' y hoy
              obtain ⟨o2, e2, r2⟩ := rs2.obj l a ql
              rw [hso] at e2
              cases e2
              cases r2 with
              | dicK _ _ => simp [oApp] at hoy
              | dicT _ _ => simp [oApp] at hoy
              | @lst ys us _ hh ru =>
                obtain ⟨ys', x, q1, rfl, hlen, rfl, rfl⟩ := oApp_some hoy
                cases q1
                obtain ⟨uy, rfl, ry⟩ := (rz.frz hfz).single
                have hz := line1
                have kw : Kp (TP P ρ) H2 (TP P ρ) (upd H2 a (.lst (us ++ [uy]))) := kp_write (.inr (tr_at ql))
                refine ⟨a, us, uy, rfl, rfl, hh, by rw [← ru.len]; omega, ?_⟩
                exact p2 .non _ (kp_write (tr_at ql)) (rs2.write ql (.lst upd_same ((ru.app ry).ext kw rs2.nt))) (.v .non)
            · exact p2.elim
          · exact p2.elim
      · exact p.elim
/-! ### a, b = e -/
theorem es_unp (ha : EE L X W e fa) (hg : PG X t g) (hpat : EP1 X (.t is) g) (hs : swapsWithSole [t] e pos.line X.env = pure false := by rfl) (hw : swappedStores [t] e X.env = pure none := by rfl)
    (h1 : (assignEach [t] X.env).map (·.2) = [assign t X.env] := by rfl) : ES L X W [] n (.Assign [t] e pos) (sUnp fa is) := by
  refine PS.weak (ps_asg ha hg hs hw h1) fun D σ H ⟨env, st, ρ, P, re, rs, p⟩ => ⟨env, st, ρ, P, re, rs, Post.thenS re rs p fun z st1 v H1 k rs1 rx p => ?_⟩
  have rz := rx.z
  cases h : z.froz with
  | loc l => rw [h] at p; exact p.elim
  | fl l => rw [h] at p; exact p.elim
  | fd l => rw [h] at p; exact p.elim
  | v x =>
    rw [h] at rz p
    simp only at p
    split at p
    · rename_i env' hb
      cases rz with
      | v rv => exact pat_ok hpat (re.ext k rs) rv hb fun σ' re' _ => p σ' H1 ρ .refl rs1 re'
    · exact p.elim
/-! ### xs.index(x), any plain things -/
theorem findV_spec {x : Val} : ∀ {ys : List Val} {k j : Nat}, findV x ys k = some j → ∃ i y, j = k + i ∧ ys[i]? = some y ∧ eqB y x = true ∧ ∀ m z, m < i → ys[m]? = some z → eqB z x = false
  | [], _, _, h => by cases h
  | y :: ys, k, j, h => by
    unfold findV at h
    split at h
    · rename_i q
      cases h
      exact ⟨0, y, rfl, rfl, q, fun m z hm => absurd hm (by omega)⟩
    · rename_i q
      obtain ⟨i, z, e1, e2, e3, e4⟩ := findV_spec h
      refine ⟨i + 1, z, by omega, by simpa using e2, e3, fun m w hm hw => ?_⟩
      cases m with
      | zero =>
        have : y = w := by simpa using hw
        rw [← this]
        simpa using q
      | succ m => exact e4 m w (by omega) (by simpa using hw)
theorem toPys_get : ∀ {xs : List Val} {i : Nat}, (toPys xs)[i]? = (xs[i]?).map toPy
  | [], _ => by simp [toPys]
  | _ :: _, 0 => by simp [toPys]
  | _ :: xs, i + 1 => by simp [toPys, toPys_get (xs := xs)]
theorem okDs_get : ∀ {xs : List Val} {n i : Nat} {x : Val}, okDs xs n = true → xs[i]? = some x → okD x n = true
  | [], _, _, _, _, e => by simp at e
  | y :: ys, n, 0, x, h, e => by
    simp only [okDs, Bool.and_eq_true] at h
    have : y = x := by simpa using e
    exact this ▸ h.1
  | y :: ys, n, i + 1, x, h, e => by
    simp only [okDs, Bool.and_eq_true] at h
    exact okDs_get h.2 (by simpa using e)
mutual
theorem okD_up : ∀ {x : Val} {n : Nat}, okD x n = true → okD x (n + 1) = true
  | .non, _, _ => rfl
  | .bl _, _, _ => rfl
  | .int _, _, _ => rfl
  | .str _, _, _ => rfl
  | .tup xs, 0, h => by simp [okD] at h
  | .tup xs, n + 1, h => by
    have h : okDs xs n = true := by simpa [okD] using h
    show okDs xs (n + 1) = true
    exact okDs_up h
  | .lst xs, 0, h => by simp [okD] at h
  | .lst xs, n + 1, h => by
    have h : okDs xs n = true := by simpa [okD] using h
    show okDs xs (n + 1) = true
    exact okDs_up h
  | .dic _ _, _, h => by simp [okD] at h
  | .glb _, _, h => by simp [okD] at h
  | .ty _, _, h => by simp [okD] at h
  | .seq _, _, h => by simp [okD] at h
  | .exn _ _, _, h => by simp [okD] at h
  | .prs _, _, h => by simp [okD] at h
theorem okDs_up : ∀ {xs : List Val} {n : Nat}, okDs xs n = true → okDs xs (n + 1) = true
  | [], _, _ => rfl
  | x :: xs, n, h => by
    simp only [okDs, Bool.and_eq_true] at h ⊢
    exact ⟨okD_up h.1, okDs_up h.2⟩
end
theorem ml_w : ∀ x xs H Q, RMm (gx L X) vLIndex x xs H Q → rIndexD X.K x xs H Q := by
  intro x xs H Q ⟨ρ, P, st, a, as, rs, na, nl, p⟩
  unfold vLIndex at p
  split at p
  · rename_i ys y
    split at p
    · rename_i hok
      simp only [Bool.and_eq_true] at hok
      cases hf : findV y ys 0 with
      | none => rw [hf] at p; exact p.elim
      | some j =>
        rw [hf] at p
        obtain ⟨v, rfl, ny⟩ := nl.one
        obtain ⟨b, us, rfl, hh, hr⟩ := na.lstOf
        obtain ⟨i, z, e1, e2, e3, e4⟩ := findV_spec hf
        have hl : okD (.lst ys) 32 = true := by simpa [okD] using hok.2
        have hy32 : okD y 32 = true := by
          have := hok.1
          exact okD_up this
        obtain ⟨d1, d2⟩ := na.shaped hl
        obtain ⟨c1, c2⟩ := ny.shaped hy32
        refine ⟨b, v, toPy y, toPys ys, j, toPy z, rfl, rfl, by simpa [toPy] using d1, c1, by simpa [toPy] using d2, c2, ?_, ?_, ?_, p.val rs (.int _)⟩
        · rw [toPys_get, e1, Nat.zero_add, e2]; rfl
        · rw [eqv_eqB z y 31 31 (okDs_get hok.2 e2) hok.1, e3]
        · intro m z' hm hz'
          rw [toPys_get] at hz'
          cases hw : ys[m]? with
          | none => rw [hw] at hz'; cases hz'
          | some w =>
            rw [hw] at hz'
            cases hz'
            rw [eqv_eqB w y 31 31 (okDs_get hok.2 hw) hok.1, e4 m w (by omega) hw]
    · exact p.elim
  · exact p.elim
theorem ee_lindex (hu : X.A.units + 65 < cLine) (ho : EE L X W o fo) (ha : EA L X W (e :: es) fr)
    (hbase : attributeBase o "index" X.env (eval o X.env) = eval o X.env := by rfl)
    (hfew : ((backTo pos (starEach (e :: es) X.env)).all (fun x => !x.1) && (backToKw pos (keywordEach [] X.env)).all (fun x => x.1.isSome)
      && decide ((e :: es).length + ([] : List Keyword).length + (if ([] : List Keyword).isEmpty then 0 else 1) < 30)) = true := by rfl)
    (hline : (apos.endLine == pos.line) = true := by rfl) (hs : starEach (e :: es) X.env = (false, eval e X.env) :: starEach es X.env := by rfl) (hplain : (backTo pos (starEach es X.env)).any (·.1) = false := by rfl) :
    EE L X W (.Call (.Attribute o "index" apos) (e :: es) [] pos) (eM "list" vLIndex fo fr) :=
  ee_bm PySem.F.plainAttrs_list PySem.F.slot_list_index PySem.F.type_list_index (mt_indexD hu) ml_w ho ha hbase hfew hline hs hplain
end
end Eng

namespace Eng
open PySem PySem.Spec PyProof.Rows L2
/-! ### len of a dict with tuple keys -/
theorem cb_lenT {X : Cx} : CallR X (.builtin "len") (fun xs H Q => ∃ (p : Addr) (kvs : List (List Key × V)), xs = [.ref p] ∧ Rd H p (.dT kvs) ∧ Q (.int ((kvs.length : Nat) : Int)) H) := by
  intro pins s σ H xs us Q I r h
  obtain ⟨p, kvs, rfl, hp, q⟩ := h
  obtain ⟨u, rfl, rx⟩ := vals1 r
  have eu : u = .ref p := rx
  subst eu
  obtain ⟨z, hd, ys, rel, dd⟩ := dt_rd I.hok hp
  have hl : kvs.length = ys.length := Paired.length rel
  refine call_len_dictH hd dd (by rw [sizeLine_eq] at z; omega) ?_
  rw [← hl]
  exact ⟨.int ((kvs.length : Nat) : Int), H, I.tok _, ⟨_, rfl⟩, q⟩
section
variable {X : Cx} {L : Lx}
theorem cb_lenX : CallR X (.builtin "len") (RLm (gx L X) vLenX) := by
  refine CallR.weak (CallR.or cb_lenT (cb_len (L := L))) fun vs H Q ⟨ρ, P, st, as, rs, nl, p⟩ => ?_
  unfold vLenX at p
  split at p
  · rename_i kvs
    obtain ⟨v, rfl, nx⟩ := nl.one
    cases nx with
    | rep r => cases r with | dicT h _ r => exact .inl ⟨_, _, rfl, h, by rw [← r.len]; exact p.val rs (.int _)⟩
    | dicT h r => exact .inl ⟨_, _, rfl, .inl h, by rw [← r.len]; exact p.val rs (.int _)⟩
  · exact .inr ⟨ρ, P, st, as, rs, nl, p⟩
end
/-! ### a dict is locked once it is walked -/
theorem pe_lockV {X : Cx} {e : Expr} {t : TE} (h : PE X e t) : PE X e (fun σ H Q => t σ H fun x H1 => Q x H1 ∨ ∃ d u, H1 d = some u ∧ Mut (some u) ∧ ∀ od, Q x (upd H1 d (.frz od u))) := by
  refine ⟨fun pins s σ H Q I0 hw => thn (h.run pins s σ H _ I0 hw) fun v s1 z => ?_⟩
  obtain ⟨x, H1, I1, r1, q | ⟨d, u, hd, mu, q⟩⟩ := z
  · exact ⟨x, H1, I1, r1, q⟩
  · obtain ⟨od, I2⟩ := I1.lock hd mu
    exact ⟨x, _, I2, r1, q od⟩
section
variable {G : Gc} {H H1 : Hp} {P : Ts} {ρ : Rho} {st : Sto}
theorem kp_lock {T : Ts} {d : Addr} {u : HO} {od : Obj} (h : H d = some u) (hu : IsD u = true) : Kp T H T (upd H d (.frz od u)) :=
  ⟨fun a o _ e t => by
    by_cases z : a = d
    · subst z
      rw [h] at e
      cases e
      exact .inr ⟨hu, od, upd_same⟩
    · exact .inl (by rw [upd_ne z]; exact e), fun a n => by
    by_cases z : a = d
    · subst z
      exact (n.no upd_same (by intros; simp)).elim
    · unfold NN at n ⊢
      rw [upd_ne z] at n
      exact n, fun _ t => .inl t⟩
theorem RepS.lock (rs : RepS G H P ρ st) {d : Addr} {u : HO} {od : Obj} (h : H d = some u) (hu : IsD u = true) (hd : ¬ TP P ρ d) : RepS G (upd H d (.frz od u)) P ρ st := by
  have k : Kp (TP P ρ) H (TP P ρ) (upd H d (.frz od u)) := kp_lock h hu
  refine ⟨rs.len, rs.nd, fun l a e => ?_, rs.dead, ?_, fun a pa => ?_, rs.apart⟩
  · obtain ⟨o, e1, r⟩ := rs.obj l a e
    exact ⟨o, e1, r.ext k rs.nt (upd_ne fun z => hd (by rw [← z]; exact .inr (tr_at e)))⟩
  · refine Tabs_write rs.tab h (fun ps z => ?_) fun φ z => ?_
    · rw [z] at hu; cases hu
    · rw [z] at hu; cases hu
  · obtain ⟨o, e1, q⟩ := rs.prv a pa
    exact ⟨o, by rw [upd_ne fun z => hd (by rw [← z]; exact .inl pa)]; exact e1, q⟩
end
/-! ### what a walk over a locked dict gives -/
section
variable {G : Gc} {H H0 H' : Hp} {P P0 : Ts} {ρ ρ0 : Rho} {st : Sto} {d : Addr} {od : Obj} {T : Ts}
theorem RepK.get {kvs : List (Val × Val)} {ks : List (Key × V)} (r : RepK G H T kvs ks) : ∀ {i : Nat} {x y : Val}, kvs[i]? = some (x, y) → ∃ k v, ks[i]? = some (k, v) ∧ keyOf x = some k ∧ RepV G H T x (kV k) ∧ RepV G H T y v := by
  induction kvs generalizing ks with
  | nil => intro i x y e; simp at e
  | cons p kvs ih =>
    cases r with
    | @cons x0 y0 k v _ ks' hk rx ry t =>
      intro i x y e
      cases i with
      | zero =>
        simp at e
        obtain ⟨rfl, rfl⟩ := e
        exact ⟨k, v, rfl, hk, rx, ry⟩
      | succ i => exact ih t (by simpa using e)
theorem RepT.get {kvs : List (Val × Val)} {ks : List (List Key × V)} (r : RepT G H T kvs ks) : ∀ {i : Nat} {x y : Val}, kvs[i]? = some (x, y) → ∃ xs k v, ks[i]? = some (k, v) ∧ x = .tup xs ∧ keysOf xs = some k ∧ RepVs G H T xs (k.map kV) ∧ RepV G H T y v := by
  induction kvs generalizing ks with
  | nil => intro i x y e; simp at e
  | cons p kvs ih =>
    cases r with
    | @cons x0 y0 k v _ ks' hk rx ry t =>
      intro i x y e
      cases i with
      | zero =>
        simp at e
        obtain ⟨rfl, rfl⟩ := e
        exact ⟨_, k, v, rfl, rfl, hk, rx, ry⟩
      | succ i => exact ih t (by simpa using e)
theorem frz_keep {u : HO} (k : Kp (TP P0 ρ0) H0 (TP P ρ) H) (h : H0 d = some (.frz od u)) (nd : ¬ TP P0 ρ0 d) : H d = some (.frz od u) := k.keepX nd h (by intros; simp) rfl
theorem walk_keyK {kvs : List (Val × Val)} {ks : List (Key × V)} (h : H0 d = some (.frz od (.dK ks))) (nd : ¬ TP P0 ρ0 d) (nt : NoTup H0 (TP P0 ρ0)) (r : RepK G H0 (TP P0 ρ0) kvs ks) : WalkS G P0 ρ0 H0 (Itk d od ks) (kvs.map (·.1)) := by
  intro i H P ρ st k rs
  have hd := frz_keep k h nd
  have hl := r.len
  refine ⟨fun x e => ?_, fun hi => ⟨hd, by rw [List.length_map] at hi; omega⟩⟩
  rw [List.getElem?_map] at e
  obtain ⟨⟨x', y⟩, e1, e2⟩ := Option.map_eq_some_iff.mp e
  have e2 : x' = x := e2
  subst e2
  obtain ⟨kk, v, e3, _, rx, _⟩ := r.get e1
  refine ⟨⟨hd, (List.getElem?_eq_some_iff.mp e3).1⟩, fun w H' hy => ?_⟩
  obtain ⟨rfl, k2, v2, e4, rfl⟩ := hy
  rw [e3] at e4
  cases e4
  exact ⟨Kp.refl, rs, rx.ext k nt⟩
theorem walk_keyT {kvs : List (Val × Val)} {ks : List (List Key × V)} (h : H0 d = some (.frz od (.dT ks))) (nd : ¬ TP P0 ρ0 d) (nt : NoTup H0 (TP P0 ρ0)) (r : RepT G H0 (TP P0 ρ0) kvs ks) : WalkS G P0 ρ0 H0 (Itkt d od ks) (kvs.map (·.1)) := by
  intro i H P ρ st k rs
  have hd := frz_keep k h nd
  have hl := r.len
  refine ⟨fun x e => ?_, fun hi => ⟨hd, by rw [List.length_map] at hi; omega⟩⟩
  rw [List.getElem?_map] at e
  obtain ⟨⟨x', y⟩, e1, e2⟩ := Option.map_eq_some_iff.mp e
  have e2 : x' = x := e2
  subst e2
  obtain ⟨xs, kk, v, e3, rfl, _, rx, _⟩ := r.get e1
  refine ⟨⟨hd, (List.getElem?_eq_some_iff.mp e3).1⟩, fun w H' hy => ?_⟩
  obtain ⟨rfl, k2, v2, q, e4, rfl, hq⟩ := hy
  rw [e3] at e4
  cases e4
  exact ⟨Kp.refl, rs, .tup (TupH.of hq r.off) (rx.ext k nt)⟩
theorem walk_valK {kvs : List (Val × Val)} {ks : List (Key × V)} (h : H0 d = some (.frz od (.dK ks))) (nd : ¬ TP P0 ρ0 d) (nt : NoTup H0 (TP P0 ρ0)) (r : RepK G H0 (TP P0 ρ0) kvs ks) : WalkS G P0 ρ0 H0 (Itd d od ks) (kvs.map (·.2)) := by
  intro i H P ρ st k rs
  have hd := frz_keep k h nd
  have hl := r.len
  refine ⟨fun x e => ?_, fun hi => ⟨hd, by rw [List.length_map] at hi; omega⟩⟩
  rw [List.getElem?_map] at e
  obtain ⟨⟨x', y⟩, e1, e2⟩ := Option.map_eq_some_iff.mp e
  have e2 : y = x := e2
  subst e2
  obtain ⟨kk, v, e3, _, _, ry⟩ := r.get e1
  refine ⟨⟨hd, (List.getElem?_eq_some_iff.mp e3).1⟩, fun w H' hy => ?_⟩
  obtain ⟨rfl, k2, e4⟩ := hy
  rw [e3] at e4
  cases e4
  exact ⟨Kp.refl, rs, ry.ext k nt⟩
theorem walk_itmK (htn : G.tn = false) {kvs : List (Val × Val)} {ks : List (Key × V)} (h : H0 d = some (.frz od (.dK ks))) (nd : ¬ TP P0 ρ0 d) (nt : NoTup H0 (TP P0 ρ0)) (r : RepK G H0 (TP P0 ρ0) kvs ks) : WalkS G P0 ρ0 H0 (Iti d od ks) (kvs.map fun p => .tup [p.1, p.2]) := by
  intro i H P ρ st k rs
  have hd := frz_keep k h nd
  have hl := r.len
  refine ⟨fun x e => ?_, fun hi => ⟨hd, by rw [List.length_map] at hi; omega⟩⟩
  rw [List.getElem?_map] at e
  obtain ⟨⟨x', y⟩, e1, e2⟩ := Option.map_eq_some_iff.mp e
  have e2 : Val.tup [x', y] = x := e2
  subst e2
  obtain ⟨kk, v, e3, _, rx, ry⟩ := r.get e1
  refine ⟨⟨hd, (List.getElem?_eq_some_iff.mp e3).1⟩, fun w H' hy => ?_⟩
  obtain ⟨T, k2, v2, e4, rfl, hT, rfl⟩ := hy
  rw [e3] at e4
  cases e4
  exact yield_pairF htn rs hT (rx.ext k nt) (ry.ext k nt)
/-- the pairs of a locked dict with tuple keys, each a new tuple -/
def ItiT (d : Addr) (o : Obj) (kvs : List (List Key × V)) : It :=
  ⟨fun i H => H d = some (.frz o (.dT kvs)) ∧ i < kvs.length, fun i H x H' => ∃ T k v q, kvs[i]? = some (k, v) ∧ x = .ref T ∧ H T = none ∧ H q = some (.tup (k.map kV)) ∧ H' = upd H T (.tup [.ref q, v]), fun i H => H d = some (.frz o (.dT kvs)) ∧ kvs.length ≤ i⟩
theorem walk_itmT {kvs : List (Val × Val)} {ks : List (List Key × V)} (h : H0 d = some (.frz od (.dT ks))) (nd : ¬ TP P0 ρ0 d) (nt : NoTup H0 (TP P0 ρ0)) (r : RepT G H0 (TP P0 ρ0) kvs ks) : WalkS G P0 ρ0 H0 (ItiT d od ks) (kvs.map fun p => .tup [p.1, p.2]) := by
  intro i H P ρ st k rs
  have hd := frz_keep k h nd
  have hl := r.len
  refine ⟨fun x e => ?_, fun hi => ⟨hd, by rw [List.length_map] at hi; omega⟩⟩
  rw [List.getElem?_map] at e
  obtain ⟨⟨x', y⟩, e1, e2⟩ := Option.map_eq_some_iff.mp e
  have e2 : Val.tup [x', y] = x := e2
  subst e2
  obtain ⟨xs, kk, v, e3, rfl, _, rx, ry⟩ := r.get e1
  refine ⟨⟨hd, (List.getElem?_eq_some_iff.mp e3).1⟩, fun w H' hy => ?_⟩
  obtain ⟨T, k2, v2, q, e4, rfl, hT, hq, rfl⟩ := hy
  rw [e3] at e4
  cases e4
  exact yield_pairF r.off rs hT (.tup (TupH.of hq r.off) (rx.ext k nt)) (ry.ext k nt)
end
end Eng

namespace Eng
open PySem PySem.Spec PyProof.Rows L2
/-! ### for k, v in d.items(), the keys tuples -/
theorem paired_at {α β : Type} {F : α → β → Prop} {l : List α} {m : List β} (h : Paired F l m) : ∀ {i : Nat} {a : α}, l[i]? = some a → ∃ b, m[i]? = some b ∧ F a b := by
  induction h with
  | nil => intro i a e; simp at e
  | cons r _ ih =>
    intro i a e
    cases i with
    | zero => simp at e; subst e; exact ⟨_, rfl, r⟩
    | succ i => simpa using ih (by simpa using e)
/-- a locked dict with tuple keys, as it lies -/
theorem frz_raw {X : Cx} {pins : List (Addr × Obj)} {σ : L2.St} {H : Hp} {s : Shared} {d : Addr} {o : Obj} {kvs : List (List Key × V)} (I : Inv X pins σ H s) (h : H d = some (.frz o (.dT kvs))) :
    (d == sysModules) = false ∧ s.heap.get? d = some o ∧ o.ExactDict ∧ ∃ (es : Array DictEntry) (ep : Nat), o.data = .dict es ep ∧ es.size = kvs.length ∧ kvs.length ≤ sizeLine ∧
      ∀ (i : Nat) (hi : i < es.size) (k : List Key) (v : V), kvs[i]? = some (k, v) → ∃ q : Addr, es[i].key = .ref q ∧ H q = some (.tup (k.map kV)) ∧ L2.RelV v es[i].val := by
  obtain ⟨hd, hz, hs, xs, pr, o', es, ep, ho, hx, hdt, he, _⟩ := I.hok d _ h
  rw [hd] at ho
  cases ho
  have l1 : es.toList.length = xs.length := by rw [he, List.length_map]
  have l2 : kvs.length = xs.length := Paired.length pr
  rw [Array.length_toList] at l1
  refine ⟨hs, hd, hx, es, ep, hdt, by omega, hz, fun i hi k v e => ?_⟩
  obtain ⟨b, hb, e1, e2, e3⟩ := paired_at pr e
  have q : es.toList[i]? = some (entryOfKey (tupleKind (mixKind X.prog X.w)) b) := by rw [he, List.getElem?_map, hb]; rfl
  rw [Array.getElem?_toList, Array.getElem?_eq_getElem hi] at q
  have q := Option.some.inj q
  exact ⟨b.2.1, by rw [q]; rfl, e2, by rw [q]; exact e3⟩
theorem turn_itmT {P : Program} {w : World} {K : PySem.W.Frag} {d : Addr} {o : Obj} {es : Array DictEntry} {ep : Nat} {kvs : List (List Key × V)} {elts : List Expr} {kk : Nat} {tpos : Pos} (it : Addr) (hod : o.data = .dict es ep) :
    Turn P w K (.Tuple elts kk tpos) (ItiT d o kvs) [it] it (fun i h => ∃ ok ov, IsItemIter h it d i es.size ep ok ov) where
  mem := List.mem_singleton.mpr rfl
  obj := fun i h ⟨ok, ov, e⟩ b hb => by
    obtain rfl := List.mem_singleton.mp hb
    exact ⟨_, e, fun v z => nomatch z⟩
  keep := fun i h h' ⟨ok, ov, e⟩ k => ⟨ok, ov, k it (List.mem_singleton.mpr rfl) _ e⟩
  item := by
    intro X hP hw hK hc i pins s σ H E I hf ⟨ok, ov, he⟩ ⟨hd, hi⟩
    subst hP hw hK
    obtain ⟨hs, hgd, hx, es', ep', hdt, hsz, _, ent⟩ := frz_raw I hd
    have hee : es' = es ∧ ep' = ep := by rw [hod] at hdt; cases hdt; exact ⟨rfl, rfl⟩
    obtain ⟨rfl, rfl⟩ := hee
    have hie : i < es'.size := by omega
    obtain ⟨q, hq1, hq2, hq3⟩ := ent i hie kvs[i].1 kvs[i].2 (List.getElem?_eq_getElem hi)
    have hlt : it < s.heap.objs.size := Heap.lt_size he
    refine DT.nextI he ⟨o, hgd, hx, hdt⟩ hie fun h' hout hT hz hk => ?_
    refine ⟨_, rfl, wpAny_letOwnedTupleGo_items (s := { s with heap := h' }) hout fun h2 he2 sb => ?_⟩
    have hT2 : h2.get? s.heap.objs.size = some { cls := .type "tuple", data := .seq #[es'[i].key, es'[i].val] } := (sb.2 _ (Nat.ne_of_gt hlt)).trans hT
    have new : ObjOk X.prog X.w (upd H s.heap.objs.size (.tup [.ref q, kvs[i].2])) h2 s.heap.objs.size (.tup [.ref q, kvs[i].2]) :=
      ⟨by show 2 ≤ sizeLine; decide, [es'[i].key, es'[i].val], .cons hq1 (.cons hq3 .nil), ⟨_, hT2, rfl, _, rfl⟩⟩
    have I1 : Inv X pins σ (upd H s.heap.objs.size (.tup [.ref q, kvs[i].2])) { s with heap := h2 } :=
      I.turnedNew (t' := s.toks) (ch := [it]) (fun b ob hb e => (sb.2 b (fun z => hb (List.mem_singleton.mpr z))).trans (hk b ob (fun z => hb (List.mem_singleton.mpr z)) e)) hf (Nat.le_refl _) new
    refine ⟨.ref s.heap.objs.size, _, I1, rfl, ⟨_, kvs[i].1, kvs[i].2, q, List.getElem?_eq_getElem hi, rfl, I.hok.fresh (Nat.le_refl _), hq2, rfl⟩, ⟨_, _, he2⟩, fun b hb => ?_⟩
    obtain rfl := List.mem_singleton.mp hb
    rw [upd_ne (Nat.ne_of_lt hlt)]
    exact (hf b hb).1
  done := by
    intro X hP hw hK hc i pins s σ H E I hf ⟨ok, ov, he⟩ ⟨hd, hi⟩
    subst hP hw hK
    obtain ⟨f0, f1, f2, f3, f4, f5⟩ := hf it (List.mem_singleton.mpr rfl)
    obtain ⟨hs, hgd, hx, es', ep', hdt, hsz, _, _⟩ := frz_raw I hd
    have hee : es' = es ∧ ep' = ep := by rw [hod] at hdt; cases hdt; exact ⟨rfl, rfl⟩
    obtain ⟨rfl, rfl⟩ := hee
    exact DT.endI (I.ok.hd hc) he ⟨o, hgd, hx, hdt⟩ (by omega) fun h' eb => ⟨rfl, I.turned (t' := s.toks) (fun b ob hb e => eb b ob hb e) f0 f1 f3 f4 f5⟩
  self := fun A i s Q E ⟨_, _, e⟩ h => PySem.W.kcp_self e h
def iItmT (td : TE) : TI := fun σ H R => td σ H fun x H1 => ∃ d o kvs, x = .ref d ∧ H1 d = some (.frz o (.dT kvs)) ∧ R (ItiT d o kvs) H1
theorem pi_itmT {X : Cx} {e : Expr} {td : TE} {apos cpos tpos : Pos} {elts : List Expr} {kk : Nat} (he : PE X e td) (hbase : attributeBase e "items" X.env (eval e X.env) = eval e X.env := by rfl) (hline : (apos.endLine == cpos.line) = true := by rfl) :
    PI X (.Tuple elts kk tpos) (.Call (.Attribute e "items" apos) [] [] cpos) (iItmT td) := by
  refine ⟨fun pins s σ H R I0 hw => ?_⟩
  refine wpAny_Call_method (T := "dict") (id := "dict.items") hbase rfl hline PySem.F.plainAttrs_dict PySem.F.slot_dict_items PySem.F.type_dict_items (thn (he.run pins s σ H _ I0 hw) fun u s1 z => ?_)
  obtain ⟨x, H1, I1, rx, d, o, kvs, rfl, hd, q⟩ := z
  have eu : u = Value.ref d := rx
  subst eu
  obtain ⟨hs, hgd, hx, es, ep, hdt, hsz, hz, _⟩ := frz_raw I1 hd
  have raw : DT.Raw s1.heap d es ep := ⟨o, hgd, hx, hdt⟩
  refine ⟨raw.typeIs, fun b eb => ?_, ?_⟩
  · cases eb
    exact ⟨o, hgd, hx.2.1⟩
  · have I2 : Inv X pins σ H1 { s1 with heap := s1.heap.push { cls := .type "dict_items", data := .fields #[.ref d] } } := I1.kept (t' := s1.toks) fun b ob q => Heap.get?_push_of_some _ q
    have fin : wpAny (model X.prog X.w) X.A (pyIter (.ref s1.heap.objs.size)) (PIE X pins σ (.Tuple elts kk tpos) R) X.xe { s1 with heap := s1.heap.push { cls := .type "dict_items", data := .fields #[.ref d] } } :=
      DT.iterI (d := d) ⟨_, Heap.get?_push_size _ rfl, rfl, rfl⟩ (raw.push _) (pi_one (tk := s1.toks) I2 _ (turn_itmT _ hdt) ⟨.none, .none, Heap.get?_push_size _ rfl⟩ q)
    exact method_meetsIn PySem.F.slot_dict_items PySem.F.entry_dict_items rfl (PySem.evalArgs_none ⟨rfl, raw.typeIs, PySem.F.args_dict_items_1 _, _, DT.meetsItems (prog := X.prog) (w := X.w) (es := es) (ep := ep) hs, raw, fin⟩)
/-! ### walks over dicts, as mirrors -/
theorem Post.lockI {G : Gc} {W : WX} {σ : L2.St} {H : Hp} {ρ : Rho} {P : Ts} {r : Rv SV} {f : SV → Sto → Rv Src} {R : It → Hp → Prop} {Q' : VK} (p : PostI G W σ P ρ H (r.bind f) R)
    (w : ∀ z st1 v H1, Kp (Tr ρ) H (Tr ρ) H1 → RepS G H1 P ρ st1 → RepZ G H1 P ρ z.froz v → PostI G W σ P ρ H1 (f z st1) R → Q' v H1) : Post G W σ P ρ H r Q' := by
  refine Post.thenI p fun z st1 v H1 k rs rx p => w z st1 v H1 k rs rx.z p
section
variable {X : Cx} {L : Lx} {W : WX} {tg e : Expr} {fa : Fe} {apos cpos tpos : Pos} {elts : List Expr} {kk : Nat} {P : Ts} {ρ : Rho} {H : Hp} {st : Sto} {u : V}
/-- a dict that is read: locked, or it can be -/
theorem dic_lock {kvs : List (Val × Val)} {t : Bool} {Q : VK} (rs : RepS (gx L X) H P ρ st) (r : RepV (gx L X) H (TP P ρ) (.dic t kvs) u)
    (q : ∀ d od H1, u = .ref d → Kp (Tr ρ) H (Tr ρ) H1 → RepS (gx L X) H1 P ρ st → ¬ TP P ρ d → ((∃ ks, t = false ∧ H1 d = some (.frz od (.dK ks)) ∧ RepK (gx L X) H1 (TP P ρ) kvs ks) ∨ ∃ ks, t = true ∧ H1 d = some (.frz od (.dT ks)) ∧ RepT (gx L X) H1 (TP P ρ) kvs ks) → Q u H1) :
    Q u H ∨ ∃ d u', H d = some u' ∧ Mut (some u') ∧ ∀ od, Q u (upd H d (.frz od u')) := by
  cases r with
  | @dicK _ ks a h na rk =>
    rcases h with h | ⟨o, h⟩
    · exact .inr ⟨a, _, h, trivial, fun od => q a od _ rfl (kp_lock h rfl) (rs.lock h rfl na) na (.inl ⟨ks, rfl, upd_same, rk.ext (kp_lock h rfl) rs.nt⟩)⟩
    · exact .inl (q a o H rfl Kp.refl rs na (.inl ⟨ks, rfl, h, rk⟩))
  | @dicT _ ks a h na rk =>
    rcases h with h | ⟨o, h⟩
    · exact .inr ⟨a, _, h, trivial, fun od => q a od _ rfl (kp_lock h rfl) (rs.lock h rfl na) na (.inr ⟨ks, rfl, upd_same, rk.ext (kp_lock h rfl) rs.nt⟩)⟩
    · exact .inl (q a o H rfl Kp.refl rs na (.inr ⟨ks, rfl, h, rk⟩))
theorem ei_key (ha : EE L X W e fa) : EI L X W tg e (iKeyF fa) := by
  refine PI.weak (pi_keys (pe_lockV ha)) fun σ H R ⟨env, st, ρ, P, re, rs, p⟩ => ⟨env, st, ρ, P, re, rs, Post.lockI p fun z st1 v H1 k rs1 rz p => ?_⟩
  split at p
  · rename_i t kvs hz
    rw [hz] at rz
    cases rz with
    | v r =>
      refine dic_lock (Q := fun x H1 => ∃ d o, x = V.ref d ∧ ((∃ kvs, H1 d = some (HO.frz o (HO.dK kvs)) ∧ R (Itk d o kvs) H1) ∨ ∃ kvs, H1 d = some (HO.frz o (HO.dT kvs)) ∧ R (Itkt d o kvs) H1)) rs1 r fun d od H2 ev k2 rs2 nd hh => ?_
      rcases hh with ⟨ks, _, h, rk⟩ | ⟨ks, _, h, rk⟩
      · exact ⟨d, od, ev, .inl ⟨ks, h, p _ H2 k2 rs2 (walk_keyK h nd rs2.nt rk)⟩⟩
      · exact ⟨d, od, ev, .inr ⟨ks, h, p _ H2 k2 rs2 (walk_keyT h nd rs2.nt rk)⟩⟩
  · exact p.elim
theorem ei_val (ha : EE L X W e fa) (hbase : attributeBase e "values" X.env (eval e X.env) = eval e X.env := by rfl) (hline : (apos.endLine == cpos.line) = true := by rfl) : EI L X W tg (.Call (.Attribute e "values" apos) [] [] cpos) (iValF fa) := by
  refine PI.weak (pi_values (pe_lockV ha) hbase hline) fun σ H R ⟨env, st, ρ, P, re, rs, p⟩ => ⟨env, st, ρ, P, re, rs, Post.lockI p fun z st1 v H1 k rs1 rz p => ?_⟩
  split at p
  · rename_i kvs hz
    rw [hz] at rz
    cases rz with
    | v r =>
      refine dic_lock (Q := fun x H1 => ∃ d o kvs, x = V.ref d ∧ H1 d = some (HO.frz o (HO.dK kvs)) ∧ R (Itd d o kvs) H1) rs1 r fun d od H2 ev k2 rs2 nd hh => ?_
      rcases hh with ⟨ks, _, h, rk⟩ | ⟨ks, hf, _⟩
      · exact ⟨d, od, ks, ev, h, p _ H2 k2 rs2 (walk_valK h nd rs2.nt rk)⟩
      · cases hf
  · exact p.elim
theorem ei_itm (htn : L.tn = false) (ha : EE L X W e fa) (hbase : attributeBase e "items" X.env (eval e X.env) = eval e X.env := by rfl) (hline : (apos.endLine == cpos.line) = true := by rfl) :
    EI L X W (.Tuple elts kk tpos) (.Call (.Attribute e "items" apos) [] [] cpos) (iItmF fa) := by
  refine PI.weak (PI.or (pi_items (pe_lockV ha) hbase hline) (pi_itmT (pe_lockV ha) hbase hline)) fun σ H R ⟨env, st, ρ, P, re, rs, p⟩ => ?_
  unfold iItmF at p
  cases hf : fa env st with
  | bad => rw [hf] at p; exact p.elim
  | exc ex s => exact .inl ⟨env, st, ρ, P, re, rs, by rw [hf] at p ⊢; exact p⟩
  | ok z st1 =>
    rw [hf] at p
    rw [s_bind_ok] at p
    split at p
    · rename_i t kvs hz
      cases t with
      | false =>
        refine .inl ⟨env, st, ρ, P, re, rs, ?_⟩
        rw [hf]
        intro v H1 k rs1 rx
        have rz := rx.z
        rw [hz] at rz
        cases rz with
        | v r =>
          refine dic_lock (Q := fun x H1 => ∃ d o kvs, x = V.ref d ∧ H1 d = some (HO.frz o (HO.dK kvs)) ∧ R (Iti d o kvs) H1) rs1 r fun d od H2 ev k2 rs2 nd hh => ?_
          rcases hh with ⟨ks, _, h, rk⟩ | ⟨ks, hf, _⟩
          · exact ⟨d, od, ks, ev, h, p _ H2 (k.trans k2) rs2 (walk_itmK htn h nd rs2.nt rk)⟩
          · cases hf
      | true =>
        refine .inr ⟨env, st, ρ, P, re, rs, ?_⟩
        rw [hf]
        intro v H1 k rs1 rx
        have rz := rx.z
        rw [hz] at rz
        cases rz with
        | v r =>
          refine dic_lock (Q := fun x H1 => ∃ d o kvs, x = V.ref d ∧ H1 d = some (HO.frz o (HO.dT kvs)) ∧ R (ItiT d o kvs) H1) rs1 r fun d od H2 ev k2 rs2 nd hh => ?_
          rcases hh with ⟨ks, hf, _⟩ | ⟨ks, _, h, rk⟩
          · cases hf
          · exact ⟨d, od, ks, ev, h, p _ H2 (k.trans k2) rs2 (walk_itmT h nd rs2.nt rk)⟩
    · exact p.elim
end
end Eng

set_option maxHeartbeats 1000000
namespace Eng
open PySem PySem.Spec PyProof.Rows L2
/-! ### dict comprehensions whose keys are tuples -/
section
variable {X : Cx}
/-- d[k] = v, the key a tuple, by a comprehension -/
theorem put_T {pins : List (Addr × Obj)} {σ : L2.St} {H : Hp} {s : Shared} {Er : Value → Shared → Prop} {D b : Addr} {kvs : List (List Key × V)} {k : List Key} {v : V} {u r : Value} {Q : Unit → Shared → Prop} (hu : X.A.units + 1 < cLine) (I : Inv X pins σ H s) (hD : H D = some (.dT kvs)) (hz : kvs.length < sizeLine)
    (hb : H b = some (.tup (k.map kV))) (ru : L2.RelV (.ref b) u) (rv : L2.RelV v r) (q : ∀ s', Inv X pins σ (upd H D (.dT (putK kvs k v))) s' → Q () s') : wpAny (model X.prog X.w) X.A (dictSet D u r) Q Er s := by
  have eu : u = Value.ref b := ru
  subst eu
  obtain ⟨z, hd, xs, rel, dd⟩ := dt_of I.hok hD
  have l1 := length_putK kvs k v
  refine wpAny_dictSet_heap (hsz := by rw [← Paired.length rel]; exact z) (show X.A.units < cLine from Nat.lt_of_succ_lt hu) (key_of I.hok hb) dd fun h' d2 sb => q _ ?_
  obtain ⟨o, es, ep, e1, e2, e3, e4, _, e5⟩ := d2
  have rel2 : KT (upd H D (.dT (putK kvs k v))) (putK kvs k v) _ := (rel.put k hb rv).keeps fun c ys ec => by
    rw [upd_ne (ne_of ec hD (fun z => nomatch z))]
    exact ec
  exact d_write I (by rw [hD]; trivial) sb ⟨o, e1⟩ ⟨by omega, hd, _, rel2, o, es, ep, e1, e2, e3, e4, e5⟩
/-- what a turn, and the end, of such a comprehension ask -/
def tDcT (wi : TI) (g : TG) (tt : TT) (tk tv : TE) (vs : List Nat) : TE := fun σ H Q => wi σ H fun J H1 => ∀ D, H1 D = none → ∃ Wt : Nat → Nat → Hp → Prop, (∃ m, Wt 0 m (upd H1 D (.dT []))) ∧ ∀ i m Ha, Wt i m Ha →
  (J.stop i Ha ∧ Q (.ref D) Ha) ∨ (J.go i Ha ∧ ∃ Nx : Hp → Prop, (∀ Hb, Nx Hb → ∃ m', m' < m ∧ Wt (i + 1) m' Hb) ∧ ∀ x Hb, J.yld i Ha x Hb → g x (L2.wipe σ vs) Hb fun σ2 Hc => L2.wipe σ2 vs = L2.wipe σ vs ∧ tt σ2 Hc fun b Hd =>
    if b = true then tk σ2 Hd fun y He => tv σ2 He fun z Hf => ∃ kvs k q, y = .ref q ∧ Hf q = some (.tup (k.map kV)) ∧ Hf D = some (.dT kvs) ∧ kvs.length < sizeLine ∧ Nx (upd Hf D (.dT (putK kvs k z))) else Nx Hd)
variable {kx vx tg iter : Expr} {ifs : List Expr} {scope : Scope} {own : List (Str × Nat)} {pos : Pos} {wi : TI} {g : TG} {tt : TT} {tk tv : TE}
theorem pe_dcT (hu : X.A.units + 1 < cLine) (hc : X.calm = true) (hN : X.N.Nodup) (hi : PI X tg iter wi) (ok : BlkOk X.N X.env.scope scope own)
    (hg : ∀ (s : Shared) (H : Hp) (C : Addr) (cl : List (Str × Addr)) (fp : List Addr), PG (X.blk s H scope (compEnvC scope cl C X.env) fp) tg g) (ht : ∀ (s : Shared) (H : Hp) (C : Addr) (cl : List (Str × Addr)) (fp : List Addr), PTs (X.blk s H scope (compEnvC scope cl C X.env) fp) ifs tt)
    (hk : ∀ (s : Shared) (H : Hp) (C : Addr) (cl : List (Str × Addr)) (fp : List Addr), PE (X.blk s H scope (compEnvC scope cl C X.env) fp) kx tk) (he : ∀ (s : Shared) (H : Hp) (C : Addr) (cl : List (Str × Addr)) (fp : List Addr), PE (X.blk s H scope (compEnvC scope cl C X.env) fp) vx tv)
    (hs : ∀ x, foldedSetIterable iter X.env x = pure x := by intro _; rfl) : PE X (.DictComp kx vx [⟨tg, iter, ifs, 0⟩] scope pos) (tDcT wi g tt tk tv (own.map (·.2))) := by
  refine ⟨fun pins s σ H Q I0 hw => ?_⟩
  rw [arm_eval_DictComp]
  have hfree : ∀ y ∈ scope.names, y.2 = .free → ∃ c, X.env.cells.lookup y.1 = some c := fun y hy ef => (ok.free y hy ef).elim (fun k => I0.ok.has _ (.inl k)) fun k => I0.ok.has _ (.inr k)
  refine wpAny_comprehension_free (use := none) rfl hs (closure_ok hfree) ok.kind (fun y hy ef => by rw [ok.uniq y hy, ef]) (thn (hi.run pins s σ H _ I0 hw) fun _ s1 h1 => thn h1 fun _ s2 h2 => ?_)
  obtain ⟨it, fp, tn, J, H2, rfl, I2, T, st2, f2, q⟩ := h2
  refine wpAny_newObj_type (newEnv_comp ?_)
  obtain ⟨D, eD⟩ : ∃ D, D = s2.heap.objs.size := ⟨_, rfl⟩
  rw [← eD]
  obtain ⟨Wt, ⟨m0, w0⟩, turn⟩ := q D (I2.hok.fresh (Nat.le_of_eq eD.symm))
  obtain ⟨s3, e3⟩ : ∃ s3 : Shared, s3 = { s2 with heap := s2.heap.push { cls := .type "dict", data := .dict #[] } } := ⟨_, rfl⟩
  have h3 : s3.heap = s2.heap.push { cls := .type "dict", data := .dict #[] } := by rw [e3]
  have I3 : Inv X pins σ (upd H2 D (.dT [])) s3 := by
    rw [e3]
    exact I2.laid (t' := s2.toks) (fun b o e => Heap.get?_push_of_some _ e) (Nat.le_of_eq eD.symm) (by rw [eD]; exact dt_empty s2.heap I2.big)
  have f3 : ∀ b ∈ fp, FpOk X pins (upd H2 D (.dT [])) b ∧ b < s3.heap.objs.size := fun b hb => by
    obtain ⟨o, e, _⟩ := T.obj _ _ st2 b hb
    have hlt : b < s2.heap.objs.size := Heap.lt_size e
    refine ⟨⟨?_, (f2 b hb).2⟩, by rw [h3, Heap.size_push]; exact Nat.lt_succ_of_lt hlt⟩
    rw [upd_ne (by rw [eD]; exact Nat.ne_of_lt hlt)]
    exact (f2 b hb).1
  have st3 : tn 0 s3.heap := T.keep _ _ _ st2 fun b _ o e => by rw [h3]; exact Heap.get?_push_of_some _ e
  have I4 := block_start I3 ok hN f3
  have eEnv : ∃ ce, ce = compEnvC scope (cellsFrom (s3.heap.objs.size + 1) scope.names (cloFrom X.env.cells scope.names [])) s3.heap.objs.size X.env := ⟨_, rfl⟩
  obtain ⟨ce, ece⟩ := eEnv
  have cL : ce.locals = s3.heap.objs.size := by rw [ece]; rfl
  have pg := hg s3 (upd H2 D (.dT [])) s3.heap.objs.size (cellsFrom (s3.heap.objs.size + 1) scope.names (cloFrom X.env.cells scope.names [])) fp
  have pt := ht s3 (upd H2 D (.dT [])) s3.heap.objs.size (cellsFrom (s3.heap.objs.size + 1) scope.names (cloFrom X.env.cells scope.names [])) fp
  have pk := hk s3 (upd H2 D (.dT [])) s3.heap.objs.size (cellsFrom (s3.heap.objs.size + 1) scope.names (cloFrom X.env.cells scope.names [])) fp
  have pv := he s3 (upd H2 D (.dT [])) s3.heap.objs.size (cellsFrom (s3.heap.objs.size + 1) scope.names (cloFrom X.env.cells scope.names [])) fp
  rw [← e3]
  rw [← ece] at I4 pg pt pk pv
  show codeAny _ _ (.compStart (.DictComp kx vx [⟨tg, iter, ifs, 0⟩] scope pos) 0 (.ref it) (.ref D) (compEnvC scope (cellsFrom (s3.heap.objs.size + 1) scope.names (cloFrom X.env.cells scope.names [])) s3.heap.objs.size X.env)) _ { s3 with heap := pushCells (s3.heap.push { cls := .type "dict", data := .dict #[] }) scope.names }
  rw [← ece]
  have nfp : ∀ b ∈ fp, (upd H2 D (.dT [])) b = none := fun b hb => (f3 b hb).1.1
  obtain ⟨H3, eH3⟩ : ∃ H3, H3 = upd H2 D (.dT []) := ⟨_, rfl⟩
  rw [← eH3] at I3 I4 pg pt pk pv w0 nfp f3
  obtain ⟨s4, e4⟩ : ∃ s4 : Shared, s4 = { s3 with heap := pushCells (s3.heap.push { cls := .type "dict", data := .dict #[] }) scope.names } := ⟨_, rfl⟩
  rw [← e4] at I4 ⊢
  have st4 : tn 0 s4.heap := T.keep _ _ _ st3 fun b _ o e => by rw [e4]; exact pushCells_keeps _ _ _ _ (Heap.get?_push_of_some _ e)
  -- the iterator's things, at any point of the block
  have fpB : ∀ {σ' : L2.St} {Ha : Hp} {sa : Shared}, Inv (X.blk s3 H3 scope ce fp) [] σ' Ha sa → (∀ b ∈ fp, Ha b = none) → ∀ b ∈ fp, FpOk (X.blk s3 H3 scope ce fp) [] Ha b := fun {σ' Ha sa} Ia hn b hb =>
    ⟨hn b hb, (Ia.ok.exf b hb).1, Ia.ok.exfs b hb, .inl hb, fun x c e => (Ia.ok.exf b hb).2 x c e, fun p hp => absurd (show p ∈ ([] : List (Addr × Obj)) ++ [] from hp) (by simp)⟩
  have St : codeAny (model X.prog X.w) X.A (.compLoop (.DictComp kx vx [⟨tg, iter, ifs, 0⟩] scope pos) 0 (.ref it) (.ref D) ce) (compPost (model X.prog X.w) X.A X.xe none (L2.EP X pins σ Q) (.ref D) s3.heap.objs.size) s4 := by
    refine compLoop_anyD (fun n sa => ∃ i Ha, Inv (X.blk s3 H3 scope ce fp) [] (L2.wipe σ (own.map (·.2))) Ha sa ∧ tn i sa.heap ∧ (∀ b ∈ fp, Ha b = none) ∧ Wt i n Ha) (fun n s5 hI => ?_) m0 ⟨0, H3, I4, st4, nfp, w0⟩
    obtain ⟨i, H5, I5, st5, n5, w5⟩ := hI
    rcases turn i n H5 w5 with ⟨stop, qq⟩ | ⟨go, Nx, hNx, step⟩
    · refine thnF (T.done (X.blk s3 H3 scope ce fp) rfl rfl rfl hc i [] s5 _ H5 (fun _ _ => False) I5 (fpB I5 n5) st5 stop) fun r s6 z => ?_
      obtain ⟨rfl, I6⟩ := z
      have I7 : Inv X pins σ H5 s6 := I3.call' (ch := fp) I6.os I6.base I6.hok I6.bare fun b hb => ⟨(f3 b hb).1.2.2.2.1, (f3 b hb).1.2.1, (f3 b hb).1.2.2.2.2.1, (f3 b hb).1.2.2.2.2.2⟩
      have nC : H5 s3.heap.objs.size = none := by
        have z : H5 ce.locals = none := I6.free
        rw [cL] at z
        exact z
      obtain ⟨m, hn, _⟩ := I6.loc
      have hn : s6.heap.Ns ce.locals m := hn
      rw [cL] at hn
      refine ⟨m, hn, fun h'' sb => ?_⟩
      obtain ⟨a0, a1, a2, a3, a4, a5⟩ := I3.fpOk (Nat.le_refl _) nC
      exact ⟨.ref D, H5, I7.turned (t' := s6.toks) (fun b o hb e => (sb.2 b hb).trans e) a0 a1 a3 a4 a5, rfl, qq⟩
    · refine thnF (T.item (X.blk s3 H3 scope ce fp) rfl rfl rfl hc i [] s5 _ H5 (fun _ _ => False) I5 (fpB I5 n5) st5 go) fun r s6 z => ?_
      obtain ⟨u, rfl, h6⟩ := z
      refine thnF h6 fun _ s7 z => ?_
      obtain ⟨x, H7, I7, r7, y7, st7, n7⟩ := z
      have J7 := I7.pinned (fpB I7 n7) (T.obj _ _ st7)
      have next : ∀ {sa : Shared} {Ha : Hp} {σ8 : L2.St}, L2.wipe σ8 (own.map (·.2)) = L2.wipe σ (own.map (·.2)) → Inv (X.blk s3 H3 scope ce fp) ([] ++ pinsAt fp s7.heap) σ8 Ha sa → Nx Ha →
          ∃ m, m < n ∧ ∃ i Ha, Inv (X.blk s3 H3 scope ce fp) [] (L2.wipe σ (own.map (·.2))) Ha sa ∧ tn i sa.heap ∧ (∀ b ∈ fp, Ha b = none) ∧ Wt i m Ha := fun {sa Ha σ8} hw8 Ia nx => by
        obtain ⟨m', hm, w'⟩ := hNx Ha nx
        have pin : ∀ b ∈ fp, ∀ o, s7.heap.get? b = some o → sa.heap.get? b = some o ∧ Ha b = none := fun b hb o e => by
          have z := Ia.pin (b, o) (List.mem_append_right _ (List.mem_append_right _ (mem_pinsAt hb e)))
          exact ⟨z.1, z.2.1⟩
        refine ⟨m', hm, i + 1, Ha, (Ia.unpinned (pins := [])).weak (by rw [← hw8, wipe_length]) (fun j v e => ?_), T.keep _ _ _ st7 fun b hb o e => (pin b hb o e).1, fun b hb => ?_, w'⟩
        · rw [← hw8] at e
          exact (wipe_some e).1
        · obtain ⟨o, e, _⟩ := T.obj _ _ st7 b hb
          exact (pin b hb o e).2
      refine thnF (pg.run _ s7 _ H7 x u _ J7 r7 (step x H7 y7)) fun _ s8 z => ?_
      obtain ⟨σ8, H8, I8, hw8, q8⟩ := z
      refine thnF (pt.run _ s8 σ8 H8 _ I8 q8) fun b s9 z => ?_
      obtain ⟨H9, I9, q9⟩ := z
      cases b with
      | false =>
        simp only [Bool.false_eq_true, if_false] at q9 ⊢
        exact next hw8 I9 q9
      | true =>
        simp only [if_true] at q9 ⊢
        refine thnF (pk.run _ s9 σ8 H9 _ I9 q9) fun _ s10 z => ?_
        obtain ⟨yk, H10, I10, r10, q10⟩ := z
        refine thnF (pv.run _ s10 σ8 H10 _ I10 q10) fun _ s11 z => ?_
        obtain ⟨yv, H11, I11, r11, kvs, k, qa, rfl, hqa, hD11, hz11, nx⟩ := z
        exact put_T (X := X.blk s3 H3 scope ce fp) hu I11 hD11 hz11 hqa r10 r11 fun s12 I12 => next hw8 I12 nx
  exact codeAny_compStart_dict St (T.self X.A 0 _ _ _ st4 St)
end
theorem keyIs_tup {x : Val} (h : keyIs true x = true) : ∃ xs k, x = .tup xs ∧ keysOf xs = some k := by
  cases x <;> simp [keyIs] at h
  obtain ⟨k, e⟩ := Option.isSome_iff_exists.mp h
  exact ⟨_, k, rfl, e⟩
section
variable {X : Cx} {L : Lx} {W : WX} {tg iter kx vx : Expr} {fi : Fi} {p : Pat} {g : TG} {t : Ft} {fk fv : Fe} {vs : List Nat}
theorem dcompT_tm (htn : L.tn = false) (hpat : EP1 X p g) (hv : ∀ i ∈ p.names, i ∈ vs) (σ : L2.St) (H : Hp) (Q : VK) (h : TEm (gx L X) W (eDCompT fi p t fk fv vs) σ H Q) (hz : 1000000 < sizeLine := by decide) :
    tDcT (TIm (gx L X) W fi) g (TTm (gx L X) W0 t) (TEm (gx L X) W0 fk) (TEm (gx L X) W0 fv) vs σ H Q := by
  obtain ⟨env, st, ρ, P, re, rs, q⟩ := h
  refine ⟨env, st, ρ, P, re, rs, ?_⟩
  unfold eDCompT at q
  cases hf : fi env st with
  | exc e st1 => rw [hf] at q; exact q
  | bad => rw [hf] at q; exact q
  | ok s st1 =>
    rw [hf] at q
    intro J H1 k1 rs1 wk D hD
    cases s with
    | cell l => exact q.elim
    | seq xs =>
      have q : Post (gx L X) W σ P ρ H (if xs.length ≤ 1000000 then (dcSeqT p t fk fv (wipeE env vs) xs [] st1).freshT else .bad) Q := q
      split at q
      · rename_i hxl
        have h0D : NN H D := k1.none (.inl hD)
        have rsD : RepS (gx L X) (upd H1 D (.dT [])) (Plus P D) ρ st1 := rs1.freshP hD ⟨by intros; simp, by intros; simp, by intros; simp, by intros; simp⟩
        have nP : ¬ P D := fun t => rs1.ntr hD (.inl t)
        have reD : RepE (gx L X) (upd H1 D (.dT [])) (Plus P D) ρ (wipeE env vs) (L2.wipe σ vs) := (re.ext k1 rs).plus hD rs1 |>.wipe vs
        let St := fun (acc : List (Val × Val)) (st2 : Sto) (H2 : Hp) => Kp (Tr ρ) H (Tr ρ) H2 ∧ Kp (TP (Plus P D) ρ) (upd H1 D (.dT [])) (TP (Plus P D) ρ) H2 ∧ RepS (gx L X) H2 (Plus P D) ρ st2 ∧ ∃ us, H2 D = some (.dT us) ∧ RepT (gx L X) H2 (TP (Plus P D) ρ) acc us
        have st0 : St [] st1 (upd H1 D (.dT [])) := ⟨k1.trans (kp_new hD), Kp.refl, rsD, [], upd_same, .nil htn⟩
        let Qv := fun r : Rv (List (Val × Val)) => Post (gx L X) W σ P ρ H r.freshT Q
        refine ⟨fun i m H2 => ∃ acc st2, m = xs.length - i ∧ acc.length ≤ i ∧ St acc st2 H2 ∧ Qv (dcSeqT p t fk fv (wipeE env vs) (xs.drop i) acc st2), ⟨xs.length, [], st1, rfl, Nat.le_refl _, st0, q⟩, fun i m H2 hW => ?_⟩
        obtain ⟨acc, st2, hm, hl, hS, hq⟩ := hW
        have w := wk i H2 (Plus P D) ρ st2 ((kp_newP hD).trans hS.2.1) hS.2.2.1
        by_cases hi : i < xs.length
        · rw [List.drop_eq_getElem_cons hi] at hq
          obtain ⟨hgo, hy⟩ := w.1 xs[i] (List.getElem?_eq_getElem hi)
          refine .inr ⟨hgo, fun H' => ∃ acc' st', acc'.length ≤ i + 1 ∧ St acc' st' H' ∧ Qv (dcSeqT p t fk fv (wipeE env vs) (xs.drop (i + 1)) acc' st'), fun H' hN => ?_, fun v H3 yy => ?_⟩
          · obtain ⟨acc', st', a, b, c⟩ := hN
            exact ⟨xs.length - (i + 1), by omega, acc', st', rfl, a, b, c⟩
          · obtain ⟨k3, rs3, rv⟩ := hy v H3 yy
            obtain ⟨k2, kB, rs2, us, eD, rus⟩ := hS
            unfold dcSeqT at hq
            cases hb : bindP p xs[i] (wipeE env vs) with
            | none => rw [hb] at hq; exact hq.elim
            | some env' =>
              rw [hb] at hq
              have re3 : RepE (gx L X) H3 (Plus P D) ρ (wipeE env vs) (L2.wipe σ vs) := ⟨reD.len, fun i z h => by
                obtain ⟨u, e, r⟩ := reD.get i z h
                refine ⟨u, e, ?_⟩
                cases r with
                | v r => exact .v ((r.ext kB rsD.nt).ext k3.tp rs2.nt)
                | loc q => exact .loc q⟩
              refine pat_ok hpat re3 rv hb fun σ4 re4 hw => ⟨?_, ?_⟩
              · rw [hw vs hv, wipe_wipe fun i h => h]
              · refine ⟨env', st2, ρ, Plus P D, re4, rs3, ?_⟩
                cases ht : t env' st2 with
                | bad => simp only [ht, Rv.bind] at hq; exact hq.elim
                | exc e s => simp only [ht, Rv.bind] at hq; exact hq.elim
                | ok b st4 =>
                  simp only [ht, Rv.bind] at hq
                  intro H4 k4 rs4
                  have nD : ¬ Tr ρ D := rs2.apart D (.inr rfl)
                  have keepD : ∀ {Ha Hb : Hp} {sa sb : Sto} {us : List (List Key × V)}, Kp (Tr ρ) Ha (Tr ρ) Hb → RepS (gx L X) Hb (Plus P D) ρ sb → Ha D = some (.dT us) → Hb D = some (.dT us) := fun {Ha Hb sa sb us} k r e => by
                    rcases k.keep D _ nD e (by intros; simp) with e' | ⟨_, od, e'⟩
                    · exact e'
                    · obtain ⟨u, e2, pl⟩ := r.prv D (.inr rfl)
                      rw [e'] at e2
                      cases e2
                      exact (pl.2.2.1 _ _ rfl).elim
                  have eD4 : H4 D = some (.dT us) := keepD (sa := st2) (k3.trans k4) rs4 eD
                  have rus4 := rus.ext (k3.trans k4).tp rs2.nt
                  have kB4 := (kB.trans k3.tp).trans k4.tp
                  have kA4 := (k2.trans k3).trans k4
                  cases b with
                  | false =>
                    simp only [Bool.false_eq_true, if_false] at hq ⊢
                    exact ⟨acc, st4, by omega, ⟨kA4, kB4, rs4, us, eD4, rus4⟩, hq⟩
                  | true =>
                    simp only [if_true] at hq ⊢
                    refine ⟨env', st4, ρ, Plus P D, re4.ext k4 rs3, rs4, ?_⟩
                    cases hfk : fk env' st4 with
                    | bad => simp only [hfk] at hq; exact hq.elim
                    | exc e s => simp only [hfk] at hq; exact hq.elim
                    | ok zk st5 =>
                      simp only [hfk] at hq
                      intro y H5 k5 rs5 rx
                      refine ⟨env', st5, ρ, Plus P D, (re4.ext k4 rs3).ext k5 rs4, rs5, ?_⟩
                      cases hfv : fv env' st5 with
                      | bad => simp only [hfv] at hq; exact hq.elim
                      | exc e s => simp only [hfv] at hq; exact hq.elim
                      | ok zv st6 =>
                        simp only [hfv] at hq
                        intro z H6 k6 rs6 rx6
                        have rz := rx6.z
                        cases hz2 : zv.froz with
                        | loc _ => rw [hz2] at hq; cases zk <;> exact hq.elim
                        | fl _ => rw [hz2] at hq; cases zk <;> exact hq.elim
                        | fd _ => rw [hz2] at hq; cases zk <;> exact hq.elim
                        | v yv =>
                          rw [hz2] at hq rz
                          cases rx with
                          | loc _ => exact hq.elim
                          | fl _ _ _ _ _ => exact hq.elim
                          | fdK _ _ _ _ _ => exact hq.elim
                          | fdT _ _ _ _ _ => exact hq.elim
                          | @v kv _ rk =>
                            simp only at hq
                            split at hq
                            · rename_i hkk
                              obtain ⟨ks, kk, rfl, hkq⟩ := keyIs_tup hkk
                              cases rk with
                              | @tup _ us1 qa hq0 rq =>
                                have hq1 := hq0.off htn
                                obtain rfl := keysOf_V hkq rq
                                cases rz with
                                | v ry =>
                                  have eD6 : H6 D = some (.dT us) := keepD (sa := st5) k6 rs6 (keepD (sa := st4) k5 rs5 eD4)
                                  have hq6 : H6 qa = some (.tup (kk.map kV)) := k6.keepX (fun t => (rs5.nt _ _ (.inr t) hq1).1 _ rfl) hq1 (by intros; simp) rfl
                                  refine ⟨us, kk, qa, rfl, hq6, eD6, by rw [← rus.len]; omega, dPut acc (.tup ks) yv, st6, by have := dPut_len acc (.tup ks) yv; omega, ?_, hq⟩
                                  have kw : Kp (TP (Plus P D) ρ) H6 (TP (Plus P D) ρ) (upd H6 D (.dT (putK us kk z))) := kp_write (.inl (.inr rfl))
                                  have k7 := (kA4.trans k5).trans k6
                                  exact ⟨⟨fun a o na e nt => by rw [upd_ne (h0D.ne e nt)]; exact k7.keep a o na e nt, fun a n => h0D.over k7.stay n, fun a t => .inl t⟩, ((kB4.trans k5.tp).trans k6.tp).trans kw,
                                    rs6.writeP (.inr rfl) ⟨by intros; simp, by intros; simp, by intros; simp, by intros; simp⟩, putK us kk z, upd_same,
                                    repT_put hkq ((rq.ext k6.tp rs5.nt).ext kw rs6.nt) (ry.ext kw rs6.nt) (((rus4.ext k5.tp rs4.nt).ext k6.tp rs5.nt).ext kw rs6.nt)⟩
                            · exact hq.elim
        · rw [List.drop_eq_nil_of_le (by omega)] at hq
          obtain ⟨k2, _, rs2, us, e, rv⟩ := hS
          exact .inl ⟨w.2 (by omega), (show Post (gx L X) W σ P ρ H (.ok (.fd true acc) st2) Q from hq) _ H2 k2 rs2.drop (.fdT e h0D rv rs2 nP)⟩
      · exact q.elim
theorem ee_dcompT (htn : L.tn = false) {ifs : List Expr} {scope : Scope} {own : List (Str × Nat)} {pos : Pos} (hu : X.A.units + 1 < cLine) (hc : X.calm = true) (hN : X.N.Nodup) (hi : EI L X W tg iter fi) (ok : BlkOk X.N X.env.scope scope own)
    (hg : ∀ (s : Shared) (H : Hp) (C : Addr) (cl : List (Str × Addr)) (fp : List Addr), PG (X.blk s H scope (compEnvC scope cl C X.env) fp) tg g) (ht : ∀ (s : Shared) (H : Hp) (C : Addr) (cl : List (Str × Addr)) (fp : List Addr), PTs (X.blk s H scope (compEnvC scope cl C X.env) fp) ifs (TTm (gx L X) W0 t))
    (hk : ∀ (s : Shared) (H : Hp) (C : Addr) (cl : List (Str × Addr)) (fp : List Addr), PE (X.blk s H scope (compEnvC scope cl C X.env) fp) kx (TEm (gx L X) W0 fk)) (he : ∀ (s : Shared) (H : Hp) (C : Addr) (cl : List (Str × Addr)) (fp : List Addr), PE (X.blk s H scope (compEnvC scope cl C X.env) fp) vx (TEm (gx L X) W0 fv))
    (hpat : EP1 X p g) (hv : ∀ i ∈ p.names, i ∈ own.map (·.2)) (hs : ∀ x, foldedSetIterable iter X.env x = pure x := by intro _; rfl) :
    EE L X W (.DictComp kx vx [⟨tg, iter, ifs, 0⟩] scope pos) (eDCompT fi p t fk fv (own.map (·.2))) :=
  PE.weak (pe_dcT hu hc hN hi ok hg ht hk he hs) fun σ H Q h => dcompT_tm htn hpat hv σ H Q h
end
end Eng

namespace Eng
open PySem PySem.Spec PyProof.Rows L2
/-! ### the order of things of one shape -/
mutual
theorem shp_two : ∀ {a b c : Val}, shp a b = true → shp a c = true → shp b c = true
  | .int _, b, c, h, h' => by
    cases b <;> simp [shp] at h
    cases c <;> simp [shp] at h'
    simp [shp]
  | .str _, b, c, h, h' => by
    cases b <;> simp [shp] at h
    cases c <;> simp [shp] at h'
    simp [shp]
  | .tup xs, b, c, h, h' => by
    cases b <;> simp [shp] at h
    cases c <;> simp [shp] at h'
    simp only [shp]
    exact shps_two h h'
  | .non, _, _, h, _ => by simp [shp] at h
  | .bl _, _, _, h, _ => by simp [shp] at h
  | .lst _, _, _, h, _ => by simp [shp] at h
  | .dic _ _, _, _, h, _ => by simp [shp] at h
  | .glb _, _, _, h, _ => by simp [shp] at h
  | .ty _, _, _, h, _ => by simp [shp] at h
  | .seq _, _, _, h, _ => by simp [shp] at h
  | .exn _ _, _, _, h, _ => by simp [shp] at h
  | .prs _, _, _, h, _ => by simp [shp] at h
theorem shps_two : ∀ {a b c : List Val}, shps a b = true → shps a c = true → shps b c = true
  | [], b, c, h, h' => by
    cases b <;> simp [shps] at h
    cases c <;> simp [shps] at h'
    simp [shps]
  | x :: xs, b, c, h, h' => by
    cases b <;> simp [shps] at h
    cases c <;> simp [shps] at h'
    simp only [shps, Bool.and_eq_true]
    exact ⟨shp_two h.1 h'.1, shps_two h.2 h'.2⟩
end
mutual
theorem eqB_shp : ∀ {a b : Val}, shp a b = true → (eqB a b = true ↔ a = b)
  | .int _, b, h => by
    cases b <;> simp [shp] at h
    simp [eqB]
  | .str _, b, h => by
    cases b <;> simp [shp] at h
    simp [eqB]
  | .tup xs, b, h => by
    cases b <;> simp [shp] at h
    simp only [eqB, Val.tup.injEq]
    exact eqBs_shp h
  | .non, _, h => by simp [shp] at h
  | .bl _, _, h => by simp [shp] at h
  | .lst _, _, h => by simp [shp] at h
  | .dic _ _, _, h => by simp [shp] at h
  | .glb _, _, h => by simp [shp] at h
  | .ty _, _, h => by simp [shp] at h
  | .seq _, _, h => by simp [shp] at h
  | .exn _ _, _, h => by simp [shp] at h
  | .prs _, _, h => by simp [shp] at h
theorem eqBs_shp : ∀ {a b : List Val}, shps a b = true → (eqBs a b = true ↔ a = b)
  | [], b, h => by
    cases b <;> simp [shps] at h
    simp [eqBs]
  | x :: xs, b, h => by
    cases b <;> simp [shps] at h
    simp only [eqBs, Bool.and_eq_true, List.cons.injEq]
    rw [eqB_shp h.1, eqBs_shp h.2]
end
theorem shp_ref {a b : Val} (h : shp a b = true) : shp b b = true := shp_two h h
mutual
theorem shp_sym : ∀ {a b : Val}, shp a b = true → shp b a = true
  | .int _, b, h => by cases b <;> simp [shp] at h ⊢
  | .str _, b, h => by cases b <;> simp [shp] at h ⊢
  | .tup xs, b, h => by
    cases b <;> simp [shp] at h ⊢
    exact shps_sym h
  | .non, _, h => by simp [shp] at h
  | .bl _, _, h => by simp [shp] at h
  | .lst _, _, h => by simp [shp] at h
  | .dic _ _, _, h => by simp [shp] at h
  | .glb _, _, h => by simp [shp] at h
  | .ty _, _, h => by simp [shp] at h
  | .seq _, _, h => by simp [shp] at h
  | .exn _ _, _, h => by simp [shp] at h
  | .prs _, _, h => by simp [shp] at h
theorem shps_sym : ∀ {a b : List Val}, shps a b = true → shps b a = true
  | [], b, h => by cases b <;> simp [shps] at h ⊢
  | x :: xs, b, h => by
    cases b <;> simp [shps] at h ⊢
    exact ⟨shp_sym h.1, shps_sym h.2⟩
end
mutual
theorem ltV_asym : ∀ {a b : Val}, shp a b = true → ltV a b = true → ltV b a = false
  | .int i, b, h, q => by
    cases b <;> simp [shp] at h
    simp [ltV] at q ⊢
    omega
  | .str s, b, h, q => by
    cases b <;> simp [shp] at h
    simp only [ltV, decide_eq_true_eq, decide_eq_false_iff_not] at q ⊢
    exact List.lt_asymm q
  | .tup xs, b, h, q => by
    cases b <;> simp [shp] at h
    simp only [ltV] at q ⊢
    exact ltVs_asym h q
  | .non, _, h, _ => by simp [shp] at h
  | .bl _, _, h, _ => by simp [shp] at h
  | .lst _, _, h, _ => by simp [shp] at h
  | .dic _ _, _, h, _ => by simp [shp] at h
  | .glb _, _, h, _ => by simp [shp] at h
  | .ty _, _, h, _ => by simp [shp] at h
  | .seq _, _, h, _ => by simp [shp] at h
  | .exn _ _, _, h, _ => by simp [shp] at h
  | .prs _, _, h, _ => by simp [shp] at h
theorem ltVs_asym : ∀ {a b : List Val}, shps a b = true → ltVs a b = true → ltVs b a = false
  | [], b, h, q => by
    cases b <;> simp [shps] at h
    simp [ltVs]
  | x :: xs, b, h, q => by
    cases b with
    | nil => simp [shps] at h
    | cons y ys =>
      simp only [shps, Bool.and_eq_true] at h
      simp only [ltVs] at q ⊢
      by_cases e : eqB x y = true
      · rw [if_pos e] at q
        have e' := (eqB_shp h.1).mp e
        subst e'
        rw [if_pos e]
        exact ltVs_asym h.2 q
      · rw [if_neg e] at q
        have e' : ¬ eqB y x = true := fun z => e ((eqB_shp h.1).mpr ((eqB_shp (shp_sym h.1)).mp z).symm)
        rw [if_neg e']
        exact ltV_asym h.1 q
end
mutual
theorem ltV_tot : ∀ {a b : Val}, shp a b = true → ltV a b = false → ltV b a = false → a = b
  | .int i, b, h, q, q' => by
    cases b <;> simp [shp] at h
    simp [ltV] at q q'
    rw [Int.le_antisymm q' q]
  | .str s, b, h, q, q' => by
    cases b <;> simp [shp] at h
    simp only [ltV, decide_eq_false_iff_not, List.not_lt] at q q'
    rw [List.le_antisymm q' q]
  | .tup xs, b, h, q, q' => by
    cases b <;> simp [shp] at h
    simp only [ltV] at q q'
    rw [ltVs_tot h q q']
  | .non, _, h, _, _ => by simp [shp] at h
  | .bl _, _, h, _, _ => by simp [shp] at h
  | .lst _, _, h, _, _ => by simp [shp] at h
  | .dic _ _, _, h, _, _ => by simp [shp] at h
  | .glb _, _, h, _, _ => by simp [shp] at h
  | .ty _, _, h, _, _ => by simp [shp] at h
  | .seq _, _, h, _, _ => by simp [shp] at h
  | .exn _ _, _, h, _, _ => by simp [shp] at h
  | .prs _, _, h, _, _ => by simp [shp] at h
theorem ltVs_tot : ∀ {a b : List Val}, shps a b = true → ltVs a b = false → ltVs b a = false → a = b
  | [], b, h, q, q' => by
    cases b <;> simp [shps] at h
    rfl
  | x :: xs, b, h, q, q' => by
    cases b with
    | nil => simp [shps] at h
    | cons y ys =>
      simp only [shps, Bool.and_eq_true] at h
      simp only [ltVs] at q q'
      by_cases e : eqB x y = true
      · rw [if_pos e] at q
        have e' := (eqB_shp h.1).mp e
        subst e'
        rw [if_pos e] at q'
        rw [ltVs_tot h.2 q q']
      · rw [if_neg e] at q
        have e' : ¬ eqB y x = true := fun z => e ((eqB_shp h.1).mpr ((eqB_shp (shp_sym h.1)).mp z).symm)
        rw [if_neg e'] at q'
        exact absurd ((eqB_shp h.1).mpr (ltV_tot h.1 q q')) e
end
mutual
theorem ltV_tr : ∀ {a b c : Val}, shp a b = true → shp b c = true → ltV a b = true → ltV b c = true → ltV a c = true
  | .int i, b, c, h, h', q, q' => by
    cases b <;> simp [shp] at h
    cases c <;> simp [shp] at h'
    simp [ltV] at q q' ⊢
    omega
  | .str s, b, c, h, h', q, q' => by
    cases b <;> simp [shp] at h
    cases c <;> simp [shp] at h'
    simp only [ltV, decide_eq_true_eq] at q q' ⊢
    exact List.lt_trans q q'
  | .tup xs, b, c, h, h', q, q' => by
    cases b <;> simp [shp] at h
    cases c <;> simp [shp] at h'
    simp only [ltV] at q q' ⊢
    exact ltVs_tr h h' q q'
  | .non, _, _, h, _, _, _ => by simp [shp] at h
  | .bl _, _, _, h, _, _, _ => by simp [shp] at h
  | .lst _, _, _, h, _, _, _ => by simp [shp] at h
  | .dic _ _, _, _, h, _, _, _ => by simp [shp] at h
  | .glb _, _, _, h, _, _, _ => by simp [shp] at h
  | .ty _, _, _, h, _, _, _ => by simp [shp] at h
  | .seq _, _, _, h, _, _, _ => by simp [shp] at h
  | .exn _ _, _, _, h, _, _, _ => by simp [shp] at h
  | .prs _, _, _, h, _, _, _ => by simp [shp] at h
theorem ltVs_tr : ∀ {a b c : List Val}, shps a b = true → shps b c = true → ltVs a b = true → ltVs b c = true → ltVs a c = true
  | [], b, c, h, h', q, q' => by
    cases b <;> simp [shps] at h
    simp [ltVs] at q
  | x :: xs, b, c, h, h', q, q' => by
    cases b with
    | nil => simp [shps] at h
    | cons y ys =>
      cases c with
      | nil => simp [shps] at h'
      | cons z zs =>
        simp only [shps, Bool.and_eq_true] at h h'
        simp only [ltVs] at q q' ⊢
        have hxz : shp x z = true := shp_two (shp_sym h.1) h'.1
        by_cases e : eqB x y = true
        · rw [if_pos e] at q
          have e' := (eqB_shp h.1).mp e
          subst e'
          by_cases e2 : eqB x z = true
          · rw [if_pos e2] at q' ⊢
            exact ltVs_tr h.2 h'.2 q q'
          · rw [if_neg e2] at q' ⊢
            exact q'
        · rw [if_neg e] at q
          by_cases e2 : eqB y z = true
          · have e' := (eqB_shp h'.1).mp e2
            subst e'
            rw [if_neg e]
            exact q
          · rw [if_neg e2] at q'
            have q2 := ltV_tr h.1 h'.1 q q'
            by_cases e3 : eqB x z = true
            · have e' := (eqB_shp hxz).mp e3
              subst e'
              rw [ltV_asym h.1 q] at q'
              cases q'
            · rw [if_neg e3]
              exact q2
end
theorem ltV_neg {x y z : Val} (hxy : shp x y = true) (hyz : shp y z = true) (h1 : ltV y x = false) (h2 : ltV z y = false) : ltV z x = false := by
  have hxz : shp x z = true := shp_two (shp_sym hxy) hyz
  cases h : ltV z x with
  | false => rfl
  | true =>
    exfalso
    cases h3 : ltV x y with
    | false => have := ltV_tot hxy h3 h1; subst this; rw [h2] at h; cases h
    | true =>
      have := ltV_tr (shp_sym hxz) hxy h h3
      rw [h2] at this; cases this
/-- of one shape with x0 -/
theorem insV_pair {x0 : Val} (a : Val) (ha : shp x0 a = true) : ∀ xs : List Val, (∀ x ∈ xs, shp x0 x = true) → xs.Pairwise (fun a b => ltV b a = false) → (insL leV a xs).Pairwise fun a b => ltV b a = false
  | [], _, _ => by simp [insL]
  | b :: r, hs, h => by
    rw [List.pairwise_cons] at h
    have hb := hs b List.mem_cons_self
    unfold insL
    split
    · rename_i q
      have q' : ltV b a = false := by simpa [leV] using q
      refine List.pairwise_cons.mpr ⟨fun c hc => ?_, List.pairwise_cons.mpr h⟩
      rcases List.mem_cons.mp hc with rfl | hc
      · exact q'
      · exact ltV_neg (shp_two ha hb) (shp_two hb (hs c (List.mem_cons_of_mem _ hc))) q' (h.1 c hc)
    · rename_i q
      have q' : ltV b a = true := by simpa [leV] using q
      refine List.pairwise_cons.mpr ⟨fun c hc => ?_, insV_pair a ha r (fun x hx => hs x (List.mem_cons_of_mem _ hx)) h.2⟩
      rcases List.mem_cons.mp ((insL_perm leV a r).mem_iff.mp hc) with rfl | hc
      · exact ltV_asym (shp_two hb ha) q'
      · exact h.1 c hc
theorem sortV_pair {x0 : Val} : ∀ xs : List Val, (∀ x ∈ xs, shp x0 x = true) → (sortV xs).Pairwise fun a b => ltV b a = false
  | [], _ => .nil
  | a :: r, hs => insV_pair a (hs a List.mem_cons_self) _ (fun x hx => hs x (List.mem_cons_of_mem _ ((isort_perm leV r).mem_iff.mp hx))) (sortV_pair r fun x hx => hs x (List.mem_cons_of_mem _ hx))
theorem sortV_perm (xs : List Val) : (sortV xs).Perm xs := isort_perm leV xs
theorem sortV_uniq {x0 : Val} {xs ys : List Val} (hs : ∀ x ∈ xs, shp x0 x = true) (hp : ys.Perm xs) (h : ys.Pairwise fun a b => ltV b a = false) : ys = sortV xs :=
  List.Perm.eq_of_pairwise (fun a b ha hb h h' => ltV_tot (shp_two (hs a (hp.mem_iff.mp ha)) (hs b ((sortV_perm xs).mem_iff.mp hb))) h' h) h (sortV_pair xs hs) (hp.trans (sortV_perm xs).symm)
end Eng

set_option maxHeartbeats 1000000
namespace Eng
open PySem PySem.Spec PyProof.Rows L2
/-! ### the order, by the machine -/
mutual
theorem shp_lay : ∀ {x : Val} {n : Nat}, okD x n = true → shp x x = true → (toPy x).depth ≤ n
  | .int _, n, _, _ => by simp [toPy, PyData.depth]
  | .str _, n, _, _ => by simp [toPy, PyData.depth]
  | .tup xs, 0, h, _ => by simp [okD] at h
  | .tup xs, n + 1, h, h' => by
    simp only [okD] at h
    simp only [shp] at h'
    have b := shps_lay h h'
    simp only [toPy, PyData.depth]
    omega
  | .non, _, _, h => by simp [shp] at h
  | .bl _, _, _, h => by simp [shp] at h
  | .lst _, _, _, h => by simp [shp] at h
  | .dic _ _, _, _, h => by simp [shp] at h
  | .glb _, _, _, h => by simp [shp] at h
  | .ty _, _, _, h => by simp [shp] at h
  | .seq _, _, _, h => by simp [shp] at h
  | .exn _ _, _, _, h => by simp [shp] at h
  | .prs _, _, _, h => by simp [shp] at h
theorem shps_lay : ∀ {x : List Val} {n : Nat}, okDs x n = true → shps x x = true → PyData.depthAll (toPys x) ≤ n
  | [], n, _, _ => by simp [toPys, PyData.depthAll]
  | x :: xs, n, h, h' => by
    simp only [okDs, Bool.and_eq_true] at h
    simp only [shps, Bool.and_eq_true] at h'
    have b := shp_lay h.1 h'.1
    have d := shps_lay h.2 h'.2
    simp only [toPys, PyData.depthAll]
    omega
end
abbrev lay (x : Val) : Prop := (toPy x).canLay0 = true
abbrev lays (xs : List Val) : Prop := PyData.canLayAll0 (toPys xs) = true
theorem lay_tup {xs : List Val} (h : lay (.tup xs)) : lays xs := by simpa [lay, toPy, PyData.canLay0] using h
theorem lays_cons {x : Val} {xs : List Val} (h : lays (x :: xs)) : lay x ∧ lays xs := by simpa [lays, toPys, PyData.canLayAll0] using h
theorem lays_at : ∀ {xs : List Val} {j : Nat} {x : Val}, lays xs → xs[j]? = some x → lay x
  | [], _, _, _, h => by simp at h
  | x :: xs, 0, _, h, e => by
    simp at e
    subst e
    exact (lays_cons h).1
  | x :: xs, j + 1, _, h, e => lays_at (lays_cons h).2 (by simpa using e)
mutual
/-- kept where the tuples stand -/
theorem reads_keep {h h' : Heap} (k : ∀ b o, h.get? b = some o → o.cls = .type "tuple" → h'.get? b = some o) : ∀ {x : Val} {u : Value} {as : List Addr}, shp x x = true → Reads h u (toPy x) as → Reads h' u (toPy x) as
  | .int _, _, _, _, r => by cases r; exact .int _ _
  | .str _, _, _, _, r => by cases r; exact .str _ _
  | .tup xs, _, _, hs, r => by
    cases r with
    | tuple h1 h2 h3 h4 => exact .tuple (k _ _ h1 h2) h2 h3 (readsAll_keep k (by simpa [shp] using hs) h4)
  | .non, _, _, h, _ => by simp [shp] at h
  | .bl _, _, _, h, _ => by simp [shp] at h
  | .lst _, _, _, h, _ => by simp [shp] at h
  | .dic _ _, _, _, h, _ => by simp [shp] at h
  | .glb _, _, _, h, _ => by simp [shp] at h
  | .ty _, _, _, h, _ => by simp [shp] at h
  | .seq _, _, _, h, _ => by simp [shp] at h
  | .exn _ _, _, _, h, _ => by simp [shp] at h
  | .prs _, _, _, h, _ => by simp [shp] at h
theorem readsAll_keep {h h' : Heap} (k : ∀ b o, h.get? b = some o → o.cls = .type "tuple" → h'.get? b = some o) : ∀ {x : List Val} {u : List Value} {as : List Addr}, shps x x = true → ReadsAll h u (toPys x) as → ReadsAll h' u (toPys x) as
  | [], _, _, _, r => by cases r; exact .nil
  | x :: xs, _, _, hs, r => by
    simp only [shps, Bool.and_eq_true] at hs
    cases r with
    | cons a b => exact .cons (reads_keep k hs.1 a) (readsAll_keep k hs.2 b)
end
mutual
/-- what is read is one -/
theorem reads_one {h : Heap} : ∀ {x y : Val} {u : Value} {as bs : List Addr}, shp x y = true → Reads h u (toPy x) as → Reads h u (toPy y) bs → x = y
  | .int _, y, _, _, _, hs, r, q => by
    cases y <;> simp [shp] at hs
    simp only [toPy] at r q
    cases r; cases q; rfl
  | .str l, y, u, _, _, hs, r, q => by
    cases y <;> simp [shp] at hs
    rename_i l'
    simp only [toPy] at r q
    have key : ∀ {a b : Str} {as bs : List Addr}, Reads h u (.str a) as → Reads h u (.str b) bs → a = b := fun r q => by cases r; cases q; rfl
    rw [toS_inj.mp (key r q)]
  | .tup xs, y, _, _, _, hs, r, q => by
    cases y <;> simp [shp] at hs
    simp only [toPy] at r q
    cases r with
    | tuple h1 h2 h3 h4 =>
      cases q with
      | tuple g1 g2 g3 g4 =>
        cases h1.symm.trans g1
        cases h3.symm.trans g3
        rw [readsAll_one hs h4 g4]
  | .non, _, _, _, _, h, _, _ => by simp [shp] at h
  | .bl _, _, _, _, _, h, _, _ => by simp [shp] at h
  | .lst _, _, _, _, _, h, _, _ => by simp [shp] at h
  | .dic _ _, _, _, _, _, h, _, _ => by simp [shp] at h
  | .glb _, _, _, _, _, h, _, _ => by simp [shp] at h
  | .ty _, _, _, _, _, h, _, _ => by simp [shp] at h
  | .seq _, _, _, _, _, h, _, _ => by simp [shp] at h
  | .exn _ _, _, _, _, _, h, _, _ => by simp [shp] at h
  | .prs _, _, _, _, _, h, _, _ => by simp [shp] at h
theorem readsAll_one {h : Heap} : ∀ {x y : List Val} {u : List Value} {as bs : List Addr}, shps x y = true → ReadsAll h u (toPys x) as → ReadsAll h u (toPys y) bs → x = y
  | [], y, _, _, _, hs, _, _ => by cases y <;> simp [shps] at hs; rfl
  | x :: xs, y, _, _, _, hs, r, q => by
    cases y with
    | nil => simp [shps] at hs
    | cons y ys =>
      simp only [shps, Bool.and_eq_true] at hs
      simp only [toPys] at r q
      cases r with
      | cons a b =>
        cases q with
        | cons c d => rw [reads_one hs.1 a c, readsAll_one hs.2 b d]
end
theorem reads_eq {A : Around} {s : Shared} {x y : Val} {u v : Value} {as bs : List Addr} {n m : Nat} (hs : shp x y = true) (hx : okD x n = true) (hy : okD y m = true) (lx : lay x) (ly : lay y) (hn : A.units + n < cLine) (r : Reads s.heap u (toPy x) as) (q : Reads s.heap v (toPy y) bs) :
    SeqAt.EqAt A s u v (eqB x y) := by
  rw [← eqv_eqB x y n m hx hy]
  have a2 := shp_lay hx (shp_ref (shp_sym hs))
  exact SeqAt.eqAt_reads _ _ A s u v as bs r q lx ly (by have := Nat.min_le_left (toPy x).depth (toPy y).depth; omega)
theorem lexAt_lt {e r : Nat → Bool} : ∀ (xs ys : List Val) (i : Nat), shps xs ys = true → (∀ j x y, xs[j]? = some x → ys[j]? = some y → e (i + j) = eqB x y ∧ r (i + j) = ltV x y) → Ob.lexAt e r false i xs.length = ltVs xs ys
  | [], ys, i, h, _ => by cases ys <;> simp [shps] at h; rfl
  | x :: xs, ys, i, h, k => by
    cases ys with
    | nil => simp [shps] at h
    | cons y ys =>
      simp only [shps, Bool.and_eq_true] at h
      obtain ⟨k1, k2⟩ := k 0 x y rfl rfl
      rw [List.length_cons, Ob.lexAt_succ]
      simp only [ltVs]
      rw [Nat.add_zero] at k1 k2
      rw [k1, k2, lexAt_lt xs ys (i + 1) h.2 fun j a b h1 h2 => by
        have := k (j + 1) a b (by simpa using h1) (by simpa using h2)
        rwa [show i + (j + 1) = i + 1 + j by omega] at this]
theorem shps_len : ∀ {xs ys : List Val}, shps xs ys = true → xs.length = ys.length
  | [], ys, h => by cases ys <;> simp [shps] at h; rfl
  | x :: xs, ys, h => by
    cases ys with
    | nil => simp [shps] at h
    | cons y ys =>
      simp only [shps, Bool.and_eq_true] at h
      rw [List.length_cons, List.length_cons, shps_len h.2]
theorem shps_at : ∀ {xs ys : List Val} {j : Nat} {x y : Val}, shps xs ys = true → xs[j]? = some x → ys[j]? = some y → shp x y = true
  | [], _, _, _, _, _, h, _ => by simp at h
  | x :: xs, [], _, _, _, h, _, _ => by simp [shps] at h
  | x :: xs, y :: ys, 0, _, _, h, e, e' => by
    simp only [shps, Bool.and_eq_true] at h
    simp at e e'
    subst e e'
    exact h.1
  | x :: xs, y :: ys, j + 1, _, _, h, e, e' => by
    simp only [shps, Bool.and_eq_true] at h
    exact shps_at h.2 (by simpa using e) (by simpa using e')
theorem okDs_at : ∀ {xs : List Val} {n j : Nat} {x : Val}, okDs xs n = true → xs[j]? = some x → okD x n = true
  | [], _, _, _, _, h => by simp at h
  | x :: xs, n, 0, _, h, e => by
    simp only [okDs, Bool.and_eq_true] at h
    simp at e
    subst e
    exact h.1
  | x :: xs, n, j + 1, _, h, e => by
    simp only [okDs, Bool.and_eq_true] at h
    exact okDs_at h.2 (by simpa using e)
theorem readsAll_at {h : Heap} : ∀ {xs : List Val} {us : List Value} {as : List Addr} {j : Nat} {u : Value}, ReadsAll h us (toPys xs) as → us[j]? = some u → ∃ x bs, xs[j]? = some x ∧ Reads h u (toPy x) bs
  | [], _, _, _, _, r, e => by cases r; simp at e
  | x :: xs, _, _, 0, _, r, e => by
    cases r with
    | cons a b => simp at e; subst e; exact ⟨x, _, rfl, a⟩
  | x :: xs, _, _, j + 1, _, r, e => by
    cases r with
    | cons a b =>
      obtain ⟨y, bs, e1, q⟩ := readsAll_at b (by simpa using e)
      exact ⟨y, bs, by simpa using e1, q⟩
theorem readsAll_len {h : Heap} : ∀ {xs : List Val} {us : List Value} {as : List Addr}, ReadsAll h us (toPys xs) as → us.length = xs.length
  | [], _, _, r => by cases r; rfl
  | x :: xs, _, _, r => by
    cases r with
    | cons a b => rw [List.length_cons, List.length_cons, readsAll_len b]
theorem reads_lt : ∀ (n : Nat) {A : Around} {s : Shared} {x y : Val} {u v : Value} {as bs : List Addr}, shp x y = true → okD x n = true → okD y n = true → lay x → lay y → A.units + n < cLine → Reads s.heap u (toPy x) as → Reads s.heap v (toPy y) bs → Ob.RcOp .Lt A s u v (ltV x y)
  | n, A, s, .int _, y, _, _, _, _, hs, hx, hy, lx, ly, hn, r, q => by
    cases y <;> simp [shp] at hs
    simp only [toPy] at r q
    cases r; cases q
    exact Ob.RcOp.lt_int _ _ _ _
  | n, A, s, .str l, y, _, _, _, _, hs, hx, hy, lx, ly, hn, r, q => by
    cases y <;> simp [shp] at hs
    rename_i l'
    simp only [toPy] at r q
    cases r; cases q
    intro P w E Q h
    exact DT.rcLt_str A s _ _ _ _ P w E Q (by simpa [ltV] using h)
  | 0, _, _, .tup xs, _, _, _, _, _, _, hx, _, _, _, _, _, _ => by simp [okD] at hx
  | n + 1, A, s, .tup xs, y, _, _, _, _, hs, hx, hy, lx, ly, hn, r, q => by
    cases y <;> simp [shp] at hs
    rename_i ys
    simp only [okD] at hx hy
    simp only [toPy] at r q
    cases r with
    | @tuple a o vs m _ _ h1 h2 h3 h4 =>
      cases q with
      | @tuple b o' ws m' _ _ g1 g2 g3 g4 =>
        have l1 : vs.size = xs.length := by rw [← Array.length_toList]; exact readsAll_len h4
        have l2 : ws.size = ys.length := by rw [← Array.length_toList]; exact readsAll_len g4
        have l3 := shps_len hs
        have at_ : ∀ j (p1 : j < vs.size) (p2 : j < ws.size), ∃ x y as bs, xs[j]? = some x ∧ ys[j]? = some y ∧ Reads s.heap vs[j] (toPy x) as ∧ Reads s.heap ws[j] (toPy y) bs := fun j p1 p2 => by
          obtain ⟨x, as, e1, r1⟩ := readsAll_at (j := j) (u := vs[j]) h4 (by simp [p1])
          obtain ⟨y, bs, e2, r2⟩ := readsAll_at (j := j) (u := ws[j]) g4 (by simp [p2])
          exact ⟨x, y, as, bs, e1, e2, r1, r2⟩
        have R := Ob.RcOp.tuples_lt (A := A) (s := s) (e := fun j => eqB (xs.getD j .non) (ys.getD j .non)) (r := fun j => ltV (xs.getD j .non) (ys.getD j .non)) ⟨o, h1, h2, m, h3⟩ ⟨o', g1, g2, m', g3⟩ (by omega) (fun j p1 p2 => by
            obtain ⟨x, y, as, bs, e1, e2, r1, r2⟩ := at_ j p1 p2
            simp only [List.getD_eq_getElem?_getD, e1, e2, Option.getD_some]
            exact reads_eq (shps_at hs e1 e2) (okDs_at hx e1) (okDs_at hy e2) (lays_at (lay_tup lx) e1) (lays_at (lay_tup ly) e2) (by show A.units + 1 + n < cLine; omega) r1 r2) (fun j p1 p2 _ => by
            obtain ⟨x, y, as, bs, e1, e2, r1, r2⟩ := at_ j p1 p2
            simp only [List.getD_eq_getElem?_getD, e1, e2, Option.getD_some]
            exact reads_lt n (A := A.in1) (shps_at hs e1 e2) (okDs_at hx e1) (okDs_at hy e2) (lays_at (lay_tup lx) e1) (lays_at (lay_tup ly) e2) (by show A.units + 1 + n < cLine; omega) r1 r2)
        rw [l1, l2, ← l3, Nat.min_self, show decide (xs.length < xs.length) = false by simp, lexAt_lt xs ys 0 hs fun j x y e1 e2 => by simp [List.getD_eq_getElem?_getD, e1, e2]] at R
        simp only [ltV]
        exact R
  | _, _, _, .non, _, _, _, _, _, h, _, _, _, _, _, _, _ => by simp [shp] at h
  | _, _, _, .bl _, _, _, _, _, _, h, _, _, _, _, _, _, _ => by simp [shp] at h
  | _, _, _, .lst _, _, _, _, _, _, h, _, _, _, _, _, _, _ => by simp [shp] at h
  | _, _, _, .dic _ _, _, _, _, _, _, h, _, _, _, _, _, _, _ => by simp [shp] at h
  | _, _, _, .glb _, _, _, _, _, _, h, _, _, _, _, _, _, _ => by simp [shp] at h
  | _, _, _, .ty _, _, _, _, _, _, h, _, _, _, _, _, _, _ => by simp [shp] at h
  | _, _, _, .seq _, _, _, _, _, _, h, _, _, _, _, _, _, _ => by simp [shp] at h
  | _, _, _, .exn _ _, _, _, _, _, _, h, _, _, _, _, _, _, _ => by simp [shp] at h
  | _, _, _, .prs _, _, _, _, _, _, h, _, _, _, _, _, _, _ => by simp [shp] at h
/-- not a tuple -/
def leafV : Val → Bool
  | .tup _ => false
  | _ => true
section
variable {prog : Program} {w : World} {A : Around} {s : Shared}
theorem one_lt {b : Bool} {x y : Val} {u v : Value} {as bs : List Addr} {n : Nat} {Q : Bool → Shared → Prop} (hb : b = true → leafV x = true) (hs : shp x y = true) (hx : okD x n = true) (hy : okD y n = true) (lx : lay x) (ly : lay y) (hn : A.units + n < cLine)
    (r : Reads s.heap u (toPy x) as) (q : Reads s.heap v (toPy y) bs) (h : Q (ltV x y) s) : wpAny (model prog w) A (oneLt' b u v) Q (fun _ _ => False) s := by
  cases b with
  | false => exact PySem.W.kat_one u v (reads_lt n hs hx hy lx ly hn r q prog w _ _ h)
  | true =>
    have hb := hb rfl
    cases x <;> simp [shp] at hs
    · cases y <;> simp [shp] at hs
      simp only [toPy] at r q
      cases r; cases q
      exact oneLt_int h
    · cases y <;> simp [shp] at hs
      simp only [toPy] at r q
      cases r; cases q
      exact oneLt_str (by simpa [ltV] using h)
    · cases hb
theorem kat_vs {b : Bool} {n : Nat} (hn : A.units + n < cLine) : ∀ (xs ys : List Val) (us vs : List Value) (as bs : List Addr) (i : Nat), (b = true → i = 0 → ∀ x, xs[0]? = some x → leafV x = true) → shps xs ys = true → okDs xs n = true → okDs ys n = true → lays xs → lays ys →
    ReadsAll s.heap us (toPys xs) as → ReadsAll s.heap vs (toPys ys) bs → PySem.W.KatLex prog w A b false (fun r s' => s' = s ∧ r = ltVs xs ys) (us.zip vs) i s
  | [], ys, _, _, _, _, i, _, h, _, _, _, _, r, q => by
    cases ys <;> simp [shps] at h
    cases r; cases q
    exact PySem.W.kat_nil ⟨rfl, rfl⟩
  | x :: xs, ys, _, _, _, _, i, hb, h, hx, hy, lx, ly, r, q => by
    cases ys with
    | nil => simp [shps] at h
    | cons y ys =>
      simp only [shps, Bool.and_eq_true] at h
      simp only [okDs, Bool.and_eq_true] at hx hy
      obtain ⟨lx1, lx2⟩ := lays_cons lx
      obtain ⟨ly1, ly2⟩ := lays_cons ly
      simp only [toPys] at r q
      cases r with
      | @cons u us _ _ _ _ r1 r2 =>
        cases q with
        | @cons v vs _ _ _ _ q1 q2 =>
          show PySem.W.KatLex prog w A b false _ ((u, v) :: us.zip vs) i s
          refine PySem.W.kat_cons (reads_eq h.1 hx.1 hy.1 lx1 ly1 hn r1 q1 prog w _ _ (PySem.W.kat_go (fun e => PySem.W.kat_yes ?_) fun e => PySem.W.kat_no (one_lt (fun hb' => ?_) h.1 hx.1 hy.1 lx1 ly1 hn r1 q1 ⟨rfl, ?_⟩)))
          · have e2 : ltVs (x :: xs) (y :: ys) = ltVs xs ys := by simp only [ltVs]; rw [if_pos e]
            rw [e2]
            exact kat_vs hn xs ys us vs _ _ (i + 1) (fun _ z => by omega) h.2 hx.2 hy.2 lx2 ly2 r2 q2
          · simp only [Bool.and_eq_true, beq_iff_eq] at hb'
            exact hb hb'.1 hb'.2 x rfl
          · simp only [ltVs]; rw [if_neg (by simp [e])]
end
end Eng

set_option maxHeartbeats 1000000
namespace Eng
open PySem PySem.Spec PyProof.Rows L2
/-! ### sorted(a list of tuples) -/
def kT : Val → Value
  | .int _ => .type "int"
  | .str _ => .type "str"
  | _ => .type "tuple"
def fstV : Val → Val
  | .tup (x :: _) => x
  | _ => .non
def tup1 : Val → Bool
  | .tup (_ :: _) => true
  | _ => false
section
variable {M : Model} {s : Shared}
theorem kT_looks {x y : Val} {u : Value} {as : List Addr} (hs : shp x y = true) (r : Reads s.heap u (toPy y) as) : PySem.W.Looks M s.heap (typeOf u) (kT x) := by
  cases x <;> simp [shp] at hs
  · cases y <;> simp [shp] at hs
    simp only [toPy] at r
    cases r
    exact PySem.W.Looks.now
  · cases y <;> simp [shp] at hs
    simp only [toPy] at r
    cases r
    exact PySem.W.Looks.now
  · cases y <;> simp [shp] at hs
    simp only [toPy] at r
    cases r with
    | tuple h1 h2 h3 h4 =>
      show PySem.W.Looks M s.heap (typeOf (.ref _)) (.type "tuple")
      rw [← h2]
      exact (PySem.W.Looks.ld h1).andThen .now
theorem tup1_of {x0 x : Val} (h : tup1 x0 = true) (hs : shp x0 x = true) : ∃ y ys, x = .tup (y :: ys) ∧ shp (fstV x0) y = true := by
  cases x0 <;> simp [tup1] at h
  rename_i l
  cases l with
  | nil => simp at h
  | cons z zs =>
    cases x <;> simp [shp] at hs
    rename_i l'
    cases l' with
    | nil => simp [shps] at hs
    | cons y ys =>
      simp only [shps, Bool.and_eq_true] at hs
      exact ⟨y, ys, rfl, hs.1⟩
theorem kat_firstsV {x0 : Val} (h0 : tup1 x0 = true) : ∀ {xs : List Val} {us : List Value} {as : List Addr}, (∀ x ∈ xs, shp x0 x = true) → ReadsAll s.heap us (toPys xs) as →
    ∃ fs, PySem.W.KatTups s.heap us fs ∧ fs.length = us.length ∧ ∀ f ∈ fs, PySem.W.Looks M s.heap (typeOf f) (kT (fstV x0))
  | [], _, _, _, r => by cases r; exact ⟨[], .nil, rfl, fun _ h => by cases h⟩
  | x :: xs, _, _, hs, r => by
    cases r with
    | @cons u us _ _ _ _ r1 r2 =>
      obtain ⟨fs, f1, f2, f3⟩ := kat_firstsV h0 (fun x hx => hs x (List.mem_cons_of_mem _ hx)) r2
      obtain ⟨y, ys, rfl, hy⟩ := tup1_of h0 (hs x List.mem_cons_self)
      simp only [toPy, toPys] at r1
      cases r1 with
      | @tuple a o vs n _ _ h1 h2 h3 h4 =>
        generalize hz : vs.toList = zs at h4
        cases h4 with
        | @cons f _ _ _ _ _ q1 q2 =>
          refine ⟨f :: fs, .cons h1 h2 h3 ?_ f1, by simp [f2], fun g hg => ?_⟩
          · rw [← Array.getElem?_toList, hz]; rfl
          · rcases List.mem_cons.mp hg with rfl | hg
            · exact kT_looks hy q1
            · exact f3 g hg
end
/-- the thing that stands at a value -/
noncomputable def keyV (h : Heap) (xs : List Val) (x0 : Val) (u : Value) : Val :=
  open Classical in if e : ∃ x, x ∈ xs ∧ ∃ as, Reads h u (toPy x) as then Classical.choose e else x0
theorem keyV_shp {h : Heap} {xs : List Val} {x0 : Val} (h0 : shp x0 x0 = true) (hs : ∀ x ∈ xs, shp x0 x = true) (u : Value) : shp x0 (keyV h xs x0 u) = true := by
  unfold keyV
  split
  · rename_i e
    exact hs _ (Classical.choose_spec e).1
  · exact h0
theorem keyV_eq {h : Heap} {xs : List Val} {x0 x : Val} {u : Value} {as : List Addr} (hs : ∀ x ∈ xs, shp x0 x = true) (hx : x ∈ xs) (r : Reads h u (toPy x) as) : keyV h xs x0 u = x := by
  unfold keyV
  have e : ∃ x, x ∈ xs ∧ ∃ as, Reads h u (toPy x) as := ⟨x, hx, as, r⟩
  rw [dif_pos e]
  obtain ⟨h1, bs, h2⟩ := Classical.choose_spec e
  exact reads_one (shp_two (hs _ h1) (hs x hx)) h2 r
theorem readsAll_map {h : Heap} {x0 : Val} {ys : List Val} (hs : ∀ x ∈ ys, shp x0 x = true) : ∀ {xs : List Val} {us : List Value} {as : List Addr}, (∀ x ∈ xs, x ∈ ys) → ReadsAll h us (toPys xs) as → us.map (keyV h ys x0) = xs
  | [], _, _, _, r => by cases r; rfl
  | x :: xs, _, _, hx, r => by
    cases r with
    | cons a b => rw [List.map_cons, keyV_eq hs (hx x List.mem_cons_self) a, readsAll_map hs (fun x h => hx x (List.mem_cons_of_mem _ h)) b]
theorem readsAll_mem {h : Heap} : ∀ {xs : List Val} {us : List Value} {as : List Addr} {u : Value}, ReadsAll h us (toPys xs) as → u ∈ us → ∃ x ∈ xs, ∃ bs, Reads h u (toPy x) bs
  | [], _, _, _, r, hu => by cases r; cases hu
  | x :: xs, _, _, u, r, hu => by
    cases r with
    | cons a b =>
      rcases List.mem_cons.mp hu with rfl | hu
      · exact ⟨x, List.mem_cons_self, _, a⟩
      · obtain ⟨y, hy, bs, q⟩ := readsAll_mem b hu
        exact ⟨y, List.mem_cons_of_mem _ hy, bs, q⟩
theorem readsAll_mem2 {h h' : Heap} : ∀ {xs : List Val} {us : List Value} {as bs : List Addr} {u : Value}, ReadsAll h us (toPys xs) as → ReadsAll h' us (toPys xs) bs → u ∈ us → ∃ y ∈ xs, ∃ cs ds, Reads h u (toPy y) cs ∧ Reads h' u (toPy y) ds
  | [], _, _, _, _, r, _, hu => by cases r; cases hu
  | x :: xs, _, _, _, u, r, q, hu => by
    cases r with
    | cons a b =>
      cases q with
      | cons c d =>
        rcases List.mem_cons.mp hu with rfl | hu
        · exact ⟨x, List.mem_cons_self, _, _, a, c⟩
        · obtain ⟨y, hy, z⟩ := readsAll_mem2 b d hu
          exact ⟨y, List.mem_cons_of_mem _ hy, z⟩
theorem swoV {h : Heap} {xs : List Val} {x0 : Val} (h0 : shp x0 x0 = true) (hs : ∀ x ∈ xs, shp x0 x = true) : SrtO.Swo fun v u => ltV (keyV h xs x0 v) (keyV h xs x0 u) := by
  refine ⟨fun x y q => ltV_asym (shp_two (keyV_shp h0 hs x) (keyV_shp h0 hs y)) q, fun x y z h1 h2 => ltV_neg (shp_two (keyV_shp h0 hs x) (keyV_shp h0 hs y)) (shp_two (keyV_shp h0 hs y) (keyV_shp h0 hs z)) h1 h2⟩
structure SrtIn (xs : List Val) (x0 : Val) : Prop where
  t1 : tup1 x0 = true
  r0 : shp x0 x0 = true
  all : ∀ x ∈ xs, shp x0 x = true
  ok : okDs xs 31 = true
  len : xs.length ≤ 1000000
theorem srtOk_in {x0 : Val} {xs : List Val} (h : srtOk (x0 :: xs) = true) : SrtIn (x0 :: xs) x0 := by
  simp only [srtOk, oneShp, Bool.and_eq_true, decide_eq_true_eq] at h
  obtain ⟨⟨h1, h2, h3⟩, h4, h5⟩ := h
  refine ⟨by
    revert h1
    cases x0 with
    | tup l => cases l <;> simp [tup1]
    | _ => simp [tup1], h2, fun x hx => ?_, h4, h5⟩
  rcases List.mem_cons.mp hx with rfl | hx
  · exact h2
  · exact List.all_eq_true.mp h3 x hx
section
variable {prog : Program} {w : World} {A : Around} {s : Shared} {xs : List Val} {x0 : Val} {us : List Value} {as : List Addr}
theorem cmpV {h0 : Heap} (I : SrtIn xs x0) (hl : lays xs) (hu : A.units + 32 < cLine) (r : ReadsAll s.heap us (toPys xs) as) (hk : ∀ u ∈ us, ∀ x ∈ xs, ∀ bs, Reads s.heap u (toPy x) bs → keyV h0 xs x0 u = x) (b : Bool) (hb : b = true → leafV (fstV x0) = true) :
    SrtO.Cmp prog w A s (tuples' b) (fun p => p.1 ∈ us) (SrtO.lt2 fun v u => ltV (keyV h0 xs x0 v) (keyV h0 xs x0 u)) := by
  intro p q hp hq
  obtain ⟨x, hx, cs, rx⟩ := readsAll_mem r hp
  obtain ⟨y, hy, ds, ry⟩ := readsAll_mem r hq
  show wpAny (model prog w) A (keyLt' (tuples' b) p.1 q.1) (fun r s' => s' = s ∧ r = ltV (keyV h0 xs x0 p.1) (keyV h0 xs x0 q.1)) (fun _ _ => False) s
  rw [hk _ hp x hx cs rx, hk _ hq y hy ds ry]
  obtain ⟨i, hi⟩ := List.mem_iff_getElem?.mp hx
  obtain ⟨j, hj⟩ := List.mem_iff_getElem?.mp hy
  have ox := okDs_at I.ok hi
  have oy := okDs_at I.ok hj
  have lx := lays_at hl hi
  have ly := lays_at hl hj
  have hxy := shp_two (I.all x hx) (I.all y hy)
  obtain ⟨x1, xr, rfl, sx⟩ := tup1_of I.t1 (I.all x hx)
  obtain ⟨y1, yr, rfl, sy⟩ := tup1_of I.t1 (I.all y hy)
  simp only [shp] at hxy
  simp only [okD] at ox oy
  simp only [toPy] at rx ry
  obtain ⟨p1, p2⟩ := p
  obtain ⟨q1, q2⟩ := q
  simp only at rx ry ⊢
  cases rx with
  | @tuple a o vs n _ _ a1 a2 a3 a4 =>
    cases ry with
    | @tuple a' o' ws m _ _ b1 b2 b3 b4 =>
      have l1 : vs.size = (x1 :: xr).length := by rw [← Array.length_toList]; exact readsAll_len a4
      have l2 : ws.size = (y1 :: yr).length := by rw [← Array.length_toList]; exact readsAll_len b4
      refine PySem.W.kat_lt a1 a3 b1 b3 ?_
      rw [l1, l2, shps_len hxy, show decide ((y1 :: yr).length < (y1 :: yr).length) = false by simp]
      simp only [ltV]
      refine kat_vs (n := 30) (by omega) _ _ _ _ _ _ 0 (fun hb' _ z e => ?_) hxy ox oy (lay_tup lx) (lay_tup ly) a4 b4
      have : z = x1 := by simpa using e.symm
      subst this
      have := hb hb'
      revert this sx
      generalize fstV x0 = f
      cases f <;> cases z <;> simp [shp, leafV]
theorem sortableV {h0 : Heap} {a : Addr} (I : SrtIn xs x0) (hl : lays xs) (hu : A.units + 32 < cLine) (h2 : 2 ≤ us.length) (r : ReadsAll s.heap us (toPys xs) as) (ra : ReadsAll h0 us (toPys xs) as) (ha : ∀ o, s.heap.get? a = some o → o.cls ≠ .type "tuple") :
    SrtO.SortableO prog w A s a us fun v u => ltV (keyV h0 xs x0 v) (keyV h0 xs x0 u) := by
  intro h' keep
  have hsx : ∀ {xs : List Val}, (∀ x ∈ xs, shp x x = true) → shps xs xs = true := by
    intro xs h
    induction xs with
    | nil => rfl
    | cons x xs ih =>
      simp only [shps, Bool.and_eq_true]
      exact ⟨h x List.mem_cons_self, ih fun y hy => h y (List.mem_cons_of_mem _ hy)⟩
  have r' : ReadsAll h' us (toPys xs) as := readsAll_keep (fun b o e c => keep b o (fun z => by subst z; exact ha o e c) e) (hsx fun x hx => shp_ref (I.all x hx)) r
  obtain ⟨fs, f1, f2, f3⟩ := kat_firstsV (M := model prog w) (s := { s with heap := h' }) I.t1 I.all r'
  refine ⟨tuples' (kT (fstV x0) != Value.type "tuple"), fun Q E hq => ?_, cmpV (s := { s with heap := h' }) I hl hu r' (fun u hu x hx bs q => ?_) _ fun hb => ?_⟩
  · refine PySem.W.kat_kind f1 (by omega) f3 ?_ hq
    cases fstV x0 <;> (try rfl)
  · -- one and the same at both heaps
    obtain ⟨y, hy, cs, ds, q2, q3⟩ := readsAll_mem2 ra r' hu
    have : y = x := reads_one (shp_two (I.all y hy) (I.all x hx)) q3 q
    subst this
    exact keyV_eq I.all hy q2
  · revert hb
    cases fstV x0 <;> simp [kT, leafV]
end
end Eng

set_option maxHeartbeats 1000000
namespace Eng
open PySem PySem.Spec PyProof.Rows L2
/-- what a sort needs, and what it gives -/
theorem sort_core {prog : Program} {w : World} {A : Around} {h0 : Heap} {xs : List Val} {us : List Value} {as : List Addr} (hok : srtOk xs = true) (hl : lays xs) (hu : A.units + 32 < cLine) (ra : ReadsAll h0 us (toPys xs) as) :
    ∃ (k : Value → Val) (ltv : Value → Value → Bool), us.map k = xs ∧ SrtO.Swo ltv ∧
      (2 ≤ us.length → ∀ (s : Shared) (a : Addr), (∀ b o, h0.get? b = some o → o.cls = .type "tuple" → s.heap.get? b = some o) → (∀ o, s.heap.get? a = some o → o.cls ≠ .type "tuple") → SrtO.SortableO prog w A s a us ltv) ∧
      ∀ out : List Value, SrtO.Srtd ltv out → SrtO.Stb ltv out us → out.Perm us ∧ out.map k = sortV xs := by
  cases xs with
  | nil =>
    cases ra
    refine ⟨fun _ => .non, SrtO.ltIv, rfl, SrtO.swo_int, fun h => absurd h (by simp), fun out h1 h2 => ⟨h2.perm, ?_⟩⟩
    have := h2.perm.length_eq
    have : out = [] := List.length_eq_zero_iff.mp this
    subst this
    rfl
  | cons x0 xs =>
    have I := srtOk_in hok
    have hm := readsAll_map I.all (fun x h => h) ra
    have hsx : ∀ {xs : List Val}, (∀ x ∈ xs, shp x x = true) → shps xs xs = true := by
      intro xs h
      induction xs with
      | nil => rfl
      | cons x xs ih =>
        simp only [shps, Bool.and_eq_true]
        exact ⟨h x List.mem_cons_self, ih fun y hy => h y (List.mem_cons_of_mem _ hy)⟩
    refine ⟨keyV h0 (x0 :: xs) x0, _, hm, swoV (h := h0) I.r0 I.all, fun h2 s a hk ha => sortableV I hl hu h2 (readsAll_keep hk (hsx fun x hx => shp_ref (I.all x hx)) ra) ra ha, fun out h1 h2 => ⟨h2.perm, ?_⟩⟩
    refine sortV_uniq I.all ?_ ?_
    · have := h2.perm.map (keyV h0 (x0 :: xs) x0)
      rwa [hm] at this
    · rw [List.pairwise_map]
      exact h1
theorem repVs_zip {G : Gc} {H : Hp} {T : Ts} {k : Value → Val} : ∀ {xs : List Val} {ws : List V} {us : List Value}, RepVs G H T xs ws → Vals ws us → us.map k = xs → ∀ u ∈ us, ∃ v, RepV G H T (k u) v ∧ RelV v u
  | _, _, _, .nil, rv, _, u, h => by cases rv; cases h
  | x :: xs, v :: ws, _, .cons r t, rv, e, u, h => by
    cases rv with
    | cons a b =>
      rw [List.map_cons] at e
      obtain ⟨e1, e2⟩ := List.cons.inj e
      rcases List.mem_cons.mp h with rfl | h
      · exact ⟨v, by rw [e1]; exact r, a⟩
      · exact repVs_zip t b e2 u h
theorem repVs_of {G : Gc} {H : Hp} {T : Ts} {k : Value → Val} : ∀ {out : List Value}, (∀ u ∈ out, ∃ a, u = .ref a ∧ RepV G H T (k u) (.ref a)) → RepVs G H T (out.map k) (out.map backV)
  | [], _ => .nil
  | u :: out, h => by
    obtain ⟨a, rfl, r⟩ := h u List.mem_cons_self
    exact .cons r (repVs_of fun v hv => h v (List.mem_cons_of_mem _ hv))
theorem rep_ref {G : Gc} {H : Hp} {T : Ts} {x : Val} {v : V} {u : Value} {x0 : Val} (h0 : tup1 x0 = true) (hs : shp x0 x = true) (r : RepV G H T x v) (rv : RelV v u) : ∃ a, u = .ref a ∧ RepV G H T x (.ref a) := by
  obtain ⟨y, ys, rfl, _⟩ := tup1_of h0 hs
  cases r with
  | @tup _ vs a e q => exact ⟨a, rv, .tup e q⟩
def rSortV (G : Gc) : List V → Hp → VK → Prop := fun vs H Q => ∃ (T : Ts) (a : Addr) (ws : List V) (xs : List Val), vs = [V.ref a] ∧ SqL G.K H a ws ∧ RepVs G H T xs ws ∧ srtOk xs = true ∧
  ∀ ys p, RepVs G H T (sortV xs) ys → H p = none → Q (.ref p) (upd H p (.lst ys))
section
variable {X : Cx} {L : Lx}
theorem cr_sortedV (hu : X.A.units + 64 < cLine) : CallR X (.builtin "sorted") (rSortV (gx L X)) := by
  intro pins s σ H vs us Q I r h
  obtain ⟨T, a, ws, xs, rfl, hs, rx, hok, q⟩ := h
  obtain ⟨its, rv, hl, hz⟩ := I.list hs
  rw [Vals.ref1 r]
  have hokd : okDs xs 31 = true := by
    unfold srtOk at hok
    simp only [Bool.and_eq_true] at hok
    exact hok.2.1
  obtain ⟨hd, hlay, _⟩ := rx.dp hokd
  obtain ⟨as, ra⟩ := Dp.readsAll I _ _ _ hd rv
  obtain ⟨k, ltv, hk, O, hS, hout⟩ := sort_core (prog := X.prog) (w := X.w) (A := X.A.in1.in1) hok hlay (by show X.A.units + 1 + 1 + 32 < cLine; omega) ra
  refine SrtO.sorted_ord O hl.isList (by rw [← rv.length]; exact hz) (fun h2 h₁ a' ha kk => hS h2 _ _ (fun b o e _ => (kk b o e).2) fun o e => ?_) fun out h1 h2 => ?_
  · have e' : some o = some (seqObj "list" its.toArray 0) := e.symm.trans ha
    cases e'
    intro c
    exact absurd (Value.type.inj c) (by decide)
  · obtain ⟨p1, p2⟩ := hout out h1 h2
    have hr : ∀ u ∈ out, ∃ a, u = .ref a ∧ RepV (gx L X) H T (k u) (.ref a) := fun u m => by
      have m' := p1.mem_iff.mp m
      obtain ⟨v, r1, r2⟩ := repVs_zip rx rv hk u m'
      have mx : k u ∈ xs := by rw [← hk]; exact List.mem_map.mpr ⟨u, m', rfl⟩
      cases xs with
      | nil => cases mx
      | cons x0 xs =>
        have J := srtOk_in hok
        exact rep_ref J.t1 (J.all _ mx) r1 r2
    have ry := repVs_of hr
    rw [p2] at ry
    obtain ⟨ep, he'⟩ := PyProof.Rows.sortedAll_at s.heap its out.toArray
    have hlen : (out.map backV).length ≤ sizeLine := by
      rw [List.length_map, p1.length_eq, ← rv.length]
      exact hz
    exact ⟨.ref _, upd H (s.heap.objs.size + 1) (.lst (out.map backV)), I.laid (t' := s.toks) (fun _ _ => PyProof.Rows.sortedAll_old) (Nat.le_succ _) ⟨hlen, out, ep, vals_back fun u m => by
      obtain ⟨a, e, _⟩ := hr u m
      exact ⟨a, e⟩, he'⟩, rfl, q _ _ ry (I.hok.fresh (Nat.le_succ _))⟩
end
end Eng

set_option maxHeartbeats 1000000
namespace Eng
open PySem PySem.Spec PyProof.Rows L2
/-! ### sorted(d), sorted(d.items()), the keys tuples -/
/-- the entries of a dict whose keys are tuples -/
structure EntT (H : Hp) (ks : List (List Key × V)) (es : List DictEntry) : Prop where
  len : es.length = ks.length
  get : ∀ (i : Nat) (k : List Key) (v : V), ks[i]? = some (k, v) → ∃ (en : DictEntry) (q : Addr), es[i]? = some en ∧ en.key = .ref q ∧ H q = some (.tup (k.map kV)) ∧ L2.RelV v en.val
theorem rd_raw {X : Cx} {pins : List (Addr × Obj)} {σ : L2.St} {H : Hp} {s : Shared} {d : Addr} {kvs : List (List Key × V)} (I : Inv X pins σ H s) (h : Rd H d (.dT kvs)) :
    (d == sysModules) = false ∧ kvs.length ≤ sizeLine ∧ ∃ (es : Array DictEntry) (ep : Nat), DT.Raw s.heap d es ep ∧ EntT H kvs es.toList := by
  obtain ⟨hz, hs, xs, pr, o', es, ep, ho, hx, hdt, he, _⟩ := h.ok I.hok
  have l1 : es.toList.length = xs.length := by rw [he, List.length_map]
  have l2 : kvs.length = xs.length := Paired.length pr
  refine ⟨hs, hz, es, ep, ⟨o', ho, hx, hdt⟩, by omega, fun i k v e => ?_⟩
  obtain ⟨b, hb, e1, e2, e3⟩ := paired_at pr e
  exact ⟨_, b.2.1, by rw [he, List.getElem?_map, hb]; rfl, rfl, e2, e3⟩
theorem EntT.tail {H : Hp} {p : List Key × V} {ks : List (List Key × V)} {en : DictEntry} {es : List DictEntry} (x : EntT H (p :: ks) (en :: es)) : EntT H ks es :=
  ⟨by simpa using x.len, fun i k v e => by simpa using x.get (i + 1) k v (by simpa using e)⟩
/-- its keys -/
theorem EntT.keys {G : Gc} {H : Hp} {T : Ts} : ∀ {kvs : List (Val × Val)} {ks : List (List Key × V)} {es : List DictEntry}, RepT G H T kvs ks → EntT H ks es → ∃ qs : List V, RepVs G H T (kvs.map (·.1)) qs ∧ Vals qs (es.map (·.key))
  | _, _, es, .nil _, x => by
    have := x.len
    cases es with
    | nil => exact ⟨[], .nil, .nil⟩
    | cons _ _ => simp at this
  | _, _, es, .cons hk rx ry t, x => by
    cases es with
    | nil => have := x.len; simp at this
    | cons en es =>
      obtain ⟨en', q, e1, e2, e3, _⟩ := x.get 0 _ _ rfl
      simp at e1
      subst e1
      obtain ⟨qs, r1, r2⟩ := EntT.keys t x.tail
      exact ⟨.ref q :: qs, .cons (.tup (TupH.of e3 t.off) rx) r1, .cons (show L2.RelV (.ref q) en.key by rw [e2]; rfl) r2⟩
theorem EntT.vals {G : Gc} {H : Hp} {T : Ts} : ∀ {kvs : List (Val × Val)} {ks : List (List Key × V)} {es : List DictEntry}, RepT G H T kvs ks → EntT H ks es → RepVs G H T (kvs.map (·.2)) (ks.map (·.2)) ∧ Vals (ks.map (·.2)) (es.map (·.val))
  | _, _, es, .nil _, x => by
    have := x.len
    cases es with
    | nil => exact ⟨.nil, .nil⟩
    | cons _ _ => simp at this
  | _, _, es, .cons hk rx ry t, x => by
    cases es with
    | nil => have := x.len; simp at this
    | cons en es =>
      obtain ⟨en', q, e1, e2, e3, e4⟩ := x.get 0 _ _ rfl
      simp at e1
      subst e1
      obtain ⟨r1, r2⟩ := EntT.vals t x.tail
      exact ⟨.cons ry r1, .cons e4 r2⟩
def rSortKT (G : Gc) : List V → Hp → VK → Prop := fun vs H Q => ∃ (T : Ts) (a : Addr) (kvs : List (Val × Val)) (ks : List (List Key × V)), vs = [V.ref a] ∧ Rd H a (.dT ks) ∧ RepT G H T kvs ks ∧ srtOk (kvs.map (·.1)) = true ∧
  ∀ ys p, RepVs G H T (sortV (kvs.map (·.1))) ys → H p = none → Q (.ref p) (upd H p (.lst ys))
theorem srtOk_okD {xs : List Val} (h : srtOk xs = true) : okDs xs 31 = true := by
  unfold srtOk at h
  simp only [Bool.and_eq_true] at h
  exact h.2.1
section
variable {X : Cx} {L : Lx}
theorem cr_sortedKT (hc : X.calm = true) (hu : X.A.units + 64 < cLine) : CallR X (.builtin "sorted") (rSortKT (gx L X)) := by
  intro pins s σ H vs us Q I r h
  obtain ⟨T, a, kvs, ks, rfl, ha, rx, hok, q⟩ := h
  rw [Vals.ref1 r]
  obtain ⟨lo, hz, es, ep, raw, ent⟩ := rd_raw I ha
  obtain ⟨qs, r1, r2⟩ := ent.keys rx
  obtain ⟨hd, hlay, _⟩ := r1.dp (srtOk_okD hok)
  obtain ⟨as, ra⟩ := Dp.readsAll I _ _ _ hd r2
  obtain ⟨k, ltv, hk, O, hS, hout⟩ := sort_core (prog := X.prog) (w := X.w) (A := X.A.in1.in1) hok hlay (by show X.A.units + 1 + 1 + 32 < cLine; omega) ra
  have hes : es.size = ks.length := by rw [← Array.length_toList]; exact ent.len
  refine Calls.call_function_entry PyProof.Rows.kind_sorted PyProof.Rows.plain_sorted PyProof.Rows.entry_sorted (PyProof.Rows.args_sorted1 _) ?_
  unfold Builtin.«sorted»
  refine wpAny_bind (m := checkCount "sorted" 1 1 _) (wpAny_pure ?_)
  refine wpAny_bind (PySem.W.kdu_collect (A := X.A.in1) (KdlSrc.rawDict (es := es) (ep := ep) lo) (I.ok.hd hc) raw (by omega) fun h' tk acc hkp hacc => ?_)
  have hal : acc.toList = es.toList.map (·.key) := by
    refine List.ext_getElem? fun j => ?_
    rw [List.getElem?_map, Array.getElem?_toList, Array.getElem?_toList]
    cases e : acc[j]? with
    | none =>
      have : es.size ≤ j := by
        rw [Array.getElem?_eq_none_iff] at e
        rw [← hacc.1]; exact e
      rw [Array.getElem?_eq_none this]
      rfl
    | some v =>
      obtain ⟨hj, ev⟩ := hacc.2 j v e
      rw [Array.getElem?_eq_getElem hj, ev]
      rfl
  have hlen0 : acc.toList.length = ks.length := by rw [hal, List.length_map, ent.len]
  have I1 : Inv X pins σ H { s with heap := h', toks := tk } := I.kept hkp
  refine wpAny_bind (wpAny_newList ?_ (by rw [hlen0]; exact hz))
  have hoL : (h'.push (seqObj "list" acc.toList.toArray 0)).get? h'.objs.size = some (seqObj "list" acc.toList.toArray 0) := Heap.get?_push_size _ rfl
  show wpAny _ _ _ _ _ { s with heap := h'.push (seqObj "list" acc.toList.toArray 0), toks := tk }
  rw [hal] at hlen0 hoL ⊢
  refine wpAny_bind (wpAny_holding (wpAny_call_entry PyProof.Rows.slot_list_sort ⟨_, hoL, rfl⟩ PyProof.Rows.entry_list_sort
    (SrtO.list_sort_ord (s := { s with heap := h'.push (seqObj "list" (es.toList.map (·.key)).toArray 0), toks := tk }) O hoL (by rw [hlen0]; exact hz) (fun h2 => hS h2 _ _ (fun b o e _ => Heap.get?_push_of_some _ (hkp b o e)) fun o e => ?_) fun out h1 h2 => ⟨_, rfl, ?_⟩)
    (PyProof.Rows.args_list_sort _)))
  · have e' : some o = some _ := e.symm.trans hoL
    cases e'
    intro c
    exact absurd (Value.type.inj c) (by decide)
  · obtain ⟨p1, p2⟩ := hout out h1 h2
    have hr : ∀ u ∈ out, ∃ a, u = .ref a ∧ RepV (gx L X) H T (k u) (.ref a) := fun u m => by
      have m' := p1.mem_iff.mp m
      obtain ⟨v, q1, q2⟩ := repVs_zip r1 r2 hk u m'
      have mx : k u ∈ kvs.map (·.1) := by rw [← hk]; exact List.mem_map.mpr ⟨u, m', rfl⟩
      cases hxs : kvs.map (·.1) with
      | nil => rw [hxs] at mx; cases mx
      | cons x0 xs =>
        rw [hxs] at hok mx
        have J := srtOk_in hok
        exact rep_ref J.t1 (J.all _ mx) q1 q2
    have ry := repVs_of hr
    rw [p2] at ry
    obtain ⟨e', he'⟩ := PyProof.Rows.sortedHeap_at (vs := es.toList.map (·.key)) (out := out.toArray) hoL
    have hlen : (out.map backV).length ≤ sizeLine := by
      rw [List.length_map, p1.length_eq, hlen0]
      exact hz
    refine wpAny_pure ⟨_, rfl, .ref h'.objs.size, upd H h'.objs.size (.lst (out.map backV)), I1.laid (t' := tk) (fun b u e => ?_) (Nat.le_refl _)
      (show ObjOk X.prog X.w _ _ _ (.lst (out.map backV)) from ⟨hlen, out, e', vals_back fun u m => by
        obtain ⟨a, e, _⟩ := hr u m
        exact ⟨a, e⟩, he'⟩), rfl, q _ _ ry (I1.hok.fresh (Nat.le_refl _))⟩
    have hb : b < h'.objs.size := Heap.lt_size e
    rw [PyProof.Rows.sortedHeap_old (Nat.ne_of_lt hb) (by rw [size_push']; exact Nat.lt_succ_of_lt hb)]
    exact Heap.get?_push_of_some _ e
theorem cb_sortedX (hc : X.calm = true) (hu : X.A.units + 64 < cLine) : CallR X (.builtin "sorted") (RLm (gx L X) vSortX) := by
  refine CallR.weak (CallR.or (cb_sorted (L := L) hc) (CallR.or (cr_sortedV (L := L) hu) (cr_sortedKT (L := L) hc hu))) fun vs H Q ⟨ρ, P, st, as, rs, nl, p⟩ => ?_
  unfold vSortX at p
  split at p
  · rename_i xs
    split at p
    · rename_i y ys
      split at p
      · rename_i hok
        obtain ⟨v, rfl, nx⟩ := nl.one
        obtain ⟨a, us, rfl, h, r⟩ := nx.lstOf
        exact .inr (.inl ⟨_, a, us, _, rfl, .inl (.inl h), r, hok, fun ys p' ry hp => p.lst rs hp ry⟩)
      · exact p.elim
    · exact .inl ⟨ρ, P, st, _, rs, nl, p⟩
  · rename_i kvs
    split at p
    · rename_i hok
      obtain ⟨v, rfl, nx⟩ := nl.one
      have fin : ∀ {a : Addr} {ks : List (List Key × V)}, Rd H a (.dT ks) → RepT (gx L X) H (TP P ρ) kvs ks → rSortKT (gx L X) [V.ref a] H Q := fun h r => ⟨_, _, _, _, rfl, h, r, hok, fun ys p' ry hp => p.lst rs hp ry⟩
      cases nx with
      | rep r => cases r with | dicT h _ r => exact .inr (.inr (fin h r))
      | dicT h r => exact .inr (.inr (fin (.inl h) r))
    · exact p.elim
  · exact .inl ⟨ρ, P, st, _, rs, nl, p⟩
end
end Eng

set_option maxHeartbeats 1000000
namespace Eng
open PySem PySem.Spec PyProof.Rows L2
/-! ### sorted(d.items()), the keys tuples -/
abbrev prs (kvs : List (Val × Val)) : List Val := kvs.map fun p => .tup [p.1, p.2]
section
variable {G : Gc} {H H1 : Hp} {P : Ts} {ρ : Rho} {st : Sto} {T : Ts}
abbrev Grow (H H1 : Hp) : Prop := ∀ b o, H b = some o → H1 b = some o
theorem kp_grow (g : Grow H H1) : Kp T H T H1 := ⟨fun a o _ h _ => .inl (g a o h), fun a n => by
  cases h : H a with
  | none => exact .inl h
  | some o =>
    rcases n with n | ⟨ps, n⟩
    · rw [g a o h] at n; cases n
    · rw [g a o h] at n; cases n; exact .inr ⟨ps, h⟩, fun _ t => .inl t⟩
theorem kp_growP {l : Addr} (g : Grow H H1) (h : H l = none) : Kp (TP P ρ) H (TP (Plus P l) ρ) H1 :=
  ⟨(kp_grow (T := TP P ρ) g).keep, (kp_grow (T := TP P ρ) g).stay, fun _ t => t.elim (fun z => z.elim (fun z => .inl (.inl z)) fun z => .inr (by rw [z]; exact .inl h)) fun z => .inl (.inr z)⟩
theorem RepS.grow (rs : RepS G H P ρ st) (g : Grow H H1) : RepS G H1 P ρ st := rs.extN (LamX.ExtN.of g) (rs.tab.ext g)
theorem RepS.growP {l : Addr} {o : HO} (rs : RepS G H P ρ st) (g : Grow H H1) (h : H l = none) (e : H1 l = some o) (ho : Plain o) : RepS G H1 (Plus P l) ρ st :=
  ⟨rs.len, rs.nd, fun k a e => by
    obtain ⟨o', e1, r⟩ := rs.obj k a e
    obtain ⟨u, e2, _⟩ := SO.plain r
    exact ⟨o', e1, r.ext (kp_growP g h) rs.nt ((g a u e2).trans e2.symm)⟩, rs.dead, rs.tab.ext g, fun a pa => by
    rcases pa with pa | pa
    · obtain ⟨u, e, q⟩ := rs.prv a pa
      exact ⟨u, g a u e, q⟩
    · subst pa; exact ⟨o, e, ho⟩, fun a pa t => by
    rcases pa with pa | pa
    · exact rs.apart a pa t
    · subst pa; exact rs.ntr h (.inr t)⟩
end
/-- what is read of the pairs -/
theorem prs_reads {X : Cx} {L : Lx} {T : Ts} {H : Hp} {pins : List (Addr × Obj)} {σ : L2.St} {s : Shared} (I : Inv X pins σ H s) : ∀ {kvs : List (Val × Val)} {qs vv : List V} {es : List DictEntry} {as : List Addr},
    RepVs (gx L X) H T (kvs.map (·.1)) qs → Vals qs (es.map (·.key)) → RepVs (gx L X) H T (kvs.map (·.2)) vv → Vals vv (es.map (·.val)) → okDs (prs kvs) 31 = true →
    (∀ (j : Nat) (a : Addr), as[j]? = some a → ∃ e : DictEntry, es[j]? = some e ∧ s.heap.get? a = some { cls := .type "tuple", data := .seq #[e.key, e.val] }) → as.length = es.length →
    lays (prs kvs) ∧ (∃ bs, ReadsAll s.heap (as.map Value.ref) (toPys (prs kvs)) bs) ∧
      ∀ (j : Nat) (a : Addr), as[j]? = some a → ∃ (x y : Val) (kv vv : V) (ku vu : Value), (prs kvs)[j]? = some (Val.tup [x, y]) ∧ RepV (gx L X) H T x kv ∧ RepV (gx L X) H T y vv ∧ L2.RelV kv ku ∧ L2.RelV vv vu ∧ s.heap.get? a = some { cls := .type "tuple", data := .seq #[ku, vu] }
  | [], _, _, es, as, r1, v1, r2, v2, _, hg, hl => by
    cases r1
    cases es with
    | cons e es => cases v1
    | nil =>
      cases as with
      | nil => exact ⟨rfl, ⟨_, .nil⟩, fun j a h => by simp at h⟩
      | cons _ _ => simp at hl
  | (x, y) :: kvs, _, _, es, as, r1, v1, r2, v2, hok, hg, hl => by
    simp only [List.map_cons] at r1 r2
    cases r1 with
    | @cons _ kv _ _ rx r1 =>
      cases r2 with
      | @cons _ vv _ _ ry r2 =>
        cases es with
        | nil => cases v1
        | cons e es =>
          cases as with
          | nil => simp at hl
          | cons a as =>
            simp only [List.map_cons] at v1 v2
            cases v1 with
            | cons k1 v1 =>
              cases v2 with
              | cons k2 v2 =>
                simp only [prs, List.map_cons, okDs, Bool.and_eq_true] at hok
                obtain ⟨b1, ⟨bs, b2⟩, b3⟩ := prs_reads I r1 v1 r2 v2 hok.2 (fun j a h => by
                  obtain ⟨e, e1, e2⟩ := hg (j + 1) a (by simpa using h)
                  exact ⟨e, by simpa using e1, e2⟩) (by simpa using hl)
                obtain ⟨e', e1, e2⟩ := hg 0 a rfl
                simp at e1
                subst e1
                simp only [okD, okDs, Bool.and_true, Bool.and_eq_true] at hok
                obtain ⟨c1, c2, _⟩ := RepV.dp rx hok.1.1
                obtain ⟨d1, d2, _⟩ := RepV.dp ry hok.1.2
                obtain ⟨as1, f1⟩ := Dp.reads I _ _ _ c1 k1
                obtain ⟨as2, f2⟩ := Dp.reads I _ _ _ d1 k2
                refine ⟨?_, ⟨_, ReadsAll.cons (Reads.tuple (n := 0) e2 rfl rfl (ReadsAll.cons f1 (ReadsAll.cons f2 .nil))) b2⟩, fun j b hj => ?_⟩
                · have : lays ((Val.tup [x, y]) :: prs kvs) := by
                    simp only [lays, toPys, toPy, PyData.canLayAll0, PyData.canLay0, Bool.and_true, Bool.and_eq_true]
                    exact ⟨⟨c2, d2⟩, b1⟩
                  exact this
                · cases j with
                  | zero =>
                    simp at hj
                    subst hj
                    exact ⟨x, y, kv, vv, _, _, rfl, rx, ry, k1, k2, e2⟩
                  | succ j =>
                    simpa using b3 j b (by simpa using hj)
def rSortIV (G : Gc) : List V → Hp → VK → Prop := fun vs H Q => ∃ (T : Ts) (p d : Addr) (kvs : List (Val × Val)) (ks : List (List Key × V)), vs = [V.ref p] ∧ H p = some (DX.itemsO p d) ∧ Rd H d (.dT ks) ∧ RepT G H T kvs ks ∧ NoTup H T ∧ srtOk (prs kvs) = true ∧
  ∀ H' l ys, Grow H H' → H l = none → H' l = some (.lst ys) → (∀ T', Kp T H T' H' → RepVs G H' T' (sortV (prs kvs)) ys) → Q (.ref l) H'
section
variable {X : Cx} {L : Lx}
theorem cr_sortedIV (hc : X.calm = true) (hu : X.A.units + 64 < cLine) : CallR X (.builtin "sorted") (rSortIV (gx L X)) := by
  intro pins s σ H xs us Q I r h
  obtain ⟨T, p, d, kvs, ks, rfl, hp, ha, rx, nt, hok, q⟩ := h
  obtain rfl := Vals.ref1 r
  have view : s.heap.IsItemsView p d := (show ObjOk X.prog X.w H s.heap p (DX.itemsO p d) from I.hok p _ hp).1
  obtain ⟨lo, hz, es, ep, raw, ent⟩ := rd_raw I ha
  obtain ⟨qs, r1, v1⟩ := ent.keys rx
  obtain ⟨r2, v2⟩ := ent.vals rx
  have hes : es.size = ks.length := by rw [← Array.length_toList]; exact ent.len
  have hh : X.A.handled = none := I.ok.hd hc
  refine DT.sortedI (es := es) (ep := ep) hh view raw (by omega) fun h' tk as hk hlt hl hG => ?_
  have nd : as.Nodup := List.Pairwise.imp (fun h => Nat.ne_of_lt h) hG.rise
  have I0 : Inv X pins σ H { s with heap := h', toks := tk } := I.kept (t' := tk) hk
  have hgp : ∀ (j : Nat) (a : Addr), as[j]? = some a → ∃ e : DictEntry, es.toList[j]? = some e ∧ h'.get? a = some { cls := .type "tuple", data := .seq #[e.key, e.val] } := fun j a hj => by
    obtain ⟨e, e1, e2⟩ := hG.pairs j a hj
    exact ⟨e, by rw [Array.getElem?_toList]; exact e1, e2⟩
  obtain ⟨hlay, ⟨bs, ra⟩, pr⟩ := prs_reads (L := L) (as := as) I0 r1 v1 r2 v2 (srtOk_okD hok) hgp (by rw [Array.length_toList]; exact hl)
  obtain ⟨k, ltv, hkm, O, hS, hout⟩ := sort_core (prog := X.prog) (w := X.w) (A := X.A.in1.in1) hok hlay (by show X.A.units + 1 + 1 + 32 < cLine; omega) ra
  have lak : as.length = ks.length := by omega
  -- the heap of the sort
  have hob : (h'.push { cls := .type "list", data := .seq (as.map Value.ref).toArray }).get? h'.objs.size = some (seqObj "list" (as.map Value.ref).toArray 0) := Heap.get?_push_size _ rfl
  have ka : ∀ b o, h'.get? b = some o → (h'.push { cls := .type "list", data := .seq (as.map Value.ref).toArray }).get? b = some o := fun b o e => Heap.get?_push_of_some _ e
  have ne0 : ∀ b o, h'.get? b = some o → b ≠ h'.objs.size := fun b o e => Nat.ne_of_lt (Heap.lt_size e)
  generalize hh2 : h'.push { cls := .type "list", data := .seq (as.map Value.ref).toArray } = h2 at hob ka ⊢
  have hlen0 : (as.map Value.ref).length = ks.length := by rw [List.length_map, lak]
  refine wpAny_call_entry PyProof.Rows.slot_list_sort ⟨_, hob, rfl⟩ PyProof.Rows.entry_list_sort
    (SrtO.list_sort_ord (s := { s with heap := h2, toks := tk }) O hob (by rw [hlen0]; exact hz) (fun h2 => hS h2 _ _ (fun b o e _ => ka b o e) fun o e => ?_) fun out h1 h3 => ⟨.none, rfl, ?_⟩) (PyProof.Rows.args_list_sort _)
  · have e' : some o = some _ := e.symm.trans hob
    cases e'
    intro c
    exact absurd (Value.type.inj c) (by decide)
  · show L2.EP X pins σ Q (.ref h'.objs.size) { s with heap := sortedHeap h2 h'.objs.size (as.map Value.ref) out.toArray, toks := tk }
    obtain ⟨p1, p2⟩ := hout out h1 h3
    have kF : ∀ b o, b ≠ h'.objs.size → h2.get? b = some o → (sortedHeap h2 h'.objs.size (as.map Value.ref) out.toArray).get? b = some o := fun b o hb e => (PyProof.Rows.sortedHeap_old hb (Heap.lt_size e)).trans e
    have kS : ∀ b o, s.heap.get? b = some o → (sortedHeap h2 h'.objs.size (as.map Value.ref) out.toArray).get? b = some o := fun b o e => kF b o (ne0 _ _ (hk b o e)) (ka b o (hk b o e))
    obtain ⟨eF, heF⟩ := PyProof.Rows.sortedHeap_at (vs := as.map Value.ref) (out := out.toArray) hob
    have I1 : Inv X pins σ H { s with heap := sortedHeap h2 h'.objs.size (as.map Value.ref) out.toArray, toks := tk } := I.kept (t' := tk) kS
    have hn0 : H h'.objs.size = none := I.hok.fresh (Nat.le_of_lt hlt)
    have hrf : ∀ u ∈ out, ∃ a, u = Value.ref a ∧ a ∈ as := fun u hu => by
      have := p1.mem_iff.mp hu
      obtain ⟨a, h, rfl⟩ := List.mem_map.mp this
      exact ⟨a, rfl, h⟩
    have hlen : (out.map backV).length ≤ sizeLine := by
      rw [List.length_map, p1.length_eq, hlen0]; exact hz
    have I2 : Inv X pins σ (upd H h'.objs.size (.lst (out.map backV))) { s with heap := sortedHeap h2 h'.objs.size (as.map Value.ref) out.toArray, toks := tk } :=
      I1.take (h' := sortedHeap h2 h'.objs.size (as.map Value.ref) out.toArray) (t' := tk) (fun b ob _ e => e) (I.fpOk (Nat.le_of_lt hlt) hn0) ⟨hlen, out, eF, vals_back fun u m => by
        obtain ⟨a, e, _⟩ := hrf u m
        exact ⟨a, e⟩, heF⟩
    obtain ⟨H2, I3, g, qt⟩ := DX.takeT (P := fun b vs => ∃ (j : Nat) (x y : Val) (kv vv : V), as[j]? = some b ∧ (prs kvs)[j]? = some (.tup [x, y]) ∧ vs = [kv, vv] ∧ RepV (gx L X) H T x kv ∧ RepV (gx L X) H T y vv) I as _ I2 nd fun b hb => by
      obtain ⟨j, hj⟩ := List.mem_iff_getElem?.mp hb
      obtain ⟨x, y, kv, vv, ku, vu, e1, e2, e3, e4, e5, e6⟩ := pr j b hj
      have hbl : s.heap.objs.size ≤ b := Nat.le_of_lt (hG.above b hb)
      have e6 : h'.get? b = some { cls := .type "tuple", data := .seq #[ku, vu] } := e6
      refine ⟨hbl, ?_, [kv, vv], ⟨j, x, y, kv, vv, hj, e1, rfl, e2, e3⟩, fun H3 => ⟨(by rw [sizeLine_eq]; show 2 ≤ 16777216; omega), [ku, vu], .cons e4 (.cons e5 .nil), ⟨_, kF _ _ (ne0 _ _ e6) (ka _ _ e6), rfl, 0, rfl⟩⟩⟩
      rw [upd_ne (ne0 _ _ e6)]
      exact I.hok.fresh hbl
    have gr : Grow H H2 := fun b o e => g b o (by rw [upd_ne (ne_of_none e hn0)]; exact e)
    refine ⟨.ref h'.objs.size, H2, I3, rfl, q H2 h'.objs.size (out.map backV) gr hn0 (g _ _ upd_same) fun T' kp => ?_⟩
    rw [← p2]
    refine repVs_of fun u hu => ?_
    obtain ⟨a, rfl, ha'⟩ := hrf u hu
    obtain ⟨vs, ⟨j, x, y, kv, vv, j1, j2, ev, j3, j4⟩, hH⟩ := qt a ha'
    have ek : k (.ref a) = .tup [x, y] := by
      have : (as.map Value.ref)[j]? = some (.ref a) := by rw [List.getElem?_map, j1]; rfl
      have e2 : ((as.map Value.ref).map k)[j]? = some (k (.ref a)) := by rw [List.getElem?_map, this]; rfl
      rw [hkm, j2] at e2
      exact (Option.some.inj e2).symm
    rw [ev] at hH
    exact ⟨a, rfl, by rw [ek]; exact .tup (TupH.of hH rx.off) (.cons (j3.ext kp nt) (.cons (j4.ext kp nt) .nil))⟩
/-- d.items() -/
def tItm (td : TE) : TE := fun σ H Q => td σ H fun x H1 => ∃ d ks, x = .ref d ∧ Rd H1 d (.dT ks) ∧ ∀ p, H1 p = none → Q (.ref p) (upd H1 p (DX.itemsO p d))
theorem pe_itm {e : Expr} {td : TE} {apos cpos : Pos} (he : PE X e td) (hbase : attributeBase e "items" X.env (eval e X.env) = eval e X.env := by rfl) (hline : (apos.endLine == cpos.line) = true := by rfl) :
    PE X (.Call (.Attribute e "items" apos) [] [] cpos) (tItm td) := by
  refine ⟨fun pins s σ H R I0 hw => ?_⟩
  refine wpAny_Call_method (T := "dict") (id := "dict.items") hbase rfl hline PySem.F.plainAttrs_dict PySem.F.slot_dict_items PySem.F.type_dict_items (thn (he.run pins s σ H _ I0 hw) fun u s1 z => ?_)
  obtain ⟨x, H1, I1, rx, d, ks, rfl, hd, q⟩ := z
  have eu : u = Value.ref d := rx
  subst eu
  obtain ⟨lo, hz, es, ep, raw, ent⟩ := rd_raw I1 hd
  refine ⟨raw.typeIs, fun b eb => ?_, ?_⟩
  · cases eb
    obtain ⟨o, ho, hx, _⟩ := raw
    exact ⟨o, ho, hx.2.1⟩
  · have hf : H1 s1.heap.objs.size = none := I1.hok.fresh (Nat.le_refl _)
    have I2 : Inv X pins σ (upd H1 s1.heap.objs.size (DX.itemsO s1.heap.objs.size d)) { s1 with heap := s1.heap.push { cls := .type "dict_items", data := .fields #[.ref d] } } :=
      I1.laid (t' := s1.toks) (fun b u e => Heap.get?_push_of_some _ e) (Nat.le_refl _) (DX.itemsO_ok (Heap.get?_push_size _ rfl))
    have fin : L2.EP X pins σ R (.ref s1.heap.objs.size) { s1 with heap := s1.heap.push { cls := .type "dict_items", data := .fields #[.ref d] } } := ⟨.ref s1.heap.objs.size, _, I2, rfl, q _ hf⟩
    exact method_meetsIn PySem.F.slot_dict_items PySem.F.entry_dict_items rfl (PySem.evalArgs_none ⟨rfl, raw.typeIs, PySem.F.args_dict_items_1 _, _, DT.meetsItems (prog := X.prog) (w := X.w) (es := es) (ep := ep) lo, raw, fin⟩)
variable {W : WX} {e : Expr} {x : Str} {p pos apos cpos : Pos} {fa : Fe}
theorem sortit_eq (env : Env) (st : Sto) : eB vSortIt (aCons fa aNil) env st = (fa env st).bind fun z st1 => outO ((valsOf st1 [z.froz]).bind vSortIt) st1 := by
  unfold eB aCons aNil
  cases fa env st <;> rfl
theorem ee_sortit (hc : X.calm = true) (hu : X.A.units + 64 < cLine) (hg : Gl X x) (hm : X.mg x = none) (hv : bootBuiltins x = some (.builtin "sorted")) (ha : EE L X W e fa) (hn : x ≠ "__name__" := by decide) (hdb : (x == ("__debug__" : Str)) = false := by decide)
    (hbase : attributeBase e "items" X.env (eval e X.env) = eval e X.env := by rfl) (hline : (apos.endLine == cpos.line) = true := by rfl)
    (he : starEach [.Call (.Attribute e "items" apos) [] [] cpos] X.env = (false, eval (.Call (.Attribute e "items" apos) [] [] cpos) X.env) :: starEach [] X.env := by rfl) (hpl : (backTo pos (starEach [] X.env)).any (·.1) = false := by rfl) :
    EE L X W (.Call (.Name x p) [.Call (.Attribute e "items" apos) [] [] cpos] [] pos) (eB vSortIt (aCons fa aNil)) := by
  refine PE.weak (pe_callB (cr_sortedIV (L := L) hc hu) hg hm hv (pa_cons (pe_itm ha hbase hline) pa_nil he) hn hdb he hpl) fun σ H Q ⟨env, st, ρ, P, re, rs, q⟩ => ?_
  rw [sortit_eq] at q
  refine ⟨env, st, ρ, P, re, rs, Post.then q fun z st1 v H1 k rs1 rx p => ?_⟩
  have p := POp.of p
  cases h1 : z.froz.val st1 with
  | none => simp only [valsOf, h1] at p; exact p.elim
  | some y =>
    simp only [valsOf, h1, Option.bind_some] at p
    have nx := rx.z.now rs1 h1
    unfold vSortIt at p
    split at p
    · rename_i kvs hk
      cases hk
      split at p
      · rename_i hok
        have fin : ∀ {d : Addr} {ks : List (List Key × V)}, Rd H1 d (.dT ks) → RepT (gx L X) H1 (TP P ρ) kvs ks → ∃ d' ks, V.ref d = .ref d' ∧ Rd H1 d' (.dT ks) ∧ ∀ p', H1 p' = none → tNil σ (upd H1 p' (DX.itemsO p' d')) fun vs H2 => rSortIV (gx L X) (V.ref p' :: vs) H2 Q := by
          intro d ks hd rT
          refine ⟨d, ks, rfl, hd, fun p' hp' => ?_⟩
          have kn : Kp (TP P ρ) H1 (TP P ρ) (upd H1 p' (DX.itemsO p' d)) := kp_new hp'
          have rs2 := rs1.fresh (o := DX.itemsO p' d) hp'
          have hd2 : Rd (upd H1 p' (DX.itemsO p' d)) d (.dT ks) := by
            rcases hd with hd | ⟨o, hd⟩
            · exact .inl (by rw [upd_ne (ne_of_none hd hp')]; exact hd)
            · exact .inr ⟨o, by rw [upd_ne (ne_of_none hd hp')]; exact hd⟩
          refine ⟨TP P ρ, p', d, kvs, ks, rfl, upd_same, hd2, rT.ext kn rs1.nt, rs2.nt, hok, fun H' l ys g hl e ry => ?_⟩
          have hl1 : H1 l = none := by
            by_cases z : l = p'
            · subst z; rw [upd_same] at hl; cases hl
            · rw [upd_ne z] at hl; exact hl
          exact p _ H' ((kp_new hp').trans (kp_grow g)) (rs2.grow g) (.fl e (.inl hl1) (ry _ (kp_growP g hl)) (rs2.growP g hl e ⟨by intros; simp, by intros; simp, by intros; simp, by intros; simp⟩) fun t => rs1.ntr hl1 (.inl t))
        cases nx with
        | rep r => cases r with | dicT h _ r => exact fin h r
        | dicT h r => exact fin (.inl h) r
      · exact p.elim
    · exact p.elim
end
end Eng

set_option maxHeartbeats 2000000
namespace Eng
open PySem PySem.Spec PyProof.Rows L2
/-! ### walks where an error is handled -/
section
variable {prog : Program} {w : World} {A : Around} {E : Value → Shared → Prop} {s : Shared}
theorem list_end_hot {it l x1 : Addr} {i : Nat} {items} {Q : Option Value → Shared → Prop} (hot : HotX.HotAt A x1 s.heap) (hne : x1 ≠ it)
    (hit : s.heap.IsListIter it l i) (hl : s.heap.IsList l items) (hx : items[i]? = none) (hQ : ∀ h', Heap.ExtBut it s.heap h' → Q none { s with heap := h' }) : wpAny (model prog w) A (pyNext (.ref it)) Q E s := by
  obtain ⟨o, ho, hc, hd⟩ := id hit
  obtain ⟨ol, hol, _, nl, hdl⟩ := hl
  obtain ⟨hh, o1, vs1, h1, d1, c1⟩ := hot
  unfold pyNext
  refine wpAny_bind (wpAny_attempt (wpAny_callSpecial?_slot (name := Str.ofString "__next__") hit.typeIs slot_listiter_next
    (wpAny_call_entry slot_listiter_next hit.typeIs entry_listiter_next ?_ (args_listiter_next _))))
  show wpAny _ _ (field (.ref it) 0 >>= _) _ _ s
  refine wpAny_bind (wpAny_field ho hd (x := .ref l) rfl ?_)
  show wpAny _ _ (if (Value.ref l == Value.none) = true then _ else _) _ _ s
  rw [if_neg (show ¬ ((Value.ref l == Value.none) = true) from Bool.false_ne_true)]
  show wpAny _ _ (field (.ref it) 1 >>= _) _ _ s
  refine wpAny_bind (wpAny_field ho hd (x := .int i 0) rfl ?_)
  show wpAny _ _ (seqItems? (.ref l) >>= _) _ _ s
  refine wpAny_bind (wpAny_seqItems hol hdl ?_)
  simp only [Int.toNat_natCast, hx]
  refine wpAny_bind (wpAny_rule (wpAny_bind (wpAny_setField ho hd (by simp) ?_)))
  show wpAny _ _ (newExc (.type "StopIteration") [] >>= _) _ _ _
  refine wpAny_bind ?_
  simp only [newExc, newTuple]
  refine wpAny_bind (wpAny_newObj_type ?_ (by size_fits))
  refine wpAny_bind (m := firstArgMember _ _) (wpAny_of_eq (a := Value.none) (by first | rfl | (simp only [firstArgMember]; rfl)) ?_)
  refine wpAny_newObj_type ?_ (by size_fits)
  have g1 : (s.heap.update it (Obj.mapFields fun x => x.setIfInBounds 0 Value.none)).get? x1 = some o1 := (Heap.get?_update_other _ _ (Ne.symm hne)).trans h1
  refine HotX.raiseNew_hot ⟨hh, o1, vs1, Heap.get?_push_of_some _ (Heap.get?_push_of_some _ g1), d1, c1⟩ (Nat.ne_of_lt (Heap.lt_size (Heap.get?_push_of_some _ g1))) (Heap.get?_push_size _ rfl) rfl (by first | (simp; done) | (simp; omega)) ?_
  refine wpAny_bind (wpAny_isInstance (T := "StopIteration") (b := true) ⟨_, Heap.get?_update_self _ (Heap.get?_push_size _ rfl) rfl, rfl⟩ isSubtype_stop ?_)
  refine wpAny_pure (hQ _ fun b o' hb e => ?_)
  have e1 : (s.heap.update it (Obj.mapFields fun x => x.setIfInBounds 0 Value.none)).get? b = some o' := (Heap.get?_update_other _ _ (Ne.symm hb)).trans e
  rw [Heap.get?_update_other _ _ (Nat.ne_of_gt (Heap.lt_size (Heap.get?_push_of_some _ e1)))]
  exact Heap.get?_push_of_some _ (Heap.get?_push_of_some _ e1)
theorem tuple_end_hot {it t x1 : Addr} {i : Nat} {items} {Q : Option Value → Shared → Prop} (hot : HotX.HotAt A x1 s.heap) (hne : x1 ≠ it)
    (hit : IsTupIter s.heap it t i) (ht : IsTup s.heap t items) (hx : items[i]? = none) (hQ : ∀ h', Heap.ExtBut it s.heap h' → Q none { s with heap := h' }) : wpAny (model prog w) A (pyNext (.ref it)) Q E s := by
  obtain ⟨o, ho, hc, hd⟩ := id hit
  obtain ⟨ol, hol, _, nl, hdl⟩ := ht
  obtain ⟨hh, o1, vs1, h1, d1, c1⟩ := hot
  unfold pyNext
  refine wpAny_bind (wpAny_attempt (wpAny_callSpecial?_slot (name := Str.ofString "__next__") hit.typeIs slot_tupleiter_next
    (wpAny_call_entry slot_tupleiter_next hit.typeIs entry_tupleiter_next ?_ (args_tupleiter_next _))))
  show wpAny _ _ (field (.ref it) 0 >>= _) _ _ s
  refine wpAny_bind (wpAny_field ho hd (x := .ref t) rfl ?_)
  show wpAny _ _ (if (Value.ref t == Value.none) = true then _ else _) _ _ s
  rw [if_neg (show ¬ ((Value.ref t == Value.none) = true) from Bool.false_ne_true)]
  show wpAny _ _ (field (.ref it) 1 >>= _) _ _ s
  refine wpAny_bind (wpAny_field ho hd (x := .int i 0) rfl ?_)
  show wpAny _ _ (seqItems? (.ref t) >>= _) _ _ s
  refine wpAny_bind (wpAny_seqItems hol hdl ?_)
  simp only [Int.toNat_natCast, hx]
  refine wpAny_bind (wpAny_rule (wpAny_bind (wpAny_setField ho hd (by simp) ?_)))
  show wpAny _ _ (newExc (.type "StopIteration") [] >>= _) _ _ _
  refine wpAny_bind ?_
  simp only [newExc, newTuple]
  refine wpAny_bind (wpAny_newObj_type ?_ (by size_fits))
  refine wpAny_bind (m := firstArgMember _ _) (wpAny_of_eq (a := Value.none) (by first | rfl | (simp only [firstArgMember]; rfl)) ?_)
  refine wpAny_newObj_type ?_ (by size_fits)
  have g1 : (s.heap.update it (Obj.mapFields fun x => x.setIfInBounds 0 Value.none)).get? x1 = some o1 := (Heap.get?_update_other _ _ (Ne.symm hne)).trans h1
  refine HotX.raiseNew_hot ⟨hh, o1, vs1, Heap.get?_push_of_some _ (Heap.get?_push_of_some _ g1), d1, c1⟩ (Nat.ne_of_lt (Heap.lt_size (Heap.get?_push_of_some _ g1))) (Heap.get?_push_size _ rfl) rfl (by first | (simp; done) | (simp; omega)) ?_
  refine wpAny_bind (wpAny_isInstance (T := "StopIteration") (b := true) ⟨_, Heap.get?_update_self _ (Heap.get?_push_size _ rfl) rfl, rfl⟩ isSubtype_stop ?_)
  refine wpAny_pure (hQ _ fun b o' hb e => ?_)
  have e1 : (s.heap.update it (Obj.mapFields fun x => x.setIfInBounds 0 Value.none)).get? b = some o' := (Heap.get?_update_other _ _ (Ne.symm hb)).trans e
  rw [Heap.get?_update_other _ _ (Nat.ne_of_gt (Heap.lt_size (Heap.get?_push_of_some _ e1)))]
  exact Heap.get?_push_of_some _ (Heap.get?_push_of_some _ e1)
theorem unpack_hot {env : PySem.Env} {elts : List Expr} {k} {pos : Pos} {t x1 : Addr} {items : Array Value} {Q : Unit → Shared → Prop} (hot : HotX.HotAt A x1 s.heap) (ht : IsTup s.heap t items) (hn : (assignEach elts env).length = items.size) (hstar : (assignEach elts env).findIdx? (·.1) = none)
    (h : ∀ h', Heap.ExtBut s.heap.objs.size s.heap h' → wpAny (model prog w) A (assignInOrder ((assignEach elts env).map (·.2)) items.toList) Q E { s with heap := h' }) :
    wpAny (model prog w) A (assign (.Tuple elts k pos) env (.ref t)) Q E s := by
  have hlt : t ≠ s.heap.objs.size := by obtain ⟨o, ho, _⟩ := ht; exact Nat.ne_of_lt (Heap.lt_size ho)
  obtain ⟨hh, o1, vs1, h1, d1, c1⟩ := hot
  have hx1 : x1 ≠ s.heap.objs.size := Nat.ne_of_lt (Heap.lt_size h1)
  rw [assign_Tuple]
  refine wpAny_bind (wpAny_standAt ?_)
  unfold unpack
  rw [hn, hstar]
  refine wpAny_bind (wpAny_holding ?_)
  unfold unpackItems
  refine wpAny_bind ?_
  unfold notIterableAtAll
  refine wpAny_bind (wpAny_specialOf ht.typeIs slot_tuple_iter.lookup (wpAny_pure ?_))
  simp only [Bool.false_eq_true, if_false]
  refine wpAny_bind (wpAny_holding (iter_tuple ht ?_))
  refine wpAny_bind (wpAny_holding (draw_tuple hlt items.size 0 _ _ ⟨_, Heap.get?_push_size _ rfl, rfl, rfl⟩ (ht.push _) (by omega) fun h₁ hit₁ hs₁ => ?_))
  have hall : List.take items.size (List.drop 0 items.toList) = items.toList := by
    rw [List.drop_zero]; exact List.take_of_length_le (by simp)
  rw [hall, if_neg (by simp)]
  have ht₁ : IsTup h₁ t items := (ht.push _).extBut hs₁.extBut hlt
  refine wpAny_bind (wpAny_holding (tuple_end_hot ⟨hh, o1, vs1, hs₁.extBut _ _ hx1 (Heap.get?_push_of_some _ h1), d1, c1⟩ hx1 hit₁ ht₁ (by simp) fun h₂ he₂ => ?_))
  simp only [Option.isSome_none, Bool.false_eq_true, if_false]
  exact wpAny_pure (h h₂ fun b o hb e => he₂ b o hb (hs₁.extBut b o hb (Heap.get?_push_of_some _ e)))
end
/-- the handled error stands in every state of the context -/
def HotI (X : Cx) : Prop := ∀ (pins : List (Addr × Obj)) (σ : L2.St) (H : Hp) (s : Shared), Inv X pins σ H s → ∃ x1, HotX.HotAt X.A x1 s.heap ∧ H x1 = none ∧ ∀ b ∈ X.ex, x1 ≠ b
theorem hotI_of {X : Cx} (c : L2H.HotC X) (hex : X.ex = []) : HotI X := fun pins σ H s I => by
  obtain ⟨p, ⟨hh, v1, e1, c1⟩, hp⟩ := c
  obtain ⟨g1, g2, _⟩ := I.pin p (List.mem_append_left _ hp)
  exact ⟨p.1, ⟨hh, p.2, v1, g1, e1, c1⟩, g2, fun b hb => by rw [hex] at hb; cases hb⟩
theorem pg_tupH {X : Cx} {es : List Expr} {k : Nat} {t : TGs} {n : Nat} {pos : Pos} (hc : HotI X) (h : PGs X es t) (hn : (assignEach es X.env).length = n := by rfl) (hst : (assignEach es X.env).findIdx? (·.1) = none := by rfl) : PG X (.Tuple es k pos) (gTup X.K n t) := by
  refine ⟨fun pins s σ H v u Q I r ⟨a, xs, e1, hq, hl, hw⟩ => ?_⟩
  subst e1
  cases r
  obtain ⟨its, rv, ht, hz⟩ := I.tuple hq
  obtain ⟨x1, hot, _⟩ := hc _ _ _ _ I
  refine unpack_hot hot ht (by simp [hn, ← hl, rv.length]) hst fun h' hx => ?_
  have I1 : Inv X pins σ H { s with heap := h' } := I.kept (t' := s.toks) fun b o e => hx b o (Nat.ne_of_lt (Heap.lt_size e)) e
  exact h.run pins _ σ H xs _ Q I1 (by simpa using rv) hw
/-! ### the turns of a walk over a list -/
structure TurnQ (P : Program) (w : World) (K : PySem.W.Frag) (tg : Expr) (J : It) (it : Addr) (tn : Nat → Heap → Prop) : Prop where
  obj : ∀ i h, tn i h → ∃ o, h.get? it = some o ∧ ∀ v, o.data ≠ .cell v
  keep : ∀ i h h', tn i h → (∀ o, h.get? it = some o → h'.get? it = some o) → tn i h'
  item : ∀ (X : Cx), X.prog = P → X.w = w → X.K = K → ∀ (i : Nat) (pins : List (Addr × Obj)) (s : Shared) (σ : L2.St) (H : Hp) (E : Value → Shared → Prop), Inv X pins σ H s → FpOk X pins H it → tn i s.heap → J.go i H →
    wpAny (model P w) X.A (pyNext (.ref it)) (fun r s1 => ∃ u, r = some u ∧
      wpAny (model P w) X.A (letOwnedTupleGo tg (.ref it) u) (fun _ s2 => ∃ x H', Inv X pins σ H' s2 ∧ L2.RelV x u ∧ J.yld i H x H' ∧ tn (i + 1) s2.heap ∧ H' it = none) E s1) E s
  done : ∀ (X : Cx), X.prog = P → X.w = w → X.K = K → ∀ (i : Nat) (pins : List (Addr × Obj)) (s : Shared) (σ : L2.St) (H : Hp) (E : Value → Shared → Prop) (x1 : Addr), Inv X pins σ H s → FpOk X pins H it → HotX.HotAt X.A x1 s.heap → x1 ≠ it → tn i s.heap → J.stop i H →
    wpAny (model P w) X.A (pyNext (.ref it)) (fun r s1 => r = none ∧ Inv X pins σ H s1) E s
  self : ∀ (A : Around) (i : Nat) (s : Shared) (Q : Value → Shared → Prop) (E : Value → Shared → Prop), tn i s.heap → Q (.ref it) s → wpAny (model P w) A (pyIter (.ref it)) Q E s
theorem turnQ_list {P : Program} {w : World} {K : PySem.W.Frag} {tg : Expr} (a it : Addr) : TurnQ P w K tg (Itl K a) it (fun i h => h.IsListIter it a i) where
  obj := fun i h ⟨o, e, c, d⟩ => ⟨o, e, fun v z => by rw [d] at z; cases z⟩
  keep := fun i h h' st k => st.at k
  item := by
    intro X hP hw hK i pins s σ H E I ⟨f0, f1, f2, f3, f4, f5⟩ st ⟨xs, x, hq, hx⟩
    subst hP hw hK
    obtain ⟨its, rv, p, hz⟩ := I.list hq
    obtain ⟨u, hu, ru⟩ := rv.get hx
    refine wpAny_pyNext_list_item st p.isList (x := u) (by simpa using hu) fun h' st' sb => ?_
    have I1 : Inv X pins σ H { s with heap := h' } := I.turned (t' := s.toks) (fun b o hb e => (sb.2 b hb).trans e) f0 f1 f3 f4 f5
    obtain ⟨o, e, c, d⟩ := id st'
    exact ⟨u, rfl, go_of (s := { s with heap := h' }) e c d (by decide) ⟨x, H, I1, ru, ⟨rfl, fun ys hy => by rw [I.list_inj hy hq]; exact hx⟩, st', f0⟩⟩
  done := by
    intro X hP hw hK i pins s σ H E x1 I ⟨f0, f1, f2, f3, f4, f5⟩ hot hne st ⟨xs, hq, hx⟩
    subst hP hw hK
    obtain ⟨its, rv, p, hz⟩ := I.list hq
    have hl := rv.length
    exact list_end_hot hot hne st p.isList (by simp; omega) fun h' eb => ⟨rfl, I.turned (t' := s.toks) (fun b o hb e => eb b o hb e) f0 f1 f3 f4 f5⟩
  self := fun _ _ _ _ _ st h => wpAny_pyIter_listiter st h
def PIEQ (X : Cx) (pins : List (Addr × Obj)) (σ : L2.St) (tg : Expr) (R : It → Hp → Prop) (itv : Value) (s2 : Shared) : Prop :=
  ∃ (it : Addr) (tn : Nat → Heap → Prop) (J : It) (H' : Hp), itv = .ref it ∧ Inv X pins σ H' s2 ∧ TurnQ X.prog X.w X.K tg J it tn ∧ tn 0 s2.heap ∧ FpOk X pins H' it ∧ R J H'
structure PIQ (X : Cx) (tg iter : Expr) (wi : TI) : Prop where
  run : ∀ (pins : List (Addr × Obj)) (s : Shared) (σ : L2.St) (H : Hp) (R : It → Hp → Prop), Inv X pins σ H s → wi σ H R →
    wpAny (model X.prog X.w) X.A (eval iter X.env) (fun v s1 => wpAny (model X.prog X.w) X.A (pyIter v) (PIEQ X pins σ tg R) X.xe s1) X.xe s
theorem piQ_list {X : Cx} {tg l : Expr} {tl : TE} (hl : PE X l tl) : PIQ X tg l (iList X.K tl) := by
  refine ⟨fun pins s σ H R I h => ?_⟩
  refine thn (hl.run pins s σ H _ I h) fun v s1 ⟨x, H1, I1, r1, q1⟩ => ?_
  obtain ⟨a, e, ⟨xs, hq⟩, q⟩ := q1
  subst e
  cases r1
  obtain ⟨its, rv, p, hz⟩ := I1.list hq
  exact wpAny_pyIter_list p.isList ⟨s1.heap.objs.size, _, _, H1, rfl, I1.kept (t' := s1.toks) fun b o e => Heap.get?_push_of_some _ e, turnQ_list a _, ⟨_, Heap.get?_push_size _ rfl, rfl, rfl⟩, I1.fpOk (Nat.le_refl _) (I1.hok.fresh (Nat.le_refl _)), q⟩
end Eng

set_option maxHeartbeats 2000000
namespace Eng
open PySem PySem.Spec PyProof.Rows L2
/-! ### [x for .. in a list if ..] where an error is handled -/
section
variable {X : Cx} {elt tg iter : Expr} {ifs : List Expr} {scope : Scope} {own : List (Str × Nat)} {pos pos' : Pos} {wi : TI} {g : TG} {tt : TT} {te : TE}
/-- the handled error, seen from a block -/
theorem hot_blk {p : Addr × Obj} {s3 : Shared} {H3 : Hp} {ce : PySem.Env} {it : Addr} {pins : List (Addr × Obj)} {σ : L2.St} (h1 : L2H.Hot1 X.A p) (h2 : p ∈ X.pn) (I3 : Inv X pins σ H3 s3) (ne : p.1 ≠ it) :
    ∀ (pins' : List (Addr × Obj)) (σ' : L2.St) (H' : Hp) (s' : Shared), Inv (X.blk s3 H3 scope ce [it]) pins' σ' H' s' → HotX.HotAt X.A p.1 s'.heap ∧ H' p.1 = none := fun pins' σ' H' s' I' => by
  obtain ⟨hh, v1, e1, c1⟩ := h1
  obtain ⟨g1, g2, g3, g4, _⟩ := I3.pin p (List.mem_append_left _ h2)
  have nfs : p.1 ∉ (X.blk s3 H3 scope ce [it]).fs := fun z => by
    rcases List.mem_cons.mp (I3.stkSub p.1 z) with z | z
    · exact g3 z
    · exact g4 z
  have nex : p.1 ∉ [it] := fun z => ne (List.mem_singleton.mp z)
  exact ⟨⟨hh, p.2, v1, I'.base.keep p.1 p.2 g1 g2 nfs nex, e1, c1⟩, I'.base.free p.1 p.2 g1 g2 nex⟩
theorem lcQ_core {pins : List (Addr × Obj)} {s : Shared} {σ : L2.St} {H : Hp} {Q : VK} {use : Option (Value → Sem Unit)} {Qf : Value → Shared → Prop}
    (hot : L2H.HotC X) (hN : X.N.Nodup) (I : Inv X pins σ H s) (hi : PIQ X tg iter wi) (ok : BlkOk X.N X.env.scope scope own)
    (hg : ∀ (s : Shared) (H : Hp) (C : Addr) (cl : List (Str × Addr)) (it : Addr), HotI (X.blk s H scope (compEnvC scope cl C X.env) [it]) → PG (X.blk s H scope (compEnvC scope cl C X.env) [it]) tg g)
    (ht : ∀ (s : Shared) (H : Hp) (C : Addr) (cl : List (Str × Addr)) (fp : List Addr), PTs (X.blk s H scope (compEnvC scope cl C X.env) fp) ifs tt)
    (he : ∀ (s : Shared) (H : Hp) (C : Addr) (cl : List (Str × Addr)) (fp : List Addr), PE (X.blk s H scope (compEnvC scope cl C X.env) fp) elt te) (hs : ∀ x, foldedSetIterable iter X.env x = pure x)
    (h : tLc wi g tt te (own.map (·.2)) σ H Q)
    (hRR : ∀ D C s' m H', Inv X pins σ H' s' → Q (.ref D) H' → s'.heap.Ns C m → FpOk X pins H' C → compPost (model X.prog X.w) X.A X.xe use Qf (.ref D) C (.ok .next) s') :
    wpAny (model X.prog X.w) X.A (comprehension (.ListComp elt [⟨tg, iter, ifs, 0⟩] scope pos) scope X.env pos' (newList []) false (eval iter X.env) use) Qf X.xe s := by
  obtain ⟨p, hp1, hp2⟩ := hot
  have hfree : ∀ y ∈ scope.names, y.2 = .free → ∃ c, X.env.cells.lookup y.1 = some c := fun y hy e =>
    (ok.free y hy e).elim (fun k => I.ok.has _ (.inl k)) fun k => I.ok.has _ (.inr k)
  refine wpAny_comprehension_free (use := use) rfl hs (closure_ok hfree) ok.kind (fun y hy e => by rw [ok.uniq y hy, e]) (thn (hi.run pins s σ H _ I h) fun xv s1 hx => thn hx fun itv s2 h2 => ?_)
  obtain ⟨it, tn, J, H2, rfl, I2, T, st2, f2, q⟩ := h2
  refine wpAny_newObj_type (newEnv_comp ?_) (by show 0 ≤ sizeLine; decide)
  generalize hD : s2.heap.objs.size = D
  have hDn : H2 D = none := I2.hok.fresh (Nat.le_of_eq hD)
  obtain ⟨W, ⟨m0, w0⟩, turn⟩ := q D hDn
  generalize hs3 : ({ s2 with heap := s2.heap.push { cls := .type "list", data := .seq ([] : List Value).toArray } } : Shared) = s3
  have h3 : s3.heap = s2.heap.push { cls := .type "list", data := .seq ([] : List Value).toArray } := by rw [← hs3]
  have I3 : Inv X pins σ (upd H2 D (.lst [])) s3 := by
    subst hs3 hD
    exact I2.laid (t' := s2.toks) (fun b o e => Heap.get?_push_of_some _ e) (Nat.le_refl _) ⟨Nat.zero_le _, [], 0, .nil, Heap.get?_push_size _ rfl⟩
  have hit : it < s2.heap.objs.size := by
    obtain ⟨o, e, _⟩ := T.obj _ _ st2
    exact Heap.lt_size e
  have f3 : FpOk X pins (upd H2 D (.lst [])) it ∧ it < s3.heap.objs.size := by
    refine ⟨⟨?_, f2.2⟩, by rw [h3, Heap.size_push]; exact Nat.lt_succ_of_lt hit⟩
    rw [upd_ne (by rw [← hD]; exact Nat.ne_of_lt hit)]
    exact f2.1
  have f3' : ∀ b ∈ [it], FpOk X pins (upd H2 D (.lst [])) b ∧ b < s3.heap.objs.size := fun b hb => by rw [List.mem_singleton.mp hb]; exact f3
  have st3 : tn 0 s3.heap := T.keep _ _ _ st2 fun o e => by rw [h3]; exact Heap.get?_push_of_some _ e
  have I4 := block_start I3 ok hN f3'
  have pg := hg s3 (upd H2 D (.lst [])) s3.heap.objs.size (cellsFrom (s3.heap.objs.size + 1) scope.names (cloFrom X.env.cells scope.names [])) it
  have pt := ht s3 (upd H2 D (.lst [])) s3.heap.objs.size (cellsFrom (s3.heap.objs.size + 1) scope.names (cloFrom X.env.cells scope.names [])) [it]
  have pe := he s3 (upd H2 D (.lst [])) s3.heap.objs.size (cellsFrom (s3.heap.objs.size + 1) scope.names (cloFrom X.env.cells scope.names [])) [it]
  show codeAny _ _ (.compStart (.ListComp elt [⟨tg, iter, ifs, 0⟩] scope pos) 0 (.ref it) (.ref D) (compEnvC scope (cellsFrom (s3.heap.objs.size + 1) scope.names (cloFrom X.env.cells scope.names [])) s3.heap.objs.size X.env)) (compPost (model X.prog X.w) X.A X.xe use Qf (.ref D) s3.heap.objs.size) { s3 with heap := pushCells (s3.heap.push { cls := .type "dict", data := .dict #[] }) scope.names }
  generalize hce : compEnvC scope (cellsFrom (s3.heap.objs.size + 1) scope.names (cloFrom X.env.cells scope.names [])) s3.heap.objs.size X.env = ce at I4 pg pt pe ⊢
  have cL : ce.locals = s3.heap.objs.size := by subst hce; rfl
  generalize hH3 : upd H2 D (.lst []) = H3 at I3 I4 pg pt pe w0 f3 f3'
  have nit : p.1 ≠ it := f3.1.2.2.2.2.2 p (List.mem_append_left _ hp2)
  have hot := hot_blk (scope := scope) (ce := ce) hp1 hp2 I3 nit
  have pg := pg fun pins' σ' H' s' I' => ⟨p.1, (hot _ _ _ _ I').1, (hot _ _ _ _ I').2, fun b hb => by rw [List.mem_singleton.mp hb]; exact nit⟩
  generalize hs4 : ({ s3 with heap := pushCells (s3.heap.push { cls := .type "dict", data := .dict #[] }) scope.names } : Shared) = s4 at I4 ⊢
  have st4 : tn 0 s4.heap := T.keep _ _ _ st3 fun o e => by rw [← hs4]; exact pushCells_keeps _ _ _ _ (Heap.get?_push_of_some _ e)
  have stat : ∀ {σ' : L2.St} {H' : Hp} {s' : Shared}, Inv (X.blk s3 H3 scope ce [it]) [] σ' H' s' → H' it = none → FpOk (X.blk s3 H3 scope ce [it]) [] H' it := fun {σ' H' s'} I' hn =>
    have hb : it ∈ [it] := List.mem_singleton.mpr rfl
    ⟨hn, (I'.ok.exf it hb).1, I'.ok.exfs it hb, .inl hb, fun x c e => (I'.ok.exf it hb).2 x c e, fun p hp => absurd (show p ∈ ([] : List (Addr × Obj)) ++ [] from hp) (by simp)⟩
  have loop : codeAny (model X.prog X.w) X.A (.compLoop (.ListComp elt [⟨tg, iter, ifs, 0⟩] scope pos) 0 (.ref it) (.ref D) ce) (compPost (model X.prog X.w) X.A X.xe use Qf (.ref D) s3.heap.objs.size) s4 := by
    refine compLoop_any (fun n s' => ∃ i H', Inv (X.blk s3 H3 scope ce [it]) [] (wipe σ (own.map (·.2))) H' s' ∧ tn i s'.heap ∧ H' it = none ∧ W i n H') ?_ m0 ⟨0, H3, I4, st4, f3.1.1, w0⟩
    rintro n s5 ⟨i, H5, I5, st5, n5, w5⟩
    rcases turn i n H5 w5 with ⟨stop, qq⟩ | ⟨go, Nx, hNx, step⟩
    · refine thnF (T.done (X.blk s3 H3 scope ce [it]) rfl rfl rfl i [] s5 _ H5 (fun _ _ => False) p.1 I5 (stat I5 n5) (hot _ _ _ _ I5).1 nit st5 stop) fun r s6 ⟨hr, I6⟩ => ?_
      subst hr
      have I7 : Inv X pins σ H5 s6 := I3.call' (ch := [it]) I6.os I6.base I6.hok I6.bare fun b hb => ⟨(f3' b hb).1.2.2.2.1, (f3' b hb).1.2.1, (f3' b hb).1.2.2.2.2.1, (f3' b hb).1.2.2.2.2.2⟩
      have nC : H5 s3.heap.objs.size = none := by rw [← cL]; exact I6.free
      obtain ⟨m, hn, _⟩ := I6.loc
      have hn : s6.heap.Ns ce.locals m := hn
      rw [cL] at hn
      exact hRR D s3.heap.objs.size s6 m H5 I7 qq hn (I3.fpOk (Nat.le_refl _) nC)
    · refine thnF (T.item (X.blk s3 H3 scope ce [it]) rfl rfl rfl i [] s5 _ H5 (fun _ _ => False) I5 (stat I5 n5) st5 go) fun r s6 ⟨u, hr, h6⟩ => ?_
      subst hr
      refine thnF h6 fun _ s7 ⟨x, H7, I7, r7, y7, st7, n7⟩ => ?_
      have I7' := I7.pinned (fp := [it]) (fun b hb => by rw [List.mem_singleton.mp hb]; exact stat I7 n7) (fun b hb => by rw [List.mem_singleton.mp hb]; exact T.obj _ _ st7)
      refine thnF (pg.run _ s7 _ H7 x u _ I7' r7 (step x H7 y7)) fun _ s8 ⟨σ8, H8, I8, hw8, q8⟩ => ?_
      refine thnF (pt.run _ s8 σ8 H8 _ I8 q8) fun b s9 ⟨H9, I9, q9⟩ => ?_
      have fin : ∀ {s' : Shared} {H' : Hp}, Inv (X.blk s3 H3 scope ce [it]) ([] ++ pinsAt [it] s7.heap) σ8 H' s' → Nx H' → ∃ m, m < n ∧ ∃ i H', Inv (X.blk s3 H3 scope ce [it]) [] (wipe σ (own.map (·.2))) H' s' ∧ tn i s'.heap ∧ H' it = none ∧ W i m H' := fun {s' H'} I' nx => by
        obtain ⟨m', hm, w'⟩ := hNx H' nx
        have pin' : ∀ o, s7.heap.get? it = some o → s'.heap.get? it = some o ∧ H' it = none := fun o e =>
          let z := I'.pin (it, o) (List.mem_append_right _ (List.mem_append_right _ (mem_pinsAt (List.mem_singleton.mpr rfl) e)))
          ⟨z.1, z.2.1⟩
        have hl : (wipe σ (own.map (·.2))).length = σ8.length := by rw [← hw8, wipe_length]
        refine ⟨m', hm, i + 1, H', (I'.unpinned (pins := [])).weak hl (fun j v e => ?_), T.keep _ _ _ st7 fun o e => (pin' o e).1, ?_, w'⟩
        · rw [← hw8] at e
          exact (wipe_some e).1
        · obtain ⟨o, e, _⟩ := T.obj _ _ st7
          exact (pin' o e).2
      cases b with
      | false =>
        simp only [Bool.false_eq_true, if_false] at q9 ⊢
        exact fin I9 q9
      | true =>
        simp only [if_true] at q9 ⊢
        refine thnF (pe.run _ s9 σ8 H9 _ I9 q9) fun z s10 ⟨yv, H10, I10, r10, acc, hD10, hz10, nx⟩ => ?_
        exact app_ok (X := X.blk s3 H3 scope ce [it]) I10 hD10 hz10 r10 fun s11 I11 => fin I11 nx
  exact codeAny_compStart_list loop (T.self X.A 0 _ _ _ st4 loop)
/-- name = [..] on one line -/
theorem ps_setLcQ {i : Nat} {y : Str} {py spos : Pos} (hot : L2H.HotC X) (hN : X.N.Nodup) (hy : X.N[i]? = some y) (hyl : X.env.scope.names.lookup y = some .local)
    (hsw : swapsWith (.ListComp elt [⟨tg, iter, ifs, 0⟩] scope pos) (some (.Name y py)) spos.line X.env = pure true) (hi : PIQ X tg iter wi) (ok : BlkOk X.N X.env.scope scope own)
    (hg : ∀ (s : Shared) (H : Hp) (C : Addr) (cl : List (Str × Addr)) (it : Addr), HotI (X.blk s H scope (compEnvC scope cl C X.env) [it]) → PG (X.blk s H scope (compEnvC scope cl C X.env) [it]) tg g)
    (ht : ∀ (s : Shared) (H : Hp) (C : Addr) (cl : List (Str × Addr)) (fp : List Addr), PTs (X.blk s H scope (compEnvC scope cl C X.env) fp) ifs tt)
    (he : ∀ (s : Shared) (H : Hp) (C : Addr) (cl : List (Str × Addr)) (fp : List Addr), PE (X.blk s H scope (compEnvC scope cl C X.env) fp) elt te) (hs : ∀ x, foldedSetIterable iter X.env x = pure x := by intro _; rfl) :
    PS X (.Assign [.Name y py] (.ListComp elt [⟨tg, iter, ifs, 0⟩] scope pos) spos) (tAsg (tLc wi g tt te (own.map (·.2))) (gName i)) := by
  refine ⟨fun pins s σ H D I h => ?_⟩
  rw [exec_Assign_Name_used _ _ _ _ hsw]
  refine wpAny_bind (wpAny_standAt (wpAny_bind ?_))
  show wpAny _ X.A (do let _ ← comprehension (.ListComp elt [⟨tg, iter, ifs, 0⟩] scope pos) scope X.env (firstIterPos [⟨tg, iter, ifs, 0⟩] pos) (newList []) false (eval iter X.env) (some (assign (.Name y py) X.env))) _ _ s
  have h : tLc wi g tt te (own.map (·.2)) σ H (fun x H1 => gName i x σ H1 D.nx) := h
  refine wpAny_bind (thn (lcQ_core (Qf := fun _ s' => L2.SP X pins D .next s') hot hN I hi ok hg ht he hs h fun L C s' m H' I' q hn f => ?_) fun _ s' hq => wpAny_pure (wpAny_pure hq))
  show wpAny _ _ (assign (.Name y py) X.env (.ref L)) _ _ _
  refine wpAny_assign_Name (store_ok2 (v := V.ref L) I' hN hy (.inl hyl) rfl (fun s2 I2 ⟨a, sb, ha⟩ => ?_) (.inr hyl))
  obtain ⟨f0, f1, f2, f3, f4, f5⟩ := f
  have haC : C ≠ a := by
    rcases ha with z | z
    · rw [z]; exact f1
    · exact fun e => f4 y a z e.symm
  exact ⟨m, hn.sameBut sb haC, fun h3 sb3 => ⟨_, H', I2.turned (t' := s2.toks) (fun b o hb e => (sb3.2 b hb).trans e) f0 f1 f3 f4 f5, q⟩⟩
end
/-! ### as a mirror -/
section
variable {L : Lx} {X : Cx} {W : WX} {elt tg iter : Expr} {fi : Fi} {p : Pat} {t : Ft} {fe : Fe} {g : TG}
abbrev EIQ (L : Lx) (X : Cx) (W : WX) (tg e : Expr) (f : Fi) : Prop := PIQ X tg e (TIm (gx L X) W f)
theorem PIQ.weak {e : Expr} {wi wi' : TI} (h : PIQ X tg e wi) (k : ∀ σ H R, wi' σ H R → wi σ H R) : PIQ X tg e wi' := ⟨fun pins s σ H R I q => h.run pins s σ H R I (k σ H R q)⟩
theorem es_setcQ {n i : Nat} {y : Str} {py : Pos} {ifs : List Expr} {scope : Scope} {own : List (Str × Nat)} {pos spos : Pos} (m : Md) (B : List Nat) (hot : L2H.HotC X) (hN : X.N.Nodup) (hi : EIQ L X W tg iter fi) (ok : BlkOk X.N X.env.scope scope own)
    (hg : ∀ (s : Shared) (H : Hp) (C : Addr) (cl : List (Str × Addr)) (it : Addr), HotI (X.blk s H scope (compEnvC scope cl C X.env) [it]) → PG (X.blk s H scope (compEnvC scope cl C X.env) [it]) tg g) (ht : ∀ (s : Shared) (H : Hp) (C : Addr) (cl : List (Str × Addr)) (fp : List Addr), PTs (X.blk s H scope (compEnvC scope cl C X.env) fp) ifs (TTm (gx L X) W0 t))
    (he : ∀ (s : Shared) (H : Hp) (C : Addr) (cl : List (Str × Addr)) (fp : List Addr), PE (X.blk s H scope (compEnvC scope cl C X.env) fp) elt (TEm (gx L X) W0 fe)) (hpat : EP1 X p g) (hv : ∀ i ∈ p.names, i ∈ own.map (·.2)) (hy : X.N[i]? = some y := by rfl) (hyl : X.env.scope.names.lookup y = some .local := by rfl)
    (hsw : swapsWith (.ListComp elt [⟨tg, iter, ifs, 0⟩] scope pos) (some (.Name y py)) spos.line X.env = pure true := by exact sw_true rfl rfl rfl (by decide +kernel)) (hs : ∀ x, foldedSetIterable iter X.env x = pure x := by intro _; rfl) :
    ES L X W (B ++ m.cells) n (.Assign [.Name y py] (.ListComp elt [⟨tg, iter, ifs, 0⟩] scope pos) spos) (sSet m n B i (eComp fi p t fe (own.map (·.2)))) :=
  PS.weak (ps_setLcQ hot hN hy hyl hsw hi ok hg ht he hs) fun D σ H h => comp_tm hpat hv σ H _ (set_tm D σ H h)
end
end Eng

set_option maxHeartbeats 2000000
namespace Eng
open PySem PySem.Spec PyProof.Rows L2
/-! ### things that no error is in -/
section
variable {G G' : Gc} {H : Hp} {T : Ts}
mutual
theorem RepV.noX (hK : G.K = G'.K) (hm : G.mg = G'.mg) (hN : G.tn = G'.tn) : ∀ {x : Val} {v : V}, RepV G H T x v → Eng.noX x = true → RepV G' H T x v
  | _, _, .non, _ => .non
  | _, _, .bl b, _ => .bl b
  | _, _, .int i, _ => .int i
  | _, _, .str l h, _ => .str l h
  | _, _, .tup h r, n => .tup (by rw [← hN]; exact h) (RepVs.noX hK hm hN r (by simpa [Eng.noX] using n))
  | _, _, .lst h na r, n => .lst h na (RepVs.noX hK hm hN r (by simpa [Eng.noX] using n))
  | _, _, .dicK h na r, n => .dicK h na (RepK.noX hK hm hN r (by simpa [Eng.noX] using n))
  | _, _, .dicT h na r, n => .dicT h na (RepT.noX hK hm hN r (by simpa [Eng.noX] using n))
  | _, _, .glb h r, _ => .glb (by rw [← hm]; exact h) r
  | _, _, .ty n, _ => .ty n
  | _, _, .seqH h na r, n => .seqH h na (RepVs.noX hK hm hN r (by simpa [Eng.noX] using n))
  | _, _, .seqK h r, n => .seqK (by rw [← hK]; exact h) (RepVs.noX hK hm hN r (by simpa [Eng.noX] using n))
  | _, _, .exn _ _ _, n => by simp [Eng.noX] at n
  | _, _, .prs h r, n => .prs h (RepVs.noX hK hm hN r (by simpa [Eng.noX] using n))
theorem RepVs.noX (hK : G.K = G'.K) (hm : G.mg = G'.mg) (hN : G.tn = G'.tn) : ∀ {x : List Val} {v : List V}, RepVs G H T x v → noXs x = true → RepVs G' H T x v
  | _, _, .nil, _ => .nil
  | _, _, .cons r t, n => by
    simp only [noXs, Bool.and_eq_true] at n
    exact .cons (RepV.noX hK hm hN r n.1) (RepVs.noX hK hm hN t n.2)
theorem RepK.noX (hK : G.K = G'.K) (hm : G.mg = G'.mg) (hN : G.tn = G'.tn) : ∀ {x : List (Val × Val)} {v : List (Key × V)}, RepK G H T x v → noXk x = true → RepK G' H T x v
  | _, _, .nil, _ => .nil
  | _, _, .cons h r s t, n => by
    simp only [noXk, Bool.and_eq_true] at n
    exact .cons h (RepV.noX hK hm hN r n.1.1) (RepV.noX hK hm hN s n.1.2) (RepK.noX hK hm hN t n.2)
theorem RepT.noX (hK : G.K = G'.K) (hm : G.mg = G'.mg) (hN : G.tn = G'.tn) : ∀ {x : List (Val × Val)} {v : List (List Key × V)}, RepT G H T x v → noXk x = true → RepT G' H T x v
  | _, _, .nil h, _ => .nil (by rw [← hN]; exact h)
  | _, _, .cons h r s t, n => by
    simp only [noXk, noX, Bool.and_eq_true] at n
    exact .cons h (RepVs.noX hK hm hN r n.1.1) (RepV.noX hK hm hN s n.1.2) (RepT.noX hK hm hN t n.2)
end
theorem RepO.noX (hK : G.K = G'.K) (hm : G.mg = G'.mg) (hN : G.tn = G'.tn) {o : SO} {a : Addr} (r : RepO G H T o a) (n : noXo o = true) : RepO G' H T o a := by
  cases r with
  | lst h r => exact .lst h (r.noX hK hm hN n)
  | dicK h r => exact .dicK h (r.noX hK hm hN n)
  | dicT h r => exact .dicT h (r.noX hK hm hN n)
theorem RepS.noX {P : Ts} {ρ : Rho} {st : Sto} (hK : G.K = G'.K) (hm : G.mg = G'.mg) (hN : G.tn = G'.tn) (hT : G.T = G'.T) (rs : RepS G H P ρ st) (n : st.all noXo = true) : RepS G' H P ρ st :=
  ⟨rs.len, rs.nd, fun l a e => by
    obtain ⟨o, e1, r⟩ := rs.obj l a e
    exact ⟨o, e1, r.noX hK hm hN (List.all_eq_true.mp n o (List.mem_of_getElem? e1))⟩, rs.dead, by rw [← hT]; exact rs.tab, rs.prv, rs.apart⟩
end
/-! the other way: nothing of the store knew an error -/
def GcEx (G : Gc) (e : Option (Addr × Str × Option Addr)) : Gc := { G with ex := e }
/-! ### isinstance(error, C) -/
def vIsG (tab : Str → Option Bool) (g : Str) : List Val → Option SV
  | [.exn c none, .glb x] => if x = g then (tab c).map fun b => .v (.bl b) else none
  | _ => none
def vIsT (tab : Str → Option Bool) (n : String) : List Val → Option SV
  | [.exn c none, .ty m] => if m = n then (tab c).map fun b => .v (.bl b) else none
  | _ => none
/-- which classes of errors are of the class cv -/
def IsE (K : PySem.W.Frag) (mg : Str → Option Value) (tab : Str → Option Bool) (cv : Value) : Prop := ∀ c b, tab c = some b → ∀ D, mg c = some (.ref D) → PySem.W.kitOne K (.ref D) cv = some b
section
variable {tn : Bool} {X : Cx} {T : List (Addr × Str)} {a D : Addr} {oe : Obj} {pn : List (Addr × Obj)} {c : Str} {tab : Str → Option Bool}
theorem cb_isG {g : Str} {C' : Addr} (C : ExcC X.K D) (hD : X.mg c = some (.ref D)) (hz : Zc (.ref D) none oe) (hf : ∃ vs, oe.data = .fields vs) (hg : X.mg g = some (.ref C')) (hi : IsE X.K X.mg tab (.ref C')) :
    CallR (X.suite a ((a, oe) :: pn)) (.builtin "isinstance") (RLm (gx ⟨T, some (a, c, none), tn⟩ (X.suite a ((a, oe) :: pn))) (vIsG tab g)) := by
  refine CallR.weak (call_isE C hz hf) fun vs H Q ⟨ρ, P, st, as, rs, nl, p⟩ => ?_
  unfold vIsG at p
  split at p
  · rename_i c' x
    split at p
    · rename_i hx
      subst hx
      obtain ⟨v, u, rfl, nx, ny⟩ := nl.two
      cases nx with
      | rep r =>
        cases r with
        | @exn _ _ a' d e h1 h2 =>
          have e : some (a, c, (none : Option Addr)) = some (a', c', d) := e
          cases e
          cases hb : tab c with
          | none => rw [hb] at p; exact p.elim
          | some b =>
            rw [hb] at p
            cases ny with
            | rep r =>
              cases r with
              | glb gm ru =>
                have gm : X.mg x = some _ := gm
                rw [hg] at gm
                cases gm
                refine ⟨u, .ref C', b, rfl, fun w hw => ?_, hi c b hb D hD, p.val rs (.bl b)⟩
                cases u <;> first | (cases ru; cases hw; rfl) | (obtain ⟨_, z⟩ := ru; cases z) | cases ru
    · exact p.elim
  · exact p.elim
theorem cb_isT {n : String} (C : ExcC X.K D) (hD : X.mg c = some (.ref D)) (hz : Zc (.ref D) none oe) (hf : ∃ vs, oe.data = .fields vs) (hi : IsE X.K X.mg tab (.type n)) :
    CallR (X.suite a ((a, oe) :: pn)) (.builtin "isinstance") (RLm (gx ⟨T, some (a, c, none), tn⟩ (X.suite a ((a, oe) :: pn))) (vIsT tab n)) := by
  refine CallR.weak (call_isE C hz hf) fun vs H Q ⟨ρ, P, st, as, rs, nl, p⟩ => ?_
  unfold vIsT at p
  split at p
  · rename_i c' m
    split at p
    · rename_i hx
      subst hx
      obtain ⟨v, u, rfl, nx, ny⟩ := nl.two
      cases nx with
      | rep r =>
        cases r with
        | @exn _ _ a' d e h1 h2 =>
          have e : some (a, c, (none : Option Addr)) = some (a', c', d) := e
          cases e
          cases hb : tab c with
          | none => rw [hb] at p; exact p.elim
          | some b =>
            rw [hb] at p
            cases ny with
            | rep r =>
              cases r with
              | ty => exact ⟨_, .type m, b, rfl, fun w hw => hw, hi c b hb D hD, p.val rs (.bl b)⟩
    · exact p.elim
  · exact p.elim
end
/-- a list, walked where an error is handled -/
theorem eiQ_lst {L : Lx} {X : Cx} {W : WX} {tg e : Expr} {fa : Fe} (ha : EE L X W e fa) : EIQ L X W tg e (iLstF fa) := by
  refine PIQ.weak (piQ_list ha) fun σ H R ⟨env, st, ρ, P, re, rs, p⟩ => ⟨env, st, ρ, P, re, rs, Post.thenI p fun z st1 v H1 k rs1 rx p => ?_⟩
  cases rx with
  | v r =>
    cases r with
    | lst h nt r => exact ⟨_, rfl, ⟨_, .inl (.inl h)⟩, p _ H1 Kp.refl rs1 (walk_lst rs1.nt h nt r)⟩
    | _ => exact p.elim
  | fl h n0 r rp np => exact ⟨_, rfl, ⟨_, .inl (.inl h)⟩, p _ H1 Kp.refl rs1 (walk_lst rs1.nt h (fun t => t.elim np (rp.apart _ (.inr rfl))) (low_vs rp r))⟩
  | fdK _ _ _ _ _ => exact p.elim
  | fdT _ _ _ _ _ => exact p.elim
  | @loc l a q =>
    obtain ⟨o, e, ro⟩ := rs1.obj l a q
    cases ro with
    | lst h r => simp only [e] at p; exact ⟨_, rfl, ⟨_, .inl (.inl h)⟩, p _ H1 Kp.refl rs1 (walk_cell q)⟩
    | dicK h r => simp only [e] at p; exact p.elim
    | dicT h r => simp only [e] at p; exact p.elim
end Eng

set_option maxHeartbeats 2000000
namespace Eng
open PySem PySem.Spec PyProof.Rows L2
/-! ### x(lambda: e), where x tells the word of the error -/
theorem extS_same {n : Nat} {ρ ρ' : Rho} {H H' : Hp} (x : ExtS [] n ρ H ρ' H') : ρ' = ρ := List.ext_getElem? fun l => x.fix l fun _ h => by cases h
abbrev gw (X : Cx) (L : Lx) (b : Addr) (c : Str) : Gc := ⟨X.K, X.mg, L.T, some (b, c, none), L.tn⟩
/-- only a return -/
abbrev onlyRt (Q : VK) : Ends := { nx := fun _ _ => False, rt := Q }
/-- what is told -/
def TTw (X : Cx) (L : Lx) (mt : Str → Option Bool) (Ng : List Str) (i : Nat) (su af : Nat → Fs) : (XK → Hp → VK → Prop) → Hp → VK → Prop := fun tl H Q => ∀ f : Addr,
  tl (fun cls d H' => ∃ (n : Nat) (c : Str) (C : Addr), X.mg c = some (.ref C) ∧ cls = .ref C ∧ d = none ∧ mt c = some true ∧ ∀ b : Addr, H' b = none → TSm (gw X L b c) W0 [] n (su n) (onlyRt Q) ((L2.start Ng [V.ref f]).set i (some (.ref b))) H')
    H fun _ H' => ∃ n, TSm (gx L X) W0 [] n (af n) { nx := fun _ H' => Q .non H', rt := Q } (L2.start Ng [V.ref f]) H'
theorem TSm.ends {G : Gc} {W : WX} {B : List Nat} {n : Nat} {f : Fs} {D D' : Ends} {σ : L2.St} {H : Hp} (h : TSm G W B n f D σ H) (hn : ∀ σ H, D.nx σ H → D'.nx σ H) (hr : ∀ v H, D.rt v H → D'.rt v H) : TSm G W B n f D' σ H := by
  obtain ⟨env, st, ρ, P, re, rs, p⟩ := h
  refine ⟨env, st, ρ, P, re, rs, ?_⟩
  cases hf : f env st with
  | nx e s => rw [hf] at p; exact fun σ' H' ρ' a b c => hn _ _ (p σ' H' ρ' a b c)
  | rt z s => rw [hf] at p; exact fun v H' ρ' a b c => hr _ _ (p v H' ρ' a b c)
  | exc e e2 s => rw [hf] at p; exact p
  | bad => rw [hf] at p; exact p
section
variable {X : Cx} {L : Lx}
theorem word_gives {Ng : List Str} {x a e q nm : Str} {sg : Scope} {g CS : Addr} {cdg : Value} {i : Nat} {mt : Str → Option Bool} {su af : Nat → Fs} {b0 : Stmt} {suite rest : List Stmt} {p1 p2 p3 p4 p7 p8 : Pos} (hN : Ng.Nodup) (hi : Ng[i]? = some nm) (hln : sg.names.lookup nm = some .local)
    (hge : sg.names.lookup e = some .globalImplicit) (hme : X.mg e = some (.ref CS)) (hde : (e == ("__debug__" : Str)) = false) (hM : Catch X.K X.mg CS mt)
    (h0 : ∀ f : Addr, (L2.start Ng [V.ref f])[0]? = some (some (V.ref f)))
    (hsu : ∀ (s0 : Shared) (H : Hp) (b : Addr) (oe : Obj) (pn : List (Addr × Obj)) (c : Str) (C : Addr) (n : Nat), Room 0 (X.A.deeper (envOfC x sg s0.heap.objs.size g cdg)) → X.mg c = some (.ref C) → mt c = some true → L2N.Zn (.ref C) none oe → (∃ vs, oe.data = .fields vs) →
      PSs ((cxOf C8.CX0 X.prog X.w X.K X.mg X.base Ng x sg g cdg X.A X.stack s0 H C8.E0).nox.suite b ((b, oe) :: pn)) (b0 :: suite) (TSm (gw X L b c) W0 [] n (su n)))
    (hre : ∀ (s0 : Shared) (H : Hp) (n : Nat), Room 0 (X.A.deeper (envOfC x sg s0.heap.objs.size g cdg)) → PSs (cxOf C8.CX0 X.prog X.w X.K X.mg X.base Ng x sg g cdg X.A X.stack s0 H C8.E0).nox rest (TSm (gx L X) W0 [] n (af n))) :
    GivesN X Ng x sg g cdg (.Try [.Expr (.Call (.Name a p1) [] [] p2) p3] [.ExceptHandler (some (.Name e p4)) (some nm) (b0 :: suite) p7] [] [] p8 :: rest) a q (TTw X L mt Ng i su af) := by
  intro f c' s H Q tl act hr hc h
  have hgl : Gl (cxOf C8.CX0 X.prog X.w X.K X.mg X.base Ng x sg g cdg X.A X.stack s H C8.E0).nox e := hge
  have body : ∀ (W : WX) (pn : List (Addr × Obj)) (xe : Value → Shared → Prop), L2N.Takes ((cxOf C8.CX0 X.prog X.w X.K X.mg X.base Ng x sg g cdg X.A X.stack s H C8.E0).nox.tr pn xe) W →
      PSs ((cxOf C8.CX0 X.prog X.w X.K X.mg X.base Ng x sg g cdg X.A X.stack s H C8.E0).nox.tr pn xe) [.Expr (.Call (.Name a p1) [] [] p2) p3]
        (fun D σ H => ∃ Ech : XK, (∀ cls d H', Ech cls d H' → W cls d σ H') ∧ σ[0]? = some (some (.ref f)) ∧ H c' = some (LamX.CodeO c' q) ∧ tl Ech H fun _ H' => D.nx σ H') := fun W pn xe tk => by
    refine ⟨fun pins s' σ H' D I h' => ?_⟩
    obtain ⟨Ech, hW, h1, h2, h3⟩ := h'
    exact (pss_one (ps_expr (pos := p3) (act W pn xe Ech p1 p2 tk) rfl)).run pins s' σ H' D I ⟨h1, h2, hW, h3⟩
  have rst : PSs (cxOf C8.CX0 X.prog X.w X.K X.mg X.base Ng x sg g cdg X.A X.stack s H C8.E0).nox rest (fun D σ H => ∃ n, TSm (gx L X) W0 [] n (af n) D σ H) :=
    ⟨fun pins s' σ H' D I ⟨n, h'⟩ => (hre s H n hr).run pins s' σ H' D I h'⟩
  refine ⟨_, pss_cons (L2N.ps_try_as (Wout := W0) (ts := fun b cls d D σ H' => ∃ (n : Nat) (c : Str) (C : Addr), X.mg c = some (.ref C) ∧ cls = .ref C ∧ d = none ∧ mt c = some true ∧ TSm (gw X L b c) W0 [] n (su n) D σ H') rfl rfl hN hi hln ⟨hgl, hde, .inl hme⟩ takesO (fun W pn xe tk _ => body W pn xe tk) fun b oe cls d pn hz hf => ?_) rst, ?_⟩
  · refine ⟨fun pins s' σ H' D I ⟨n, c, C, hC, hcl, hd, hmc, h'⟩ => ?_⟩
    subst hcl hd
    exact (hsu s H b oe pn c C n hr hC hmc hz hf).run pins s' σ H' D I h'
  · refine ⟨_, fun cls d H' z => ?_, h0 f, hc, h f⟩
    obtain ⟨n, c, C, hC, hcl, hd, hmc, h'⟩ := z
    refine ⟨true, hM c true hmc cls (by rw [hcl]; exact hC), fun _ b hb => ⟨n, c, C, hC, hcl, hd, hmc, (h' b hb).ends (fun _ _ z => z.elim) fun _ _ z => z⟩, fun z => nomatch z⟩
variable {W : WX}
theorem ee_word {x a e nm : Str} {g c Pt CS : Addr} {fd : FuncData} {k i : Nat} {s : Stmt} {Ng : List Str} {params : Arguments} {body : Expr} {scope : Scope} {fe : Fe} {mt : Str → Option Bool} {su af : Nat → Fs} {b0 : Stmt} {suite rest : List Stmt} {p lpos pos : Pos} {p1 p2 p3 p4 p7 p8 : Pos}
    (F : L2.Fun X.K x x s g fd) (hs : defBody s = .Try [.Expr (.Call (.Name a p1) [] [] p2) p3] [.ExceptHandler (some (.Name e p4)) (some nm) (b0 :: suite) p7] [] [] p8 :: rest)
    (hi : Ng[i]? = some nm) (hln : (defScope s).names.lookup nm = some .local) (hge : (defScope s).names.lookup e = some .globalImplicit) (hme : X.mg e = some (.ref CS)) (hM : Catch X.K X.mg CS mt) (hcl : ∀ c, mt c = some true → ∃ C : Addr, X.mg c = some (.ref C))
    (hsu : ∀ (s0 : Shared) (H : Hp) (b : Addr) (oe : Obj) (pn : List (Addr × Obj)) (c : Str) (C : Addr) (n : Nat), Room 0 (X.A.deeper (envOfC x (defScope s) s0.heap.objs.size g fd.code)) → X.mg c = some (.ref C) → mt c = some true → L2N.Zn (.ref C) none oe → (∃ vs, oe.data = .fields vs) →
      ESs ⟨L.T, some (b, c, none), L.tn⟩ ((cxOf C8.CX0 X.prog X.w X.K X.mg X.base Ng x (defScope s) g fd.code X.A X.stack s0 H C8.E0).nox.suite b ((b, oe) :: pn)) W0 [] n (b0 :: suite) (su n))
    (hre : ∀ (s0 : Shared) (H : Hp) (n : Nat), Room 0 (X.A.deeper (envOfC x (defScope s) s0.heap.objs.size g fd.code)) → ESs L (cxOf C8.CX0 X.prog X.w X.K X.mg X.base Ng x (defScope s) g fd.code X.A X.stack s0 H C8.E0).nox W0 [] n rest (af n))
    (hg : Gl X x) (hm : X.mg x = some (.ref g)) (hk : PySem.W.keepIn X.K (.ref g) = true) (hb : L2.Binds X.K fd [a] []) (Sg : FnScope Ng [a] (defScope s)) (hNg : Ng[0]? = some a) (hva : Vis (defScope s) a)
    (TB : LamX.TabB X.base X.mg c Pt) (hcode : X.env.code = .ref c) (hmT : (Pt, X.env.qual ++ "<lambda>") ∈ L.T) (hu : ∀ p ∈ L.T, p.1 = Pt → p.2 = X.env.qual ++ "<lambda>") (hr : Room (k + 2) X.A) (LS : LamX.lamSB X.env.scope scope = true) (hdef : defaultsOf params X.env = ([], []))
    (hbind : ∀ (q : Str) (cl : List (Str × Addr)) (pm cv ctv : Value), bindArgs (PySem.W.kla_fn "<lambda>" q params body scope cl pm cv ctv) ⟨[], []⟩ = pure [])
    (hbody : ∀ (A : Around) (outer : List PySem.Env) (s : Shared) (H : Hp) (E : XK) (f c' : Addr), Room k (A.deeper (LamX.lamEnv X scope s.heap.objs.size f c')) → EE L (lamCxN X A outer s H E scope f c') (WF E) body fe)
    (hde : (e == ("__debug__" : Str)) = false := by decide) (hdb : (x == ("__debug__" : Str)) = false := by decide) (hd : (a == ("__debug__" : Str)) = false := by decide) (hcd : (a == ("__classdict__" : Str)) = false := by decide) :
    EE L X W (.Call (.Name x p) [.Lambda params body scope lpos] [] pos) (eWord Ng.length i mt su af fe) := by
  obtain ⟨oc, od, kV, doc, pm, an, cdv, ct, osl, rfl, lk, hcg⟩ := F.ex
  have hN0 : 1 ≤ Ng.length := by
    have := (List.getElem?_eq_some_iff.mp hNg).1
    omega
  have h0 : ∀ f : Addr, (L2.start Ng [V.ref f])[0]? = some (some (V.ref f)) := fun f => rfl
  have hlen : ∀ f : Addr, (L2.start Ng [V.ref f]).length = Ng.length := fun f => by
    unfold L2.start
    simp
    omega
  rw [hs] at lk hb
  refine PE.weak (pe_lamN (T := L.T) (t := fun E => TEm (gx L X) (WF E) fe) hg hm hk lk hcg hb Sg hNg hva (word_gives Sg.nd hi hln hge hme hde hM h0 hsu hre) TB hcode hmT hu hr (LamX.lamS_by LS) hdef hbind hbody hdb hd hcd) fun σ H Q ⟨env, st, ρ, P, re, rs, q⟩ => ?_
  refine ⟨rs.tab, fun H1 eN T1 f => ?_⟩
  have k1 : Kp (Tr ρ) H (Tr ρ) H1 := kp_extN eN
  refine ⟨env, st, ρ, P, re.ext k1 rs, rs.extN eN T1, ?_⟩
  unfold eWord at q
  cases h : fe env st with
  | bad => rw [h] at q; exact q.elim
  | ok z st' =>
    rw [h] at q
    simp only at q
    refine fun v H' k rs' _ => ⟨st'.length, List.replicate Ng.length none, st', ρ, P, ⟨by rw [List.length_replicate, hlen], fun j z e => by rw [List.getElem?_replicate] at e; split at e <;> cases e⟩, rs', ?_⟩
    cases ha : af st'.length (List.replicate Ng.length none) st' with
    | rt z st2 =>
      rw [ha] at q
      cases z with
      | v y =>
        simp only at q
        split at q
        · intro v2 H2 ρ2 x2 rs2 rx2
          have eρ := extS_same x2
          subst eρ
          cases rx2 with
          | v r => exact q v2 H2 ((k1.trans k).trans x2.kp) rs2 (.v r)
        · exact q.elim
      | _ => exact q.elim
    | _ => rw [ha] at q; exact q.elim
  | exc ex st' =>
    rw [h] at q
    simp only at q
    split at q
    · rename_i hmt harg
      split at q
      · rename_i hst
        refine fun cls d H' k rs' rx => ?_
        obtain ⟨C, hC⟩ := hcl _ hmt
        obtain ⟨r1, r2⟩ := rx
        have r1 : X.mg ex.cls = some cls := r1
        rw [hC] at r1
        cases r1
        rw [harg] at r2
        refine ⟨st'.length, ex.cls, C, hC, rfl, r2, hmt, fun b hb => ?_⟩
        have hil : i < Ng.length := (List.getElem?_eq_some_iff.mp hi).1
        refine ⟨(List.replicate Ng.length none).set i (some (.v (.exn ex.cls none))), st', ρ, P, ⟨by rw [List.length_set, List.length_set, List.length_replicate, hlen], fun j z e => ?_⟩, RepS.noX (G := gx L X) (G' := gw X L b ex.cls) rfl rfl rfl rfl rs' hst, ?_⟩
        · rw [List.getElem?_set] at e
          split at e
          · rename_i hij
            subst hij
            split at e
            · cases e
              refine ⟨.ref b, by rw [List.getElem?_set_self (by rw [hlen]; exact hil)], .v (.exn rfl (fun _ => rfl) fun _ z => nomatch z)⟩
            · cases e
          · rw [List.getElem?_replicate] at e
            split at e <;> cases e
        · cases hsq : su st'.length ((List.replicate Ng.length none).set i (some (.v (.exn ex.cls none)))) st' with
          | rt z st2 =>
            rw [hsq] at q
            cases z with
            | v y =>
              simp only at q
              split at q
              · rename_i hn
                simp only [Bool.and_eq_true] at hn
                intro v2 H2 ρ2 x2 rs2 rx2
                have eρ := extS_same x2
                subst eρ
                cases rx2 with
                | v r => exact q v2 H2 ((k1.trans k).trans x2.kp) (RepS.noX (G := gw X L b ex.cls) (G' := gx L X) rfl rfl rfl rfl rs2 hn.2) (.v (RepV.noX (G := gw X L b ex.cls) (G' := gx L X) rfl rfl rfl r hn.1))
              · exact q.elim
            | _ => exact q.elim
          | _ => rw [hsq] at q; exact q.elim
      · exact q.elim
    · exact q.elim
end
/-! ### the facts of a module's error classes, from its rows -/
section
variable {K : PySem.W.Frag} {mg : Str → Option Value} {l : List (Str × Bool)}
theorem look_mem {c : Str} {b : Bool} : ∀ {l : List (Str × Bool)}, l.lookup c = some b → (c, b) ∈ l
  | [], h => by simp at h
  | (x, y) :: l, h => by
    rw [List.lookup_cons] at h
    split at h
    · rename_i e
      cases h
      rw [eq_of_beq e]
      exact List.mem_cons_self
    · exact List.mem_cons_of_mem _ (look_mem h)
theorem cat_mk {C : Addr} (h1 : PySem.W.subIn K (.ref C) (.type "BaseException") = some true) (hd : PySem.W.hasDictIn K C = true) (ht : PySem.W.typeIn K (.ref C) = some (.type "type")) (h : ∀ p ∈ l, ∃ D : Addr, mg p.1 = some (.ref D) ∧ PySem.W.subIn K (.ref D) (.ref C) = some p.2) :
    Catch K mg C (fun x => l.lookup x) := fun x b e cls hc => by
  obtain ⟨D, d1, d2⟩ := h _ (look_mem e)
  rw [hc] at d1
  cases d1
  exact PySem.W.exm_ref h1 hd ht d2
theorem cls_mk (h : ∀ p ∈ l, ∃ D : Addr, mg p.1 = some (.ref D)) : ∀ c, (fun x : Str => l.lookup x) c = some true → ∃ D : Addr, mg c = some (.ref D) := fun c e => h _ (look_mem e)
theorem exc_mk (h : ∀ p ∈ l, ∃ D : Addr, mg p.1 = some (.ref D) ∧ ExcC K D) : ∀ (c : Str) (D : Addr), (fun x : Str => l.lookup x) c = some true → mg c = some (.ref D) → ExcC K D := fun c D e hc => by
  obtain ⟨D', d1, d2⟩ := h _ (look_mem e)
  have d1 : mg c = some (.ref D') := d1
  rw [hc] at d1
  cases d1
  exact d2
theorem ise_mk {cv : Value} (h : ∀ p ∈ l, ∃ D : Addr, mg p.1 = some (.ref D) ∧ PySem.W.kitOne K (.ref D) cv = some p.2) : IsE K mg (fun x => l.lookup x) cv := fun c b e D hc => by
  obtain ⟨D', d1, d2⟩ := h _ (look_mem e)
  rw [hc] at d1
  cases d1
  exact d2
end
theorem hot_of {X : Cx} {b : Addr} {oe : Obj} {pn : List (Addr × Obj)} {cls : Value} {d : Option Addr} (hz : L2N.Zn cls d oe) (hf : ∃ vs, oe.data = .fields vs) : L2H.HotC (X.suite b ((b, oe) :: pn)) := by
  obtain ⟨vs, e⟩ := hf
  exact ⟨(b, oe), ⟨rfl, vs, e, hz.2.2 vs e⟩, List.mem_cons_self⟩
def suOf : List Stmt → List Stmt
  | .Try _ [.ExceptHandler _ _ b _] _ _ _ :: _ => b
  | _ => []
def afOf : List Stmt → List Stmt
  | _ :: r => r
  | [] => []
theorem tab_mk {K : PySem.W.Frag} {x : Str} {f c P : Addr} {oc oc2 : Value} {od od2 : Option Addr} {sl sl2 : Array (Option Value)} {fd : FuncData} {vs : Array Value} (a : PySem.W.nsIn K mainGlobals x = some (some (.ref f))) (l : K.lookup f = some ⟨oc, od, .func fd, sl⟩) (hc : fd.code = .ref c)
    (lc : K.lookup c = some ⟨oc2, od2, .fields vs, sl2⟩) (hv : vs[11]? = some (.ref P)) : PySem.W.tabIn K x = some (c, P) := by
  unfold PySem.W.tabIn
  rw [a]
  simp only [l, hc, lc, hv]
end Eng

set_option maxHeartbeats 2000000
namespace Eng
open PySem PySem.Spec PyProof.Rows L2
/-! ### xs[::-1], a tuple or a list -/
theorem adj_rev (n : Nat) : Builtin.Slice.sliceAdjust none none (-1) (n : Int) = ((n : Int) - 1, -1) := by
  unfold Builtin.Slice.sliceAdjust
  simp
theorem places_rev (n : Nat) : Builtin.Slice.slicePlaces ((n : Int) - 1) (-1) (-1) = n := by
  unfold Builtin.Slice.slicePlaces
  have h1 : ¬ ((-1 : Int) > 0) := by omega
  simp only [h1, if_false]
  split <;> simp <;> omega
theorem pick_rev (xs : Array Value) : ((List.range xs.size).filterMap fun (k : Nat) => xs[((xs.size : Int) - 1 + (k : Int) * (-1)).toNat]?) = xs.toList.reverse := by
  have e : ∀ k ∈ List.range xs.size, xs[((xs.size : Int) - 1 + (k : Int) * (-1)).toNat]? = some (xs.toList.reverse.getD k .none) := fun k hk => by
    have hk : k < xs.size := List.mem_range.mp hk
    have e1 : ((xs.size : Int) - 1 + (k : Int) * (-1)).toNat = xs.size - 1 - k := by omega
    rw [e1, ← Array.getElem?_toList, List.getD_eq_getElem?_getD, List.getElem?_reverse (by simpa using hk), Array.length_toList, List.getElem?_eq_getElem (by simp; omega)]
    rfl
  have go : ∀ (f : Nat → Option Value) (g : Nat → Value) (l : List Nat), (∀ k ∈ l, f k = some (g k)) → l.filterMap f = l.map g := fun f g l => by
    induction l with
    | nil => intro _; rfl
    | cons k l ih =>
      intro h
      rw [List.filterMap_cons, h k List.mem_cons_self, List.map_cons, ih fun k hk => h k (List.mem_cons_of_mem _ hk)]
  rw [go _ _ _ e]
  refine List.ext_getElem? fun j => ?_
  rw [List.getElem?_map]
  by_cases hj : j < xs.size
  · rw [List.getElem?_range hj, Option.map_some, List.getD_eq_getElem?_getD, List.getElem?_eq_getElem (by simpa using hj)]
    rfl
  · rw [List.getElem?_eq_none (by simpa using hj), List.getElem?_eq_none (by simpa using hj)]
    rfl
section
variable {prog : Program} {w : World} {A : Around} {E : Value → Shared → Prop} {s : Shared}
theorem tuple_rev {t sl : Addr} {items : Array Value} {k : Tok} {Q : Value → Shared → Prop} (ht : IsTup s.heap t items) (hs : s.heap.IsSliceOf sl .none .none (.int (-1) k))
    (h : Q (.ref s.heap.objs.size) { s with heap := s.heap.push { cls := .type "tuple", data := .seq items.toList.reverse.toArray } }) (hsz : items.size ≤ sizeLine) : wpAny (model prog w) A (getItem (.ref t) (.ref sl)) Q E s := by
  have hto : sizeOk (.seq items.toList.reverse.toArray) := by
    show items.toList.reverse.toArray.size ≤ sizeLine
    simpa using hsz
  obtain ⟨os, hos, hcs, hds⟩ := id hs
  have hTs : s.TypeIs (.ref sl) "slice" := ⟨os, hos, hcs⟩
  unfold getItem
  try with_reducible refine wpAny_holding ?_
  first | refine wpAny_bind (wpAny_pure ?_) | skip
  refine wpAny_bind (wpAny_sequenceKey ht.typeIs (by decide) (wpAny_bind (wpAny_callSpecial?_slot (name := Str.ofString "__getitem__") ht.typeIs PyProof.Rows.slot_tuple_getitem (wpAny_call_entry PyProof.Rows.slot_tuple_getitem ht.typeIs entry_tuple_getitem ?_ (args_tuple_getitem _ _)))))
  show wpAny _ _ (Builtin.Tuple.tupleItemsOf (.ref t) >>= _) _ _ s
  refine wpAny_bind (tupleItemsOf_ ht (wpAny_bind (wpAny_typeOf hTs ?_)))
  rw [if_pos (by decide)]
  have ap : ∀ {R : Int × Int × Nat → Shared → Prop} {A' : Around} {E' : Value → Shared → Prop}, R ((items.size : Int) - 1, -1, items.size) s → wpAny (model prog w) A' (Builtin.Slice.sliceApplied (.ref sl) (pure (items.size : Int))) R E' s := fun {R A' E'} hr => by
    unfold Builtin.Slice.sliceApplied Builtin.Slice.sliceFields
    refine wpAny_bind (wpAny_bind (wpAny_field hos hds (x := .none) rfl (wpAny_bind (wpAny_field hos hds (x := .none) rfl (wpAny_bind (wpAny_field hos hds (x := .int (-1) k) rfl (wpAny_pure ?_)))))))
    refine wpAny_bind (HT.slicePart_ (.int (-1) k) ?_)
    show wpAny _ _ (if ((-1 : Int) == 0) = true then _ else _) _ _ s
    rw [if_neg (by decide)]
    refine wpAny_bind (HT.slicePart_ .none (wpAny_bind (HT.slicePart_ .none (wpAny_bind (wpAny_pure ?_)))))
    show wpAny _ _ (match Builtin.Slice.sliceAdjust none none (-1) (items.size : Int) with | (lo, hi) => pure (lo, (-1 : Int), Builtin.Slice.slicePlaces lo hi (-1))) _ _ s
    rw [adj_rev]
    show wpAny _ _ (pure ((items.size : Int) - 1, (-1 : Int), Builtin.Slice.slicePlaces ((items.size : Int) - 1) (-1) (-1))) _ _ s
    rw [places_rev]
    exact wpAny_pure hr
  refine wpAny_bind (ap ?_)
  have hno : ¬ (((items.size : Int) - 1 == 0 && (-1 : Int) == 1 && items.size == items.size) = true) := by simp
  show wpAny _ _ (if ((items.size : Int) - 1 == 0 && (-1 : Int) == 1 && items.size == items.size) = true then _ else _) _ _ s
  rw [if_neg hno, pick_rev]
  first
    | exact wpAny_bind (m := Builtin.Tuple.tupleExact _) (wpAny_newObj_type (wpAny_pure ⟨_, rfl, wpAny_pure h⟩) hto)
    | exact wpAny_bind (m := Builtin.Tuple.tupleExact _) (wpAny_newObj_type (wpAny_bind (wpAny_pure (wpAny_pure ⟨_, rfl, wpAny_pure h⟩))) hto)
    | exact wpAny_bind (wpAny_bind (m := Builtin.Tuple.tupleExact _) (wpAny_newObj_type (wpAny_pure (wpAny_pure ⟨_, rfl, wpAny_pure h⟩)) hto))
    | exact wpAny_bind (wpAny_bind (m := Builtin.Tuple.tupleExact _) (wpAny_newObj_type (wpAny_pure ⟨_, rfl, wpAny_pure h⟩) hto))
end
def tRevT (K : PySem.W.Frag) (te : TE) : TE := fun σ H Q => te σ H fun x H1 => ∃ a xs, x = .ref a ∧ SqT K H1 a xs ∧ ∀ p, H1 p = none → Q (.ref p) (upd H1 p (.tup xs.reverse))
section
variable {X : Cx}
theorem pe_revT {e : Expr} {te : TE} {k : Nat} {p1 p2 p3 pos : Pos} (he : PE X e te) : PE X (.Subscript e (.Slice none none (some (.UnaryOp .USub (.Constant (.int 1) k p1) p2)) p3) pos) (tRevT X.K te) := by
  refine ⟨fun pins s σ H Q I h => ?_⟩
  refine Subscript_ (thn (he.run pins s σ H _ I h) fun v s1 ⟨x, H1, I1, r1, a, xs, ex, hx, q⟩ => ?_)
  subst ex
  cases r1
  have hst : PO X (some (.UnaryOp .USub (.Constant (.int 1) k p1) p2)) (tPart (tUn (rU fun i => .int (-i)) (tC (.int 1)))) := po_some (pe_un un_neg pe_int)
  refine wpAny_Slice (thn (po_none.run pins s1 σ H1 (fun o H2 => o = none ∧ H2 = H1) I1 ⟨rfl, rfl⟩) fun vl s2 ⟨l, H2, I2, pl, el, e2⟩ => ?_)
  subst el e2
  refine thn (po_none.run pins s2 σ H2 (fun o H3 => o = none ∧ H3 = H2) I2 ⟨rfl, rfl⟩) fun vu s3 ⟨u, H3, I3, pu, eu, e3⟩ => ?_
  subst eu e3
  refine thn (hst.run pins s3 σ H3 (fun o H4 => o = some (-1) ∧ H4 = H3) I3 ⟨1, rfl, -1, rfl, rfl, rfl⟩) fun vs s4 ⟨o, H4, I4, ps, eo, e4⟩ => ?_
  subst eo e4
  cases pl; cases pu
  obtain ⟨tk, rfl⟩ : ∃ tk, vs = .int (-1) tk := by
    cases ps
    exact ⟨_, rfl⟩
  have I5 : L2.Inv X pins σ H4 { s4 with heap := s4.heap.push { cls := .type "slice", data := .fields #[.none, .none, .int (-1) tk] } } := I4.kept (t' := s4.toks) fun b ob q => Heap.get?_push_of_some _ q
  obtain ⟨its, r, ht, hz⟩ := I5.tuple hx
  have hlen := r.length
  show wpAny (model X.prog X.w) X.A (subscriptTail e (.Slice none none (some (.UnaryOp .USub (.Constant (.int 1) k p1) p2)) p3) (.ref a) (.ref s4.heap.objs.size)) (L2.EP X pins σ Q) X.xe { s4 with heap := s4.heap.push { cls := .type "slice", data := .fields #[.none, .none, .int (-1) tk] } }
  refine tail_any (ops := [.ref a, .ref s4.heap.objs.size]) ht.typeIs (PyProof.Rows.slot_tuple_getitem.lookup) ?_ (by with_unfolding_all rfl)
  refine tuple_rev ht (Heap.IsSliceOf.new _ .none .none (.int (-1) tk)) ?_ (by rw [List.size_toArray]; omega)
  refine ⟨.ref _, _, I5.laid (t' := s4.toks) (o := .tup xs.reverse) (fun b ob q => Heap.get?_push_of_some _ q) (Nat.le_refl _) ?_, rfl, q _ (I5.hok.fresh (Nat.le_refl _))⟩
  exact ⟨by rw [List.length_reverse]; exact hz, _, r.reverse, IsTup.new _ _⟩
end
/-! as a mirror -/
def vRev : Val → Option SV
  | .tup xs => some (.v (.tup xs.reverse))
  | .lst xs => some (.fl xs.reverse)
  | _ => none
theorem RepVs.reverse {G : Gc} {H : Hp} {T : Ts} : ∀ {xs : List Val} {vs : List V}, RepVs G H T xs vs → RepVs G H T xs.reverse vs.reverse
  | _, _, .nil => .nil
  | _, _, .cons r t => by
    rw [List.reverse_cons, List.reverse_cons]
    exact RepVs.append (RepVs.reverse t) (.cons r .nil)
theorem pe_or {X : Cx} {e : Expr} {t t' : TE} (h : PE X e t) (h' : PE X e t') : PE X e (fun σ H Q => t σ H Q ∨ t' σ H Q) := ⟨fun pins s σ H Q I q => q.elim (h.run pins s σ H Q I) (h'.run pins s σ H Q I)⟩
theorem ee_rev {L : Lx} (htn : L.tn = false) {X : Cx} {W : WX} {e : Expr} {fa : Fe} {k : Nat} {p1 p2 p3 pos : Pos} (ha : EE L X W e fa) : EE L X W (.Subscript e (.Slice none none (some (.UnaryOp .USub (.Constant (.int 1) k p1) p2)) p3) pos) (e1 vRev fa) := by
  refine PE.weak (pe_or (pe_revL ha) (pe_revT ha)) fun σ H Q ⟨env, st, ρ, P, re, rs, q⟩ => ?_
  have q : Post (gx L X) W σ P ρ H ((fa env st).bind fun x st1 => outO ((x.val st1).bind vRev) st1) Q := q
  cases hf : fa env st with
  | bad => rw [hf] at q; exact q.elim
  | exc ex s => exact .inl ⟨env, st, ρ, P, re, rs, by rw [hf] at q ⊢; exact q⟩
  | ok z st1 =>
    have q' := q
    rw [hf] at q
    have q : Post (gx L X) W σ P ρ H (outO ((z.val st1).bind vRev) st1) Q := q
    cases hv : z.val st1 with
    | none => rw [hv] at q; exact q.elim
    | some y =>
      rw [hv] at q
      have nowL : ∀ {v : V} {H1 : Hp}, RepS (gx L X) H1 P ρ st1 → RepX (gx L X) H H1 P ρ st1 z v → Now (gx L X) H1 (TP P ρ) y v := fun rs1 rx => rx.now rs1 hv
      cases y with
      | tup xs =>
        refine .inr ⟨env, st, ρ, P, re, rs, ?_⟩
        rw [hf]
        intro v H1 k1 rs1 rx
        have q := POp.of (Post.step k1 q)
        cases nowL rs1 rx with
        | rep r =>
          cases r with
          | @tup _ vs a h r => exact ⟨a, vs, rfl, h.sq, fun p hp => POp.tupF htn q rs1 hp r.reverse⟩
      | lst xs =>
        refine .inl ⟨env, st, ρ, P, re, rs, ?_⟩
        rw [hf]
        intro v H1 k1 rs1 rx
        have q := POp.of (Post.step k1 q)
        obtain ⟨a, vs, rfl, h, r⟩ := (nowL rs1 rx).lstOf
        exact ⟨a, vs, rfl, .inl (.inl h), fun p hp => POp.lst q rs1 hp r.reverse⟩
      | _ => exact q.elim
end Eng

namespace Eng
open PySem PySem.Spec PyProof.Rows L2

/-! ### zip of two texts -/
/-- the pairs of the signs of two texts -/
def ItzS (x y : Str) : It :=
  ⟨fun i _ => ∃ c d, x.cps[i]? = some c ∧ y.cps[i]? = some d,
   fun i H v H' => ∃ (T : Addr) (c d : Nat), v = .ref T ∧ H T = none ∧ H' = upd H T (.tup [.str ⟨#[c]⟩, .str ⟨#[d]⟩]) ∧ x.cps[i]? = some c ∧ y.cps[i]? = some d,
   fun i _ => x.cps.size ≤ i ∨ y.cps.size ≤ i⟩
theorem turn_zipS {P : Program} {w : World} {K : PySem.W.Frag} {elts : List Expr} {kk : Nat} {tpos : Pos} {x y : Str} {tx ty : Tok} {z TI TO i1 i2 : Addr} (S : ZipSep2 z TI TO i1 i2 [i1] [i2]) :
    Turn P w K (.Tuple elts kk tpos) (ItzS x y) [z, TI, TO, i1, i2] z (fun i h => (IsZip h z TI TO .none ∧ IsTupOf2 h TI (.ref i1) (.ref i2) ∧ ∃ a b, IsTupOf2 h TO a b) ∧ (h.IsStrIter i1 (strIterType x) x tx i ∧ h.IsStrIter i2 (strIterType y) y ty i) ∧ i ≤ x.cps.size ∧ i ≤ y.cps.size) where
  mem := by simp
  obj := fun i h st c hc => by
    obtain ⟨⟨hz, hI, a, b, hO⟩, ⟨⟨o1, e1, _, d1⟩, o2, e2, _, d2⟩, _⟩ := st
    simp only [List.mem_cons, List.not_mem_nil, or_false] at hc
    rcases hc with rfl | rfl | rfl | rfl | rfl
    · exact ⟨_, hz, fun v q => by cases q⟩
    · exact ⟨_, hI, fun v q => by cases q⟩
    · exact ⟨_, hO, fun v q => by cases q⟩
    · exact ⟨o1, e1, fun v q => by rw [d1] at q; cases q⟩
    · exact ⟨o2, e2, fun v q => by rw [d2] at q; cases q⟩
  keep := fun i h h' st k => by
    obtain ⟨⟨hz, hI, a, b, hO⟩, ⟨⟨o1, e1, r1⟩, o2, e2, r2⟩, hn⟩ := st
    exact ⟨⟨k _ (by simp) _ hz, k _ (by simp) _ hI, a, b, k _ (by simp) _ hO⟩, ⟨⟨o1, k _ (by simp) _ e1, r1⟩, o2, k _ (by simp) _ e2, r2⟩, hn⟩
  item := by
    intro X hP hw hK hc i pins s σ H E I hf st ⟨c, d, hcx, hdy⟩
    subst hP hw hK
    obtain ⟨⟨hz, hI, a, b, hO⟩, ⟨s1, s2⟩, _⟩ := st
    have hd := I.ok.hd hc
    have D1 := Draws.text (prog := X.prog) (w := X.w) (A := X.A.in1) hd i1 x tx
    have D2 := Draws.text (prog := X.prog) (w := X.w) (A := X.A.in1) hd i2 y ty
    have lx : i < x.cps.size := (Array.getElem?_eq_some_iff.mp hcx).1
    have ly : i < y.cps.size := (Array.getElem?_eq_some_iff.mp hdy).1
    have zl : z < s.heap.objs.size := Heap.lt_size hz
    have ne : ∀ {q : Addr} {o : Obj}, s.heap.get? q = some o → s.heap.objs.size ≠ q := fun e => Nat.ne_of_gt (Heap.lt_size e)
    refine wpAny_pyNext_zipD2_item S D1 D2 hz hI hO s1 s2 lx ly fun x1 x2 h' tk p1 p2 g1 g2 t1 t2 g5 g6 g7 => ?_
    obtain ⟨c', u1, e1, rfl⟩ := p1
    obtain ⟨d', u2, e2, rfl⟩ := p2
    rw [hcx] at e1; cases e1
    rw [hdy] at e2; cases e2
    refine ⟨_, rfl, wpAny_letOwnedTupleGo_zip (s := { s with heap := h', toks := tk }) g1 fun h2 z2 sb => ?_⟩
    have k2 : ∀ q o, q ≠ z → h'.get? q = some o → h2.get? q = some o := fun q o hq e => (sb.2 q hq).trans e
    have tup : h2.get? s.heap.objs.size = some { cls := .type "tuple", data := .seq #[.str ⟨#[c]⟩ u1, .str ⟨#[d]⟩ u2] } := k2 _ _ (Nat.ne_of_gt zl) g5
    have new : ObjOk X.prog X.w (upd H s.heap.objs.size (.tup [.str ⟨#[c]⟩, .str ⟨#[d]⟩])) h2 s.heap.objs.size (.tup [.str ⟨#[c]⟩, .str ⟨#[d]⟩]) :=
      ⟨by show 2 ≤ sizeLine; decide, [.str ⟨#[c]⟩ u1, .str ⟨#[d]⟩ u2], .cons ⟨_, rfl⟩ (.cons ⟨_, rfl⟩ .nil), ⟨_, tup, rfl, _, rfl⟩⟩
    have J : L2.Inv X pins σ (upd H s.heap.objs.size (.tup [.str ⟨#[c]⟩, .str ⟨#[d]⟩])) { s with heap := h2, toks := tk } :=
      I.turnedNew (ch := [z, TI, TO, i1, i2]) (fun q o hq e => by
        simp only [List.mem_cons, List.not_mem_nil, or_false, not_or] at hq
        exact k2 q o hq.1 (g7 q o hq.1 hq.2.2.1 hq.2.2.2.1 hq.2.2.2.2 e)) hf (Nat.le_refl _) new
    refine ⟨.ref s.heap.objs.size, _, J, rfl, ⟨_, c, d, rfl, I.hok.fresh (Nat.le_refl _), rfl, hcx, hdy⟩, ⟨⟨z2, k2 _ _ S.TIz (g7 _ _ S.TIz S.TITO S.TIi1 S.TIi2 hI), _, _, k2 _ _ S.TOz g2⟩, ⟨?_, ?_⟩, lx, ly⟩, fun q hq => ?_⟩
    · obtain ⟨o, e, r⟩ := t1
      exact ⟨o, k2 _ _ S.zi1.symm e, r⟩
    · obtain ⟨o, e, r⟩ := t2
      exact ⟨o, k2 _ _ S.zi2.symm e, r⟩
    · obtain ⟨o1, e1, _⟩ := s1
      obtain ⟨o2, e2, _⟩ := s2
      have lt : s.heap.objs.size ≠ q := by
        simp only [List.mem_cons, List.not_mem_nil, or_false] at hq
        rcases hq with rfl | rfl | rfl | rfl | rfl
        · exact ne hz
        · exact ne hI
        · exact ne hO
        · exact ne e1
        · exact ne e2
      rw [upd_ne lt.symm]
      exact (hf q hq).1
  done := by
    intro X hP hw hK hc i pins s σ H E I hf st hg
    subst hP hw hK
    obtain ⟨⟨hz, hI, a, b, hO⟩, ⟨s1, s2⟩, n1, n2⟩ := st
    have hd := I.ok.hd hc
    have D1 := Draws.text (prog := X.prog) (w := X.w) (A := X.A.in1) hd i1 x tx
    have D2 := Draws.text (prog := X.prog) (w := X.w) (A := X.A.in1) hd i2 y ty
    have hg : x.cps.size ≤ i ∨ y.cps.size ≤ i := hg
    refine wpAny_pyNext_zipD2_end S D1 D2 hz hI hO s1 s2 n1 n2 (by omega) fun h' tk g => ⟨rfl, I.turnedL (ch := [z, TI, TO, i1, i2]) (fun q o hq e => ?_) hf⟩
    simp only [List.mem_cons, List.not_mem_nil, or_false, not_or] at hq
    exact g q o hq.1 hq.2.2.1 hq.2.2.2.1 hq.2.2.2.2 e
  self := fun A i s Q E st h => wpAny_pyIter_zip st.1.1 h
def iZipS (ta : TA) : TI := fun σ H R => ta σ H fun vs H1 => ∃ x y, vs = [.str x, .str y] ∧ R (ItzS x y) H1
theorem pi_zipS {X : Cx} {e e2 : Expr} {ta : TA} {p pos tpos : Pos} {elts : List Expr} {kk : Nat} (hg : Gl X "zip") (hm : X.mg "zip" = none) (ha : PA X [e, e2] ta)
    (hs : starEach [e, e2] X.env = (false, eval e X.env) :: starEach [e2] X.env := by rfl) (hpl : (backTo pos (starEach [e2] X.env)).any (·.1) = false := by rfl) :
    PI X (.Tuple elts kk tpos) (.Call (.Name "zip" p) [e, e2] [] pos) (iZipS ta) := ⟨fun pins s σ H R I h => by
  refine Call_ (ld_blt I hg hm PyProof.Rows.boot_zip (PyProof.Rows.callWith_type1 (thn (ha.run pos pins s σ H _ I h) fun us s1 ⟨vs, H1, I1, r1, x, y, ev, q⟩ => ?_) hs hpl))
  subst ev
  cases r1 with
  | cons r r1 => cases r1 with
    | cons r' r1 =>
      cases r1
      obtain ⟨tx, rfl⟩ := r
      obtain ⟨ty, rfl⟩ := r'
      refine zip_begins2 (begins_text x tx) (begins_text y ty) trivial trivial fun h' hz hI hO h1 h2 hsz hk => wpAny_pyIter_zip hz ?_
      have J : L2.Inv X pins σ H1 { s1 with heap := h' } := I1.kept (t' := s1.toks) hk
      have fp : ∀ b ∈ [s1.heap.objs.size + 4, s1.heap.objs.size + 2, s1.heap.objs.size + 3, s1.heap.objs.size, s1.heap.objs.size + 1], FpOk X pins H1 b := fun b hb => by
        have : s1.heap.objs.size ≤ b := by
          simp only [List.mem_cons, List.not_mem_nil, or_false] at hb
          omega
        exact I1.fpOk this (I1.hok.fresh this)
      have sep : ZipSep2 (s1.heap.objs.size + 4) (s1.heap.objs.size + 2) (s1.heap.objs.size + 3) s1.heap.objs.size (s1.heap.objs.size + 1) [s1.heap.objs.size] [s1.heap.objs.size + 1] := by
        constructor <;> first | omega | simp
      exact ⟨_, _, _, _, H1, rfl, J, turn_zipS (tx := tx) (ty := ty) sep, ⟨⟨hz, hI, _, _, hO⟩, ⟨⟨_, h1, rfl, rfl⟩, _, h2, rfl, rfl⟩, Nat.zero_le _, Nat.zero_le _⟩, fp, q⟩⟩
/-- as a mirror -/
def sgn (s : List Nat) : List Val := s.map fun c => .str [c]
def iZipSQ (tn : Bool) (fa : Env → Sto → Rv (List SV)) : Fi := fun env st => (fa env st).bind fun zs st1 => match zs with
  | [.v (.str xs), .v (.str ys)] => .ok (.seq (zipQ tn (sgn xs) (sgn ys))) st1
  | _ => .bad
theorem walk_zipS {G : Gc} {H0 : Hp} {ρ0 : Rho} {P0 : Ts} (xs ys : List Nat) (hx : SOk xs = true) (hy : SOk ys = true) : WalkS G P0 ρ0 H0 (ItzS (toS xs) (toS ys)) (zipQ G.tn (sgn xs) (sgn ys)) := by
  intro i H P ρ st k rs
  have at' : ∀ (s : List Nat) (j : Nat), (toS s).cps[j]? = s[j]? := fun s j => by simp
  refine ⟨fun z hz => ?_, fun hl => ?_⟩
  · obtain ⟨x, y, ex, ey, rfl⟩ := zipQ_get hz
    unfold sgn at ex ey
    rw [List.getElem?_map] at ex ey
    obtain ⟨c, hc, rfl⟩ := Option.map_eq_some_iff.mp ex
    obtain ⟨d, hd, rfl⟩ := Option.map_eq_some_iff.mp ey
    refine ⟨⟨c, d, by rw [at', hc], by rw [at', hd]⟩, fun w H' q => ?_⟩
    obtain ⟨T, c', d', rfl, hT, rfl, e1, e2⟩ := q
    rw [at', hc] at e1; cases e1
    rw [at', hd] at e2; cases e2
    exact yield_pair rs hT (.str [c] (sok_one hx hc)) (.str [d] (sok_one hy hd))
  · rw [zipQ_len] at hl
    unfold sgn at hl
    rw [List.length_map, List.length_map] at hl
    show xs.toArray.size ≤ i ∨ ys.toArray.size ≤ i
    simp only [List.size_toArray]
    omega
section
variable {L : Lx} {X : Cx} {W : WX} {a b : Expr} {fr : Env → Sto → Rv (List SV)} {pos p : Pos}
theorem ei_zipS {elts : List Expr} {kk : Nat} {tpos : Pos} (hg : Gl X "zip") (hm : X.mg "zip" = none) (ha : EA L X W [a, b] fr) (hs : starEach [a, b] X.env = (false, eval a X.env) :: starEach [b] X.env := by rfl) (hpl : (backTo pos (starEach [b] X.env)).any (·.1) = false := by rfl) : EI L X W (.Tuple elts kk tpos) (.Call (.Name "zip" p) [a, b] [] pos) (iZipSQ L.tn fr) := by
  refine PI.weak (pi_zipS hg hm ha hs hpl) fun σ H R ⟨env, st, ρ, P, re, rs, p⟩ => ⟨env, st, ρ, P, re, rs, PostA.thenI p fun z st1 v H1 k rs1 rx p => ?_⟩
  split at p
  · cases rx with
    | cons r t => cases t with
      | cons r' t => cases t; cases r with
        | v r => cases r with
          | str _ h => cases r' with
            | v r' => cases r' with
              | str _ h' => exact ⟨_, _, rfl, p _ H1 Kp.refl rs1 (walk_zipS _ _ h h')⟩
  · exact p.elim
/-- zip of two tuples, two lists, two texts -/
def zipKA (tn : Bool) (zs : List SV) (st1 : Sto) : Rv Src := match zs with
  | [.v (.tup xs), .v (.tup ys)] => .ok (.seq (zipQ tn xs ys)) st1
  | [.v (.lst xs), .v (.lst ys)] => .ok (.seq (zipQ tn xs ys)) st1
  | [.v (.str xs), .v (.str ys)] => .ok (.seq (zipQ tn (sgn xs) (sgn ys))) st1
  | _ => .bad
def iZipA (tn : Bool) (fa : Env → Sto → Rv (List SV)) : Fi := fun env st => (fa env st).bind (zipKA tn)
theorem ei_zipA (htn : L.tn = true) {elts : List Expr} {kk : Nat} {tpos : Pos} (hg : Gl X "zip") (hm : X.mg "zip" = none) (ha : EA L X W [a, b] fr) (hs : starEach [a, b] X.env = (false, eval a X.env) :: starEach [b] X.env := by rfl) (hpl : (backTo pos (starEach [b] X.env)).any (·.1) = false := by rfl) : EI L X W (.Tuple elts kk tpos) (.Call (.Name "zip" p) [a, b] [] pos) (iZipA true fr) := by
  rw [← htn]
  refine PI.weak (PI.or (ei_zipQ hg hm ha hs hpl) (ei_zipS hg hm ha hs hpl)) fun σ H R ⟨env, st, ρ, P, re, rs, p⟩ => ?_
  unfold iZipA at p
  cases h : fr env st with
  | bad => rw [h] at p; exact p.elim
  | exc ex s => exact .inl ⟨env, st, ρ, P, re, rs, by rw [h] at p; unfold iZipQ; rw [h]; exact p⟩
  | ok zs st1 =>
    rw [h] at p
    have p : PostI (gx L X) W σ P ρ H (zipKA L.tn zs st1) R := p
    unfold zipKA at p
    split at p
    · exact .inl ⟨env, st, ρ, P, re, rs, by unfold iZipQ; rename_i h _ _ _ _; rw [h]; exact p⟩
    · exact .inl ⟨env, st, ρ, P, re, rs, by unfold iZipQ; rename_i h _ _ _ _; rw [h]; exact p⟩
    · exact .inr ⟨env, st, ρ, P, re, rs, by unfold iZipSQ; rename_i h _ _ _ _; rw [h]; exact p⟩
    · exact p.elim
end
end Eng

namespace Eng
open PySem PySem.Spec PyProof.Rows L2

/-! ### t.index(x), a tuple known to its object, of texts -/
def tTix (r : V → List V → Hp → VK → Prop) (to : TE) (t : TA) : TE := fun σ H Q => to σ H fun x H1 => (∃ (a : Addr) (o : Obj) (vs : List V), x = .ref a ∧ H1 a = some (.frz o (.tup vs)) ∧ o.dict = none) ∧ t σ H1 fun xs H2 => r x xs H2 Q
theorem pe_tix {X : Cx} {o e : Expr} {es : List Expr} {to : TE} {t : TA} {apos cpos : Pos} {r : V → List V → Hp → VK → Prop} (hm : MtR X "tuple.index" r) (ho : PE X o to) (ha : PA X (e :: es) t)
    (hbase : attributeBase o "index" X.env (eval o X.env) = eval o X.env := by rfl)
    (hfew : ((backTo cpos (starEach (e :: es) X.env)).all (fun x => !x.1) && (backToKw cpos (keywordEach [] X.env)).all (fun x => x.1.isSome)
      && decide ((e :: es).length + ([] : List Keyword).length + (if ([] : List Keyword).isEmpty then 0 else 1) < 30)) = true := by rfl)
    (hline : (apos.endLine == cpos.line) = true := by rfl) (hs : starEach (e :: es) X.env = (false, eval e X.env) :: starEach es X.env := by rfl) (hplain : (backTo cpos (starEach es X.env)).any (·.1) = false := by rfl) :
    PE X (.Call (.Attribute o "index" apos) (e :: es) [] cpos) (tTix r to t) := ⟨fun pins s σ H Q I h => by
  refine wpAny_Call_method_late hbase hfew hline rfl (thn (ho.run pins s σ H _ I h) fun v s1 ⟨x, H1, I1, r1, ⟨a, ob, vs, ex, hf, hd⟩, q⟩ => ?_)
  subst ex
  cases r1
  obtain ⟨g, _, its, _, pt⟩ := I1.hok a _ hf
  have A := ha.run cpos pins s1 σ H1 _ I1 q
  rw [hs] at A ⊢
  refine ⟨"tuple", "tuple.index", PySem.F.plainAttrs_tuple, PySem.F.slot_tuple_index, PySem.F.type_tuple_index, pt.typeIs, fun b eb => ?_, Calls.callWith_builtin (by show (false || (backTo cpos (starEach es X.env)).any (·.1)) = false; rw [hplain]; rfl) (Calls.evalArgs_plain (thn A fun us s2 ⟨vs2, H2, I2, r2, q2⟩ => hm pins s2 σ H2 (.ref a) vs2 (.ref a) us Q I2 rfl r2 q2))⟩
  cases eb
  exact ⟨ob, g, hd⟩⟩
def vTIndex : Val → List Val → Option SV
  | .tup xs, [.str z] => match strsOf xs with
    | some ys => (findV (.str z) xs 0).map fun k => .v (.int (k : Nat))
    | none => none
  | _, _ => none
def eTI (fo : Fe) (fa : Env → Sto → Rv (List SV)) : Fe := fun env st => (fo env st).bind fun z st1 => match z with
  | .v (.tup xs) => (fa env st1).bind fun zs st2 => outO ((valsOf st2 zs).bind fun as => vTIndex (.tup xs) as) st2
  | _ => .bad
theorem strs_eq : ∀ {xs : List Val} {ys : List (List Nat)}, strsOf xs = some ys → xs = ys.map .str
  | [], ys, e => by cases e; rfl
  | x :: xs, ys, e => by
    cases x with
    | str a =>
      simp only [strsOf] at e
      cases h : strsOf xs with
      | none => rw [h] at e; cases e
      | some zs =>
        rw [h] at e
        cases e
        rw [List.map_cons, ← strs_eq h]
    | _ => simp [strsOf] at e
section
variable {X : Cx} {L : Lx}
theorem mt_w : ∀ x xs H Q, RMm (gx L X) vTIndex x xs H Q → (∃ p, ∃ ys : List Str, ∃ z j, x = .ref p ∧ xs = [.str z] ∧ SqT X.K H p (ys.map V.str) ∧ ys[j]? = some z ∧ (∀ m, m < j → ys[m]? ≠ some z) ∧ Q (.int (j : Nat)) H) := by
  intro x xs H Q ⟨ρ, P, st, a, as, rs, na, nl, p⟩
  unfold vTIndex at p
  split at p
  · rename_i us z
    split at p
    · rename_i ys hys
      obtain ⟨b, ws, ex, hb, hr⟩ := na.tupOf
      obtain ⟨ew, _⟩ := hr.strs hys
      obtain rfl := strs_eq hys
      subst ew ex
      cases hf : findV (.str z) (ys.map .str) 0 with
      | none => rw [hf] at p; exact p.elim
      | some j =>
        rw [hf] at p
        obtain ⟨v, rfl, nz⟩ := nl.one
        obtain ⟨rfl, _⟩ := nz.strOf
        obtain ⟨i, y, e1, e2, e3, e4⟩ := findV_spec hf
        rw [Nat.zero_add] at e1
        subst e1
        rw [List.getElem?_map] at e2
        obtain ⟨y', h1, rfl⟩ := Option.map_eq_some_iff.mp e2
        have hy : y' = z := by simpa [eqB] using e3
        subst hy
        refine ⟨b, ys.map toS, toS y', j, rfl, rfl, hb.sq, by rw [List.getElem?_map, h1]; rfl, fun m hm e => ?_, p.val rs (.int _)⟩
        rw [List.getElem?_map] at e
        obtain ⟨w, h2, h3⟩ := Option.map_eq_some_iff.mp e
        have := e4 m (.str w) hm (by rw [List.getElem?_map, h2]; rfl)
        rw [toS_inj.mp h3] at this
        simp [eqB] at this
    · exact p.elim
  · exact p.elim
end
section
variable {X : Cx} {L : Lx} {W : WX} {o e : Expr} {es : List Expr} {fo : Fe} {fa : Env → Sto → Rv (List SV)} {apos pos : Pos}
theorem ee_tix (htn : L.tn = true) (ho : EE L X W o fo) (ha : EA L X W (e :: es) fa)
    (hbase : attributeBase o "index" X.env (eval o X.env) = eval o X.env := by rfl)
    (hfew : ((backTo pos (starEach (e :: es) X.env)).all (fun x => !x.1) && (backToKw pos (keywordEach [] X.env)).all (fun x => x.1.isSome)
      && decide ((e :: es).length + ([] : List Keyword).length + (if ([] : List Keyword).isEmpty then 0 else 1) < 30)) = true := by rfl)
    (hline : (apos.endLine == pos.line) = true := by rfl) (hs : starEach (e :: es) X.env = (false, eval e X.env) :: starEach es X.env := by rfl) (hplain : (backTo pos (starEach es X.env)).any (·.1) = false := by rfl) :
    EE L X W (.Call (.Attribute o "index" apos) (e :: es) [] pos) (eTI fo fa) := by
  refine PE.weak (pe_tix mt_tup_index ho ha hbase hfew hline hs hplain) fun σ H Q ⟨env, st, ρ, P, re, rs, p⟩ => ⟨env, st, ρ, P, re, rs, ?_⟩
  refine Post.then p fun z st1 v H1 k1 rs1 rx p => ?_
  split at p
  · rename_i xs
    cases rx with
    | v r =>
      cases r with
      | @tup _ vs a h r =>
        obtain ⟨ob, hd, hf⟩ := h.on htn
        refine ⟨⟨a, ob, vs, rfl, hf, hd⟩, env, st1, ρ, P, re.ext k1 rs, rs1, PostA.then p fun zs st2 us H2 k2 rs2 rz p => ?_⟩
        have p := POp.of p
        cases h4 : valsOf st2 zs with
        | none => rw [h4] at p; exact p.elim
        | some as =>
          rw [h4] at p
          exact mt_w (L := L) _ _ _ _ ⟨ρ, P, st2, .tup xs, as, rs2, .rep ((RepV.tup h r).ext k2.tp rs1.nt), rz.nowL rs2 h4, p⟩
  · exact p.elim
/-! ### products, but of tuples -/
def vMulN : Val → Val → Option SV
  | .tup _, _ => none
  | x, y => vMul x y
theorem op_mulN : OpR X (binaryOp .Mult) (R2m (gx L X) vMulN) := by
  refine OpR.weak (op_mul.or (op_mulStr.or op_rep)) fun x y H Q ⟨ρ, P, st, a, b, rs, na, nb, p⟩ => ?_
  have hl := line1
  cases a with
  | tup _ => exact p.elim
  | int i => cases b with
    | int j =>
      have p : POp (gx L X) P ρ st H (vMul (.int i) (.int j)) Q := p
      simp only [vMul] at p
      split at p
      · rename_i h
        refine .inl ⟨i, j, na.intOf, nb.intOf, ?_, p.val rs (.int _)⟩
        unfold mulOk at h
        simp only [Bool.or_eq_true, Bool.and_eq_true, decide_eq_true_eq] at h
        rcases h with h | h
        · exact .inl ⟨by omega, by omega⟩
        · exact .inr ⟨by omega, by omega⟩
      · exact p.elim
    | _ => exact p.elim
  | str s => cases b with
    | int k =>
      have p : POp (gx L X) P ρ st H (vMul (.str s) (.int k)) Q := p
      obtain ⟨ex, sx⟩ := na.strOf
      simp only [vMul] at p
      split at p
      · rename_i h
        simp only [Bool.and_eq_true, decide_eq_true_eq] at h
        exact .inr (.inl ⟨s, k, ex, nb.intOf, h.1.1.1, h.1.1.2, h.1.2, p.val rs (.str _ h.2)⟩)
      · exact p.elim
    | _ => exact p.elim
  | lst s => cases b with
    | int k =>
      have p : POp (gx L X) P ρ st H (vMul (.lst s) (.int k)) Q := p
      obtain ⟨a1, v1, ex, h1, r1⟩ := na.lstOf
      simp only [vMul] at p
      split at p
      · rename_i h
        simp only [Bool.and_eq_true, decide_eq_true_eq] at h
        have hlen := r1.len
        refine .inr (.inr ⟨a1, k, v1, ex, nb.intOf, h1, by omega, by omega, ?_, fun q hq => p.lst rs hq (r1.rep _)⟩)
        have : v1.length * k.toNat ≤ 1000 * 1000 := Nat.mul_le_mul (by omega) (by omega)
        omega
      · exact p.elim
    | _ => exact p.elim
  | _ => cases b <;> exact p.elim
end
end Eng

namespace Eng
open PySem PySem.Spec PyProof.Rows L2

/-! ### d.get(k, x) -/
def isDic : Option Val → Bool
  | some (.dic _ _) => true
  | _ => false
def getV : Option Val → SV → SV → Option SV
  | some (.dic t kvs), .v k, .v d => if keyIs t k = true then some (.v ((dGet kvs k).getD d)) else none
  | _, _, _ => none
def eGet (fo fk fd : Fe) : Fe := fun env st => (fo env st).bind fun z st1 => if isDic (z.val st1) = true then
  (fk env st1).bind fun k st2 => (fd env st2).bind fun d st3 => outO (getV (z.val st3) k.froz d.froz) st3 else .bad
section
variable {L : Lx} {X : Cx} {W : WX} {o e f : Expr} {fo fk fd : Fe} {apos cpos : Pos}
theorem Now.isD {G : Gc} {H : Hp} {T : Ts} {t : Bool} {kvs : List (Val × Val)} {v : V} (h : Now G H T (.dic t kvs) v) : ∃ a, v = .ref a ∧ L2.IsD H a := by
  cases h with
  | rep r =>
    cases r with
    | dicK e _ r => exact ⟨_, rfl, .inl ⟨_, e⟩⟩
    | dicT e _ r => exact ⟨_, rfl, .inr ⟨_, e⟩⟩
  | dicK e r => exact ⟨_, rfl, .inl ⟨_, .inl e⟩⟩
  | dicT e r => exact ⟨_, rfl, .inr ⟨_, .inl e⟩⟩
theorem ee_dget2 (hu : X.A.units + 1 < cLine) (ho : EE L X W o fo) (he : EE L X W e fk) (hf : EE L X W f fd) (m : M2 X o "get" apos e f cpos) : EE L X W (.Call (.Attribute o "get" apos) [e, f] [] cpos) (eGet fo fk fd) := by
  refine PE.weak (pe_dget2 hu ho he hf m) fun σ H Q ⟨env, st, ρ, P, re, rs, p⟩ => ⟨env, st, ρ, P, re, rs, Post.then p fun z st1 v H1 k1 rs1 rx p => ?_⟩
  split at p
  · rename_i hd
    obtain ⟨t, kvs, hz⟩ : ∃ t kvs, z.val st1 = some (.dic t kvs) := by
      cases hv : z.val st1 with
      | none => rw [hv] at hd; cases hd
      | some x => rw [hv] at hd; cases x <;> first | exact ⟨_, _, rfl⟩ | cases hd
    obtain ⟨a, rfl, ha⟩ := (rx.now rs1 hz).isD
    refine ⟨a, rfl, ha, env, st1, ρ, P, re.ext k1 rs, rs1, Post.then p fun k st2 u H2 k2 rs2 ry p => ⟨env, st2, ρ, P, (re.ext k1 rs).ext k2 rs1, rs2, Post.then p fun d st3 w H3 k3 rs3 rw' p => ?_⟩⟩
    have p := POp.of p
    have rk := ry.z.ext k3 rs2
    have rd := rw'.z
    cases hz3 : z.val st3 with
    | none => rw [hz3] at p; exact p.elim
    | some x =>
      rw [hz3] at p
      cases x with
      | dic t kvs =>
        cases hk : k.froz with
        | v key =>
          cases hdd : d.froz with
          | v dv =>
            rw [hk, hdd] at p
            rw [hk] at rk
            rw [hdd] at rd
            have p : POp (gx L X) P ρ st3 H3 (if keyIs t key = true then some (.v ((dGet kvs key).getD dv)) else none) Q := p
            split at p
            · rename_i hki
              cases rk with
              | v rk =>
                cases rd with
                | v rd =>
                  have nz := rx.now2 rs1 (k2.trans k3) rs3 hz3
                  obtain ⟨a', e', hh⟩ := nz.dget (.rep rk) hki
                  cases e'
                  rcases hh with ⟨h1, h2⟩ | ⟨y, w', h1, h2, h3⟩
                  · rw [h1] at p
                    exact ⟨none, h2, p.val rs3 rd⟩
                  · rw [h1] at p
                    exact ⟨some w', h2, p.val rs3 h3⟩
            · exact p.elim
          | _ => rw [hk, hdd] at p; exact p.elim
        | _ => rw [hk] at p; exact p.elim
      | _ => exact p.elim
  · exact p.elim
end
end Eng

set_option maxHeartbeats 3200000
/-! sets of texts: made from a list or a tuple, counted, told in order -/
namespace Eng
open PySem PySem.Spec PyProof.Rows L2

def skey (e : Int × Value) : Str := match e.2 with | .str x _ => x | _ => Str.empty
def GoodS (w : World) (e : Int × Value) : Prop := ∃ x tk, e.2 = Value.str x tk ∧ e.1 = hashStr w x
def addS (l : List Str) (x : Str) : List Str := if x ∈ l then l else x :: l
theorem addS_nodup {l : List Str} (h : l.Nodup) (x : Str) : (addS l x).Nodup := by
  unfold addS
  split
  · exact h
  · rename_i n
    exact List.nodup_cons.mpr ⟨n, h⟩
theorem addS_len (l : List Str) (x : Str) : (addS l x).length ≤ l.length + 1 := by
  unfold addS
  split
  · exact Nat.le_succ _
  · exact Nat.le_refl _
/-- the set of texts at a: l its members -/
def SetS (w : World) (h : Heap) (a : Addr) (l : List Str) : Prop :=
  ∃ o es ep t, h.get? a = some o ∧ o.ExactSet ∧ o.data = .set es ep t ∧ (∀ e ∈ es.toList, GoodS w e) ∧ (es.toList.map skey).Perm l ∧ l.Nodup ∧
    es.size < scanBound ∧ t.fits es.size = true ∧ Ris t.place.toList ∧ (w.params.followText "set-order" = true ∨ t.led = true)
section
variable {P : Program} {w : World} {h h' : Heap} {a : Addr} {l : List Str}
theorem SetS.at (R : SetS w h a l) (k : ∀ o, h.get? a = some o → h'.get? a = some o) : SetS w h' a l := by
  obtain ⟨o, es, ep, t, ho, r⟩ := R
  exact ⟨o, es, ep, t, k o ho, r⟩
theorem goodS_el {l : List (Int × Value)} (g : ∀ e ∈ l, GoodS w e) : ElemsOf (PySem.strKind P w) l := fun e he => by
  obtain ⟨k, tk, h1, h2⟩ := g e he
  exact ⟨⟨k, by rw [h1]; exact strKind_is P w k tk, h2⟩, by rw [h1] <;> rfl⟩
theorem goodS_is {e : Int × Value} (g : GoodS w e) (k : Str) : (PySem.strKind P w).is k e.2 = true ↔ skey e = k := by
  obtain ⟨k0, tk, h1, _⟩ := g
  unfold skey
  rw [h1]
  constructor
  · intro q
    obtain ⟨t, et⟩ := Value.isStrOf_shape (x := k) (v := Value.str k0 tk) q
    cases et
    rfl
  · intro q
    rw [← q]
    exact strKind_is P w _ tk
theorem goodS_mem {l : List (Int × Value)} (g : ∀ e ∈ l, GoodS w e) (k : Str) : k ∈ l.map skey ↔ ∃ e ∈ l, (PySem.strKind P w).is k e.2 = true := by
  rw [List.mem_map]
  constructor
  · rintro ⟨e, he, q⟩
    exact ⟨e, he, (goodS_is (g e he) k).2 q⟩
  · rintro ⟨e, he, q⟩
    exact ⟨e, he, (goodS_is (g e he) k).1 q⟩
end
section
variable {P : Program} {w : World} {A : Around} {E : Value → Shared → Prop} {s : Shared} {a : Addr} {l : List Str}
theorem setS_tail {g : Bool → Sem Unit} (hg : ∀ (b : Bool) (s₁ : Shared) (Q' : Unit → Shared → Prop), Q' () s₁ → wpAny (model P w) A (g b) Q' E s₁)
    {o : Obj} {es : Array (Int × Value)} {ep : Nat} {t : SetTable} (ho : s.heap.get? a = some o) (hex : o.ExactSet) (hd : o.data = .set es ep t)
    {es1 : Array (Int × Value)} {t2 : SetTable} {l1 : List Str} (g1 : ∀ e ∈ es1.toList, GoodS w e) (p1 : (es1.toList.map skey).Perm l1) (nd1 : l1.Nodup)
    (hb1 : es1.size < scanBound) (hf2 : t2.fits es1.size = true) (hr : Ris t2.place.toList) (hl : w.params.followText "set-order" = true ∨ t2.led = true) {wasDummy : Bool} {R : Option Bool → Shared → Prop}
    (hR : ∀ h', Heap.SameBut a s.heap h' → SetS w h' a l1 → R (some true) { s with heap := h' }) :
    wpAny (model P w) A (do
        storeSet a es1 t2
        if (!wasDummy && t2.tooFull) = true then do
            g (relayAll t2 es1 (SetTable.grown es1.size)).2.2
            storeSet a (relayAll t2 es1 (SetTable.grown es1.size)).1 (relayAll t2 es1 (SetTable.grown es1.size)).2.1
            pure (some true)
          else pure (some true)) R E s := by
  refine wpAny_bind (wpAny_storeSet_of ho hd ?_ (fits_of_scanBound hb1))
  have ho1 := store_at (es' := es1) (t' := t2) ho hd
  have sb1 := Heap.SameBut.update s.heap a (Obj.putSet es1 t2)
  split
  · have pm := relayAll_perm t2 es1 (SetTable.grown es1.size)
    have hf3 := relayAll_fits t2 es1 (SetTable.grown es1.size)
    have hr3 := relayAll_ris t2 es1 (SetTable.grown es1.size)
    have hl3 := relayAll_led t2 es1 (SetTable.grown es1.size)
    generalize relayAll t2 es1 (SetTable.grown es1.size) = Z at pm hf3 hr3 hl3 ⊢
    obtain ⟨es2, t3, gave⟩ := Z
    dsimp only at pm hf3 hr3 hl3 ⊢
    have hsz : es2.size = es1.size := by rw [← Array.length_toList, pm.length_eq, Array.length_toList]
    have hb2 : es2.size < scanBound := by rw [hsz]; exact hb1
    refine wpAny_bind (hg _ _ _ ?_)
    refine wpAny_bind (wpAny_storeSet_of ho1 rfl ?_ (fits_of_scanBound hb2))
    have ho2 := store_at (es' := es2) (t' := t3) ho1 rfl
    exact wpAny_pure (hR _ (sb1.trans (Heap.SameBut.update _ a _)) ⟨_, es2, _, t3, ho2, hex, rfl, fun e he => g1 e (pm.mem_iff.mp he), (pm.map skey).trans p1, nd1, hb2, hf3, hr3,
      hl.imp id fun z => by rw [hl3]; exact z⟩)
  · exact wpAny_pure (hR _ sb1 ⟨_, es1, _, t2, ho1, hex, rfl, g1, p1, nd1, hb1, hf2, hr, hl⟩)

theorem setS_add {k : Str} {tk : Tok} {Q : Bool → Shared → Prop} (R : SetS w s.heap a l) (room : l.length + 1 < scanBound)
    (hQ : ∀ b h', Heap.SameBut a s.heap h' → SetS w h' a (addS l k) → Q b { s with heap := h' }) :
    wpAny (model P w) A (setAddHashed a (.str k tk) ((PySem.strKind P w).hash k)) Q E s := by
  obtain ⟨o, es, ep, t, ho, hex, hd, g, pl, nd, hb, hf, hr, hl⟩ := R
  have hkey : (PySem.strKind P w).is k (.str k tk) = true := strKind_is P w k tk
  have hsc : (Value.str k tk).scannable = true := rfl
  have hel : ElemsOf (PySem.strKind P w) es.toList := goodS_el g
  have hn : es.size = l.length := by rw [← Array.length_toList, ← List.length_map (f := skey), pl.length_eq]
  unfold setAddHashed setAddHashedIn
  refine wpAny_holding (wpAny_bind (wpAny_setState_of ho hd hf ?_))
  dsimp only
  rw [byScan_of hsc hb hel]
  simp only [↓reduceIte]
  unfold setAddByScan
  refine wpAny_bind ?_
  refine wpAny_bind (wpAny_rule ?_)
  refine wpAny_bind (wpAny_setScan_of hkey ho hd hf hel ?_)
  cases hfi : List.findIdx? (fun e => (PySem.strKind P w).is k e.2) es.toList with
  | some j =>
    dsimp only
    obtain ⟨hj, pj, _⟩ := List.findIdx?_eq_some_iff_getElem.mp hfi
    have hm : k ∈ l := pl.mem_iff.mp ((goodS_mem (P := P) (w := w) g k).2 ⟨es.toList[j], List.getElem_mem hj, pj⟩)
    refine wpAny_pure (wpAny_pure ?_)
    exact hQ _ s.heap (Heap.SameBut.refl a s.heap) ⟨o, es, ep, t, ho, hex, hd, g, by unfold addS; rw [if_pos hm]; exact pl, addS_nodup nd k, hb, hf, hr, hl⟩
  | none =>
    dsimp only
    have hnk : k ∉ l := fun z => by
      obtain ⟨e, he, q⟩ := (goodS_mem (P := P) (w := w) g k).1 (pl.mem_iff.mpr z)
      have c := List.findIdx?_eq_none_iff.mp hfi e he
      rw [q] at c
      cases c
    have hgw : ∀ (b : Bool) {s₁ : Shared} {Q' : Unit → Shared → Prop}, Q' () s₁ → wpAny (model P w) A (match b with | true => rule "set.scan.the-table-gave-way" | false => pure ()) Q' E s₁ :=
      fun b s₁ Q' q => by cases b <;> first | exact wpAny_pure q | exact wpAny_rule q
    have pm := layNew_perm t es ((PySem.strKind P w).hash k) (.str k tk)
    have hf1 := layNew_fits t es ((PySem.strKind P w).hash k) (.str k tk)
    have hr1 := layNew_ris t es ((PySem.strKind P w).hash k) (.str k tk) hr
    have hl1 := layNew_led t es ((PySem.strKind P w).hash k) (.str k tk)
    generalize layNew t es ((PySem.strKind P w).hash k) (.str k tk) = Z at pm hf1 hr1 hl1 ⊢
    obtain ⟨es1, t1, wasDummy, gave⟩ := Z
    dsimp only at pm hf1 hr1 hl1 ⊢
    rw [Array.toList_push] at pm
    have pc : es1.toList.Perm (((PySem.strKind P w).hash k, Value.str k tk) :: es.toList) := pm.trans (List.perm_append_singleton _ _)
    have pk : (es1.toList.map skey).Perm (addS l k) := by
      unfold addS
      rw [if_neg hnk]
      exact (pc.map skey).trans (pl.cons k)
    have g1 : ∀ e ∈ es1.toList, GoodS w e := fun e he => by
      rcases List.mem_cons.mp (pc.mem_iff.mp he) with z | z
      · rw [z]; exact ⟨k, tk, rfl, rfl⟩
      · exact g e z
    have nd1 : (addS l k).Nodup := addS_nodup nd k
    have hsz : es1.size = l.length + 1 := by rw [← Array.length_toList, pc.length_eq, List.length_cons, Array.length_toList, hn]
    have hb1 : es1.size < scanBound := by rw [hsz]; exact room
    have hled : w.params.followText "set-order" = true ∨ t1.led = true := hl.imp id fun z => by rw [hl1]; exact z
    refine wpAny_bind (hgw _ ?_)
    split
    · refine wpAny_bind ?_
      rw [hashByValue_scannable 8 hsc]
      refine wpAny_pure ?_
      refine setS_tail ?_ ho hex hd g1 pk nd1 hb1 ?_ ?_ ?_ ?_
      · intro b s₁ Q' q; cases b <;> first | exact wpAny_pure q | exact wpAny_rule q
      · first | (split <;> first | exact hf1 | exact SetTable.fits_plain_off hf1) | exact hf1
      · first | (split <;> exact hr1) | exact hr1
      · first | (split <;> exact hled) | exact hled
      · intro h' sb r; dsimp only; exact wpAny_pure (hQ _ h' sb r)
    · refine wpAny_bind (wpAny_pure ?_)
      simp only [↓reduceIte]
      refine setS_tail ?_ ho hex hd g1 pk nd1 hb1 hf1 hr1 hled ?_
      · intro b s₁ Q' q; cases b <;> first | exact wpAny_pure q | exact wpAny_rule q
      · intro h' sb r; dsimp only; exact wpAny_pure (hQ _ h' sb r)
theorem setS_fresh {h : Heap} {a : Addr} (w : World) (ho : h.get? a = some { cls := .type "set", dict := none, data := .set #[] 0 (.fresh 0 0 (!w.params.followText "set-order")) }) : SetS w h a [] :=
  ⟨_, #[], 0, _, ho, ⟨rfl, rfl, rfl⟩, rfl, (fun e he => by simp at he), List.Perm.refl _, List.nodup_nil, (by decide), (by rfl), List.Pairwise.nil, by
    show _ ∨ (!w.params.followText "set-order") = true
    cases w.params.followText "set-order"
    · exact .inr rfl
    · exact .inl rfl⟩
end

section
variable {prog : Program} {w : World} {A : Around} {R : Result → Shared → Prop} {I : Addr} {fp wr : List Addr} {G : Array GenState → Array GenState → Prop} {n : Nat} {P : Nat → Value → Prop} {St : Nat → Shared → Prop}
theorem foldS_len (xs : List Str) : ∀ (l : List Str), (xs.foldl addS l).length ≤ l.length + xs.length := by
  induction xs with
  | nil => intro l; exact Nat.le_refl _
  | cons x xs ih =>
    intro l
    have h1 := ih (addS l x)
    have h2 := addS_len l x
    simp only [List.foldl_cons, List.length_cons]
    omega
theorem loopSs (W : WalksS prog w A.in1 I fp wr G n P St) (S : Addr) (hSf : S ∉ fp) (xs : List Str) (hsz : xs.length = n) (hn1 : n + 1 < scanBound)
    (hval : ∀ i v, P i v → ∃ t, v = .str (xs.getD i Str.empty) t) :
    ∀ (k i : Nat) (s : Shared), n - i = k → i ≤ n → St i s → SetS w s.heap S ((xs.take i).foldl addS []) →
      (∀ s', Moved (S :: wr) G s s' → SetS w s'.heap S (xs.foldl addS []) → R (.ok (.ret .none)) s') →
      codeAny (model prog w) A (.builtin "set.update.loop" ⟨[.ref S, .ref I], []⟩) R s := by
  have hSw : S ∉ wr := fun h => hSf (W.sub _ h)
  have hsub : ∀ b ∈ wr, b ∈ S :: wr := fun b hb => List.mem_cons_of_mem _ hb
  intro k
  induction k with
  | zero =>
    intro i s hk hi hst hS hR
    have hin : i = n := by omega
    subst hin
    rw [← hsz, List.take_length] at hS
    refine codeAny_builtin PyProof.Rows.F.entry_set_update_loop ?_
    rw [Around.under_plainId PyProof.Rows.F.plain_set_update_loop _]
    show wpAny _ A.in1 (pyNext (.ref I) >>= _) _ _ s
    refine wpAny_bind (W.done s _ _ hst fun s' hm => ?_)
    show wpAny _ A.in1 (ret Value.none) _ _ s'
    exact wpAny_pure (hR s' (hm.mono hsub) (hS.at fun o e => hm.heap S _ hSw e))
  | succ k ih =>
    intro i s hk hi hst hS hR
    have hlt : i < n := by omega
    refine codeAny_builtin PyProof.Rows.F.entry_set_update_loop ?_
    rw [Around.under_plainId PyProof.Rows.F.plain_set_update_loop _]
    show wpAny _ A.in1 (pyNext (.ref I) >>= _) _ _ s
    refine wpAny_bind (W.item i s _ _ hlt hst fun v s' hP hst' hm => ?_)
    obtain ⟨t, rfl⟩ := hval i v hP
    have hS' : SetS w s'.heap S ((xs.take i).foldl addS []) := hS.at fun o e => hm.heap S _ hSw e
    show wpAny _ A.in1 (holding [Value.str (xs.getD i Str.empty) t] (setAdd S (.str (xs.getD i Str.empty) t)) >>= _) _ _ s'
    refine wpAny_bind (wpAny_holding ?_)
    unfold setAdd
    refine wpAny_holding ?_
    refine wpAny_bind ((PySem.strKind prog w).pyHash (k := xs.getD i Str.empty) (strKind_is _ _ _ _) ?_)
    have hroom : ((xs.take i).foldl addS []).length + 1 < scanBound := by
      have h1 := foldS_len (xs.take i) []
      rw [List.length_take] at h1
      simp only [List.length_nil] at h1
      omega
    have hlx : i < xs.length := by omega
    refine setS_add (s := { s' with toks := s'.toks + 1 }) hS' hroom fun b h' hsb hS2 => ?_
    have hSi : SetS w h' S ((xs.take (i + 1)).foldl addS []) := by
      have e : xs.getD i Str.empty = xs[i] := by rw [List.getD_eq_getElem?_getD, List.getElem?_eq_getElem hlx] <;> rfl
      rw [List.take_succ, List.getElem?_eq_getElem hlx, List.foldl_append]
      rw [e] at hS2
      exact hS2
    refine wpAny_pure ⟨plainId_quiet PyProof.Rows.F.plain_set_update_loop _, ih (i + 1) _ (by omega) hlt (W.frame _ s' _ _ hst' (Nat.le_succ _) fun b hb o e => ?_) hSi fun s'' hm'' hS'' => ?_⟩
    · rw [hsb.2 b (fun h : b = S => hSf (by rw [← h]; exact hb))]; exact e
    · refine hR s'' (Moved.trans W.gtrans ((hm.mono hsub).then_heap (Nat.le_succ _) fun b o hb e => ?_) hm'') hS''
      rw [hsb.2 b (fun h : b = S => hb (by rw [h]; exact List.mem_cons_self))]; exact e
end
end Eng

set_option maxHeartbeats 3200000
namespace Eng
open PySem PySem.Spec PyProof.Rows L2

def set0 (w : World) : Obj := { cls := .type "set", dict := none, data := .set #[] 0 (.fresh 0 0 (!w.params.followText "set-order")) }
section
variable {prog : Program} {w : World} {A : Around} {E : Value → Shared → Prop} {s : Shared}

theorem call_set_ls {l : Addr} {items : Array Value} {xs : List Str} {Q : Value → Shared → Prop}
    (hh : A.handled = none) (hl : s.heap.IsList l items) (hi : PyProof.Rows.StrsAre items.toList xs) (hn1 : xs.length + 1 < scanBound)
    (h : ∀ (h' : Heap) (tk : Nat), SetS w h' s.heap.objs.size (xs.foldl addS []) →
      (∀ b o, b < s.heap.objs.size → s.heap.get? b = some o → h'.get? b = some o) → s.heap.objs.size < h'.objs.size → Q (.ref s.heap.objs.size) { s with heap := h', toks := tk }) :
    wpAny (model prog w) A (call (.type "set") [.ref l]) Q E s := by
  obtain ⟨c, tl, hmro⟩ := PySem.F.called_set.mro
  have hmade := PySem.F.called_set.made
  have hsub := PySem.F.called_set.sub
  refine wpAny_call (codeAny_of_tree ?_)
  show wpAny _ _ (callAny (.type "set") _) _ _ _
  refine wpAny_pure ⟨Code.quiet_builtin _ (by decide +kernel), codeAny_builtin PySem.F.entry_type_call ?_⟩
  rw [Around.under_plain (weight_type_call_type "set" [.ref l] []) rfl]
  have h1 := PySem.F.called_set.notType
  have h2 := PySem.F.called_set.canCreate
  have hct := PySem.F.typeCall_set_1 (.ref l)
  repeat (any_goals (first | assumption | wp_step))
  refine codeAny_mono (code_set_led1 (.ref l) (E := E) (Q₁ := fun obj s₁ => obj = .ref s.heap.objs.size ∧ s₁ = { s with heap := s.heap.push (set0 w) }) ⟨rfl, rfl⟩) fun r s₁ hr => ?_
  cases r with
  | error e => exact hr
  | ok fl =>
    cases fl with
    | ret obj =>
      obtain ⟨rfl, rfl⟩ := hr
      have hS : (s.heap.push (set0 w)).get? s.heap.objs.size = some (set0 w) := Heap.get?_push_size _ rfl
      have hT : Shared.TypeIs { s with heap := s.heap.push (set0 w) } (.ref s.heap.objs.size) "set" := ⟨_, hS, rfl⟩
      have hli := PySem.F.called_set.init.lookup
      have hbi := PySem.F.called_set.init.bind (.ref s.heap.objs.size)
      repeat (any_goals (first | assumption | wp_step))
      refine codeAny_mono (codeAny_call_builtin (R := wants (fun r s₂ => r = .none ∧ ∃ h' tk, s₂ = { s with heap := h', toks := tk } ∧
          SetS w h' s.heap.objs.size (xs.foldl addS []) ∧
          (∀ b o, b < s.heap.objs.size → s.heap.get? b = some o → h'.get? b = some o)) E) PySem.F.called_set.init.plain PySem.F.entry_set_init (check_set_init_1 hT ?_)) fun r₂ s₂ hr₂ => ?_
      · obtain ⟨ol, hol, hcl, nl, hdl⟩ := hl
        obtain ⟨ocls, odict, odata, oslots⟩ := ol
        simp only at hcl hdl
        subst hcl; subst hdl
        have hol' : (s.heap.push (set0 w)).get? l = some { cls := .type "list", dict := odict, data := .seq items nl, slots := oslots } := Heap.get?_push_of_some _ hol
        have hsls := PySem.F.sub_list_set
        have hslf := PySem.F.sub_list_frozenset
        have hne : (Value.type "list" == Value.type "dict") = false := by decide
        have hl1 : (s.heap.push (set0 w)).IsList l items := ⟨_, hol', rfl, nl, rfl⟩
        unfold Builtin.«set.__init__» noKeywords Builtin.Frozenset.updateFrom
        generalize hPI : pyIter = PI
        wp_walk
        subst hPI
        refine wpAny_pyIter_list hl1 ?_
        refine wpAny_bind (wpAny_runValue ?_)
        have hlS : l < s.heap.objs.size := Heap.lt_size hol
        have hh3 : A.in1.in1.in1.handled = none := by simp [hh]
        have hneI : l ≠ (s.heap.push (set0 w)).objs.size := by
          rw [Heap.size_push]; exact Nat.ne_of_lt (Nat.lt_succ_of_lt hlS)
        have hSf : s.heap.objs.size ∉ [(s.heap.push (set0 w)).objs.size, l] := by
          rw [Heap.size_push]; simp only [List.mem_cons, List.mem_singleton, List.not_mem_nil, or_false, not_or]
          exact ⟨Nat.ne_of_lt (Nat.lt_succ_self _), Nat.ne_of_gt hlS⟩
        have hsz : xs.length = items.size := by rw [← StrsAre.len_eq hi, Array.length_toList]
        have hval : ∀ (i : Nat) (v : Value), items[i]? = some v → ∃ t, v = .str (xs.getD i Str.empty) t := fun i v hv => SS.strs_at hi i v (by rw [Array.getElem?_toList]; exact hv)
        refine loopSs ((Walks.list hh3 _ l hneI items).toS) s.heap.objs.size
          hSf xs hsz (by rw [← hsz]; exact hn1) hval (items.size - 0) 0 _ (by omega) (Nat.zero_le _)
          ⟨⟨_, Heap.get?_push_size _ rfl, rfl, rfl⟩, (hl1.push _)⟩ ?hS0 ?hR
        case hS0 =>
          have hget : ((s.heap.push (set0 w)).push { cls := .type "list_iterator", data := .fields #[.ref l, .int 0 0] }).get? s.heap.objs.size
              = some (set0 w) := Heap.get?_push_of_some _ hS
          exact setS_fresh w hget
        case hR =>
          intro s' hm hS'
          obtain ⟨h', g', d', tk', os'⟩ := s'
          have eg : g' = s.gens := hm.gens
          have ed : d' = s.drawn := hm.drawn
          have eo : os' = s.os := hm.os
          subst eg; subst ed; subst eo
          show wpAny _ _ _ _ _ _
          refine wpAny_pure ?_
          show wpAny _ _ (ret Value.none) _ _ _
          refine wpAny_pure ⟨rfl, h', tk', rfl, hS', fun b o hb e => ?_⟩
          have hb1 : b ≠ s.heap.objs.size := Nat.ne_of_lt hb
          have hb2 : b ≠ (s.heap.push (set0 w)).objs.size := by
            rw [Heap.size_push]; exact Nat.ne_of_lt (Nat.lt_succ_of_lt hb)
          exact hm.heap b o (by simp only [List.mem_cons, List.mem_singleton, List.not_mem_nil, or_false, not_or]; exact ⟨hb1, hb2⟩) (Heap.get?_push_of_some _ (Heap.get?_push_of_some _ e))
      · cases r₂ with
        | error e => exact hr₂
        | ok fl₂ =>
          cases fl₂ with
          | ret r =>
            obtain ⟨rfl, h', tk, rfl, hS', hk'⟩ := hr₂
            repeat (any_goals (first | assumption | wp_step))
            refine h _ _ hS' hk' ?_
            obtain ⟨o, _, _, _, ho, _⟩ := hS'
            exact Heap.lt_size ho
          | _ => exact hr₂.elim
    | _ => exact hr.elim

theorem call_set_ts {l : Addr} {items : Array Value} {xs : List Str} {Q : Value → Shared → Prop}
    (hh : A.handled = none) (hl : s.heap.IsTuple l items) (hi : PyProof.Rows.StrsAre items.toList xs) (hn1 : xs.length + 1 < scanBound)
    (h : ∀ (h' : Heap) (tk : Nat), SetS w h' s.heap.objs.size (xs.foldl addS []) →
      (∀ b o, b < s.heap.objs.size → s.heap.get? b = some o → h'.get? b = some o) → s.heap.objs.size < h'.objs.size → Q (.ref s.heap.objs.size) { s with heap := h', toks := tk }) :
    wpAny (model prog w) A (call (.type "set") [.ref l]) Q E s := by
  obtain ⟨c, tl, hmro⟩ := PySem.F.called_set.mro
  have hmade := PySem.F.called_set.made
  have hsub := PySem.F.called_set.sub
  refine wpAny_call (codeAny_of_tree ?_)
  show wpAny _ _ (callAny (.type "set") _) _ _ _
  refine wpAny_pure ⟨Code.quiet_builtin _ (by decide +kernel), codeAny_builtin PySem.F.entry_type_call ?_⟩
  rw [Around.under_plain (weight_type_call_type "set" [.ref l] []) rfl]
  have h1 := PySem.F.called_set.notType
  have h2 := PySem.F.called_set.canCreate
  have hct := PySem.F.typeCall_set_1 (.ref l)
  repeat (any_goals (first | assumption | wp_step))
  refine codeAny_mono (code_set_led1 (.ref l) (E := E) (Q₁ := fun obj s₁ => obj = .ref s.heap.objs.size ∧ s₁ = { s with heap := s.heap.push (set0 w) }) ⟨rfl, rfl⟩) fun r s₁ hr => ?_
  cases r with
  | error e => exact hr
  | ok fl =>
    cases fl with
    | ret obj =>
      obtain ⟨rfl, rfl⟩ := hr
      have hS : (s.heap.push (set0 w)).get? s.heap.objs.size = some (set0 w) := Heap.get?_push_size _ rfl
      have hT : Shared.TypeIs { s with heap := s.heap.push (set0 w) } (.ref s.heap.objs.size) "set" := ⟨_, hS, rfl⟩
      have hli := PySem.F.called_set.init.lookup
      have hbi := PySem.F.called_set.init.bind (.ref s.heap.objs.size)
      repeat (any_goals (first | assumption | wp_step))
      refine codeAny_mono (codeAny_call_builtin (R := wants (fun r s₂ => r = .none ∧ ∃ h' tk, s₂ = { s with heap := h', toks := tk } ∧
          SetS w h' s.heap.objs.size (xs.foldl addS []) ∧
          (∀ b o, b < s.heap.objs.size → s.heap.get? b = some o → h'.get? b = some o)) E) PySem.F.called_set.init.plain PySem.F.entry_set_init (check_set_init_1 hT ?_)) fun r₂ s₂ hr₂ => ?_
      · obtain ⟨ol, hol, hcl, nl, hdl⟩ := hl
        obtain ⟨ocls, odict, odata, oslots⟩ := ol
        simp only at hcl hdl
        subst hcl; subst hdl
        have hol' : (s.heap.push (set0 w)).get? l = some { cls := .type "tuple", dict := odict, data := .seq items nl, slots := oslots } := Heap.get?_push_of_some _ hol
        have hsls := PySem.F.sub_tuple_set
        have hslf := PySem.F.sub_tuple_frozenset
        have hne : (Value.type "tuple" == Value.type "dict") = false := by decide
        have hl1 : (s.heap.push (set0 w)).IsTuple l items := ⟨_, hol', rfl, nl, rfl⟩
        unfold Builtin.«set.__init__» noKeywords Builtin.Frozenset.updateFrom
        generalize hPI : pyIter = PI
        wp_walk
        subst hPI
        refine wpAny_pyIter_tuple hl1 ?_
        refine wpAny_bind (wpAny_runValue ?_)
        have hlS : l < s.heap.objs.size := Heap.lt_size hol
        have hh3 : A.in1.in1.in1.handled = none := by simp [hh]
        have hneI : l ≠ (s.heap.push (set0 w)).objs.size := by
          rw [Heap.size_push]; exact Nat.ne_of_lt (Nat.lt_succ_of_lt hlS)
        have hSf : s.heap.objs.size ∉ [(s.heap.push (set0 w)).objs.size, l] := by
          rw [Heap.size_push]; simp only [List.mem_cons, List.mem_singleton, List.not_mem_nil, or_false, not_or]
          exact ⟨Nat.ne_of_lt (Nat.lt_succ_self _), Nat.ne_of_gt hlS⟩
        have hsz : xs.length = items.size := by rw [← StrsAre.len_eq hi, Array.length_toList]
        have hval : ∀ (i : Nat) (v : Value), items[i]? = some v → ∃ t, v = .str (xs.getD i Str.empty) t := fun i v hv => SS.strs_at hi i v (by rw [Array.getElem?_toList]; exact hv)
        refine loopSs ((Walks.tuple hh3 _ l hneI items).toS) s.heap.objs.size
          hSf xs hsz (by rw [← hsz]; exact hn1) hval (items.size - 0) 0 _ (by omega) (Nat.zero_le _)
          ⟨⟨_, Heap.get?_push_size _ rfl, rfl, rfl⟩, (hl1.push _)⟩ ?hS0 ?hR
        case hS0 =>
          have hget : ((s.heap.push (set0 w)).push { cls := .type "tuple_iterator", data := .fields #[.ref l, .int 0 0] }).get? s.heap.objs.size
              = some (set0 w) := Heap.get?_push_of_some _ hS
          exact setS_fresh w hget
        case hR =>
          intro s' hm hS'
          obtain ⟨h', g', d', tk', os'⟩ := s'
          have eg : g' = s.gens := hm.gens
          have ed : d' = s.drawn := hm.drawn
          have eo : os' = s.os := hm.os
          subst eg; subst ed; subst eo
          show wpAny _ _ _ _ _ _
          refine wpAny_pure ?_
          show wpAny _ _ (ret Value.none) _ _ _
          refine wpAny_pure ⟨rfl, h', tk', rfl, hS', fun b o hb e => ?_⟩
          have hb1 : b ≠ s.heap.objs.size := Nat.ne_of_lt hb
          have hb2 : b ≠ (s.heap.push (set0 w)).objs.size := by
            rw [Heap.size_push]; exact Nat.ne_of_lt (Nat.lt_succ_of_lt hb)
          exact hm.heap b o (by simp only [List.mem_cons, List.mem_singleton, List.not_mem_nil, or_false, not_or]; exact ⟨hb1, hb2⟩) (Heap.get?_push_of_some _ (Heap.get?_push_of_some _ e))
      · cases r₂ with
        | error e => exact hr₂
        | ok fl₂ =>
          cases fl₂ with
          | ret r =>
            obtain ⟨rfl, h', tk, rfl, hS', hk'⟩ := hr₂
            repeat (any_goals (first | assumption | wp_step))
            refine h _ _ hS' hk' ?_
            obtain ⟨o, _, _, _, ho, _⟩ := hS'
            exact Heap.lt_size ho
          | _ => exact hr₂.elim
    | _ => exact hr.elim

/-- sorted(set) -/
theorem sorted_setS {a : Addr} {l : List Str} {Q : Value → Shared → Prop} (R : SetS w s.heap a l) (hh : A.handled = none) (h64 : l.length < 64)
    (hQ : ∀ s' p (out : Array Value) (c : Nat) (ys : List Str), (∀ b o, s.heap.get? b = some o → s'.heap.get? b = some o) → s'.gens = s.gens → s'.os = s.os → s.heap.objs.size ≤ p →
      s'.heap.get? p = some (seqObj "list" out c) → StrsAre out.toList ys → ys.Perm l → sortedS ys = true → Q (.ref p) s') :
    wpAny (model prog w) A (call (.builtin "sorted") [.ref a]) Q E s := by
  obtain ⟨o, es, ep, t, ho, hex, hd, g, pl, nd, hb, hf, hr, hl⟩ := R
  refine Calls.call_function_entry kind_sorted plain_sorted entry_sorted (args_sorted1 _) ?_
  unfold Builtin.«sorted»
  refine wpAny_bind (m := checkCount "sorted" 1 1 _) (wpAny_pure ?_)
  refine wpAny_bind (collect_set (A := A.in1) hh ⟨o, ho, hex.1, hd⟩ hf hb hr hl fun s1 vs k1 hz g1 o1 pm => ?_)
  have pk : (vs.map fun v => skey (0, v)).Perm l := by
    have q := pm.map fun v => skey (0, v)
    rw [List.map_map] at q
    exact q.trans pl
  have hS : StrsAre vs (vs.map fun v => skey (0, v)) := by
    have key : ∀ us : List Value, (∀ v ∈ us, ∃ x tk, v = Value.str x tk) → StrsAre us (us.map fun v => skey (0, v)) := by
      intro us
      induction us with
      | nil => intro _; exact .nil
      | cons u us ih =>
        intro h
        obtain ⟨x, tk, rfl⟩ := h u List.mem_cons_self
        exact .cons x tk (ih fun v hv => h v (List.mem_cons_of_mem _ hv))
    refine key vs fun v hv => ?_
    obtain ⟨e, he, q⟩ := List.mem_map.mp (pm.mem_iff.mp hv)
    obtain ⟨x, tk, h1, _⟩ := g e he
    exact ⟨x, tk, by rw [← q]; exact h1⟩
  have hvl : vs.length = l.length := by rw [← pk.length_eq, List.length_map]
  refine wpAny_bind (wpAny_newList ?_ (by rw [hvl, sizeLine_eq]; omega))
  have hoL : (s1.heap.push (seqObj "list" vs.toArray 0)).get? s1.heap.objs.size = some (seqObj "list" vs.toArray 0) := Heap.get?_push_size _ rfl
  refine wpAny_bind (wpAny_holding (wpAny_call_entry slot_list_sort ⟨_, hoL, rfl⟩ entry_list_sort
    (list_sort_treeK strKind_oneLt hoL hS.keysOf (fun v₁ v₂ rest e => keyKind_strs (by rw [← e]; exact hS)) (by rw [hvl]; exact h64) fun st' hp hs => ⟨_, rfl, ?_⟩) (args_list_sort _)))
  obtain ⟨ys, g1', g2, g3⟩ := sorted_out_str hS hp hs
  obtain ⟨c, hc⟩ := sortedHeap_at (vs := vs) (out := (arrOf st').map (·.2)) hoL
  refine wpAny_pure ⟨_, rfl, hQ _ s1.heap.objs.size _ c ys (fun b u e => ?_) g1 o1 hz hc g1' (g2.trans pk) g3⟩
  have q := k1 b u e
  have hlt := Heap.lt_size q
  show (sortedHeap (s1.heap.push (seqObj "list" vs.toArray 0)) s1.heap.objs.size vs ((arrOf st').map (·.2))).get? b = some u
  rw [sortedHeap_old (Nat.ne_of_lt hlt) (by rw [size_push']; exact Nat.lt_succ_of_lt hlt)]
  exact Heap.get?_push_of_some _ q
end

end Eng

set_option maxHeartbeats 3200000
namespace Eng
open PySem PySem.Spec PyProof.Rows L2

/-! ### expressions: len(set(xs)), sorted(set(xs)) -/
section
variable {X : Cx}
def SqA (K : PySem.W.Frag) (H : Hp) (x : V) (ys : List Str) : Prop := ∃ l, x = .ref l ∧ (SqL K H l (ys.map V.str) ∨ SqT K H l (ys.map V.str))
theorem set_of {pins : List (Addr × Obj)} {σ : L2.St} {H : Hp} {s : Shared} {v : V} {u : Value} {ys : List Str} (I : Inv X pins σ H s) (hc : X.calm = true) (r : RelV v u) (hq : SqA X.K H v ys) (hb : ys.length + 1 < scanBound) {Q : Value → Shared → Prop} {E : Value → Shared → Prop}
    (h : ∀ (h' : Heap) (tk : Nat), SetS X.w h' s.heap.objs.size (ys.foldl addS []) → Inv X pins σ H { s with heap := h', toks := tk } → Q (.ref s.heap.objs.size) { s with heap := h', toks := tk }) :
    wpAny (model X.prog X.w) X.A (call (.type "set") [u]) Q E s := by
  obtain ⟨l, rfl, hq⟩ := hq
  cases r
  rcases hq with hq | hq
  · obtain ⟨its, r, pl, hz⟩ := I.list hq
    exact call_set_ls (I.ok.hd hc) pl.isList (by simpa using strsAre_of r) hb fun h' tk hS hk hlt => h h' tk hS (I.kept fun b o e => hk b o (Heap.lt_size e) e)
  · obtain ⟨its, r, pl, hz⟩ := I.tuple hq
    exact call_set_ts (I.ok.hd hc) pl (by simpa using strsAre_of r) hb fun h' tk hS hk hlt => h h' tk hS (I.kept fun b o e => hk b o (Heap.lt_size e) e)
def tLenSs (K : PySem.W.Frag) (ta : TE) : TE := fun σ H Q => ta σ H fun x H1 => ∃ ys, SqA K H1 x ys ∧ ys.length < 1000 ∧ Q (.int (ys.foldl addS []).length) H1
def tSortSs (K : PySem.W.Frag) (ta : TE) : TE := fun σ H Q => ta σ H fun x H1 => ∃ ys, SqA K H1 x ys ∧ ys.length < 1000 ∧ (ys.foldl addS []).length < 64 ∧
  ∀ zs p, zs.Perm (ys.foldl addS []) → sortedS zs = true → H1 p = none → Q (.ref p) (upd H1 p (.lst (zs.map V.str)))
theorem pe_lenSs {a : Expr} {ta : TE} {p p2 q pos : Pos} (hc : X.calm = true) (hg : Gl X "len") (hm : X.mg "len" = none) (hg2 : Gl X "set") (hm2 : X.mg "set" = none) (ha : PE X a ta)
    (na : starEach [a] X.env = (false, eval a X.env) :: starEach [] X.env := by rfl) : PE X (.Call (.Name "len" p) [.Call (.Name "set" p2) [a] [] q] [] pos) (tLenSs X.K ta) := by
  refine ⟨fun pins s σ H Q I h => ?_⟩
  refine Call_ (ld_blt I hg hm boot_len ?_)
  refine PyProof.Rows.callWith_builtin1 (PyProof.Rows.args_cons ?_ rfl) rfl rfl
  refine Call_ (ld_blt I hg2 hm2 boot_set ?_)
  refine PyProof.Rows.callWith_type1 (PyProof.Rows.args_cons (thn (ha.run pins s σ H _ I h) fun v s1 ⟨x, H1, I1, r1, q1⟩ => PyProof.Rows.args_nil ?_) na) na rfl
  obtain ⟨ys, hq, h1, q1⟩ := q1
  refine set_of I1 hc r1 hq (by unfold scanBound; omega) fun h' tk hS I2 => ?_
  refine PyProof.Rows.args_nil ?_
  obtain ⟨o, es, ep, t, ho, hex, hd, _, pl, _, hb, hf, _⟩ := hS
  have hn : es.size = (ys.foldl addS []).length := by rw [← Array.length_toList, ← List.length_map (f := skey), pl.length_eq]
  exact call_len_set ho hex hd hf (by unfold scanBound at hb; omega) ⟨.int _, H1, I2.tok _, ⟨_, by rw [hn]⟩, q1⟩
theorem pe_sortSs {a : Expr} {ta : TE} {p p2 q pos : Pos} (hc : X.calm = true) (hg : Gl X "sorted") (hm : X.mg "sorted" = none) (hv : bootBuiltins "sorted" = some (.builtin "sorted")) (hg2 : Gl X "set") (hm2 : X.mg "set" = none) (ha : PE X a ta)
    (na : starEach [a] X.env = (false, eval a X.env) :: starEach [] X.env := by rfl) : PE X (.Call (.Name "sorted" p) [.Call (.Name "set" p2) [a] [] q] [] pos) (tSortSs X.K ta) := by
  refine ⟨fun pins s σ H Q I h => ?_⟩
  refine Call_ (ld_blt I hg hm hv ?_)
  refine PyProof.Rows.callWith_builtin1 (PyProof.Rows.args_cons ?_ rfl) rfl rfl
  refine Call_ (ld_blt I hg2 hm2 boot_set ?_)
  refine PyProof.Rows.callWith_type1 (PyProof.Rows.args_cons (thn (ha.run pins s σ H _ I h) fun v s1 ⟨x, H1, I1, r1, q1⟩ => PyProof.Rows.args_nil ?_) na) na rfl
  obtain ⟨ys, hq, h1, h2, q1⟩ := q1
  refine set_of I1 hc r1 hq (by unfold scanBound; omega) fun h' tk hS I2 => ?_
  refine PyProof.Rows.args_nil ?_
  refine sorted_setS hS (I1.ok.hd hc) h2 fun s' p out c zs k g o hp hg hi hm hs => ?_
  have hlen : (zs.map V.str).length ≤ sizeLine := by rw [List.length_map, hm.length_eq, sizeLine_eq]; omega
  have hn : H1 p = none := I2.hok.fresh hp
  have J : Inv X pins σ (upd H1 p (.lst (zs.map V.str))) { s1 with heap := s'.heap, gens := s'.gens, drawn := s'.drawn, toks := s'.toks } :=
    Inv.call (s := { s1 with heap := h', toks := tk }) I2 (ch := []) (Un.laid k hp hn) (I2.hok.laid k hp ⟨hlen, out.toList, c, vals_of_strs hi, hg⟩) (by rw [g]; exact I2.bare) (fun _ z => nomatch z)
  have e : s' = { s1 with heap := s'.heap, gens := s'.gens, drawn := s'.drawn, toks := s'.toks } := by
    cases s'
    cases s1
    cases o
    rfl
  rw [e]
  exact ⟨.ref p, _, J, rfl, q1 zs p hm hs hn⟩
end
end Eng

set_option maxHeartbeats 1000000
namespace Eng
open PySem PySem.Spec PyProof.Rows L2

/-! ### len(set(xs)), sorted(set(xs)), xs texts -/
def addD (l : List (List Nat)) (x : List Nat) : List (List Nat) := if x ∈ l then l else x :: l
def ddS (ys : List (List Nat)) : List (List Nat) := ys.foldl addD []
theorem mem_addD {l : List (List Nat)} {x y : List Nat} : y ∈ addD l x ↔ y ∈ l ∨ y = x := by
  unfold addD
  split
  · rename_i h
    exact ⟨.inl, fun q => q.elim id fun e => e ▸ h⟩
  · rw [List.mem_cons]
    exact Or.comm
theorem addD_nodup {l : List (List Nat)} (h : l.Nodup) (x : List Nat) : (addD l x).Nodup := by
  unfold addD
  split
  · exact h
  · rename_i n
    exact List.nodup_cons.mpr ⟨n, h⟩
theorem mem_foldD : ∀ (ys l : List (List Nat)) {y : List Nat}, y ∈ ys.foldl addD l ↔ y ∈ l ∨ y ∈ ys
  | [], l, y => by simp
  | x :: ys, l, y => by
    rw [List.foldl_cons, mem_foldD ys, mem_addD, List.mem_cons]
    exact or_assoc
theorem foldD_nodup : ∀ (ys l : List (List Nat)), l.Nodup → (ys.foldl addD l).Nodup
  | [], l, h => h
  | x :: ys, l, h => foldD_nodup ys _ (addD_nodup h x)
theorem mem_dd {ys : List (List Nat)} {y : List Nat} : y ∈ ddS ys ↔ y ∈ ys := by
  unfold ddS
  rw [mem_foldD]
  simp
theorem dd_nodup (ys : List (List Nat)) : (ddS ys).Nodup := foldD_nodup ys [] List.nodup_nil
theorem addS_toS (l : List (List Nat)) (x : List Nat) : addS (l.map toS) (toS x) = (addD l x).map toS := by
  have h : toS x ∈ l.map toS ↔ x ∈ l := by
    rw [List.mem_map]
    exact ⟨fun ⟨y, hy, e⟩ => toS_inj.mp e ▸ hy, fun q => ⟨x, q, rfl⟩⟩
  unfold addS addD
  by_cases q : x ∈ l
  · rw [if_pos q, if_pos (h.mpr q)]
  · rw [if_neg q, if_neg fun z => q (h.mp z)]
    rfl
theorem foldS_toS : ∀ (ys l : List (List Nat)), (ys.map toS).foldl addS (l.map toS) = (ys.foldl addD l).map toS
  | [], l => rfl
  | y :: ys, l => by
    rw [List.map_cons, List.foldl_cons, addS_toS, foldS_toS ys, List.foldl_cons]
theorem dd_toS (ys : List (List Nat)) : (ys.map toS).foldl addS [] = (ddS ys).map toS := foldS_toS ys []
def txts : Val → Option (List (List Nat))
  | .lst xs => strsOf xs
  | .tup xs => strsOf xs
  | _ => none
def vLenSet : List Val → Option SV
  | [x] => match txts x with
    | some ys => if ys.length < 1000 then some (.v (.int (ddS ys).length)) else none
    | none => none
  | _ => none
def vSortSet : List Val → Option SV
  | [x] => match txts x with
    | some ys => if ys.length < 1000 ∧ (ddS ys).length < 64 then some (.fl ((sortS (ddS ys)).map .str)) else none
    | none => none
  | _ => none
section
variable {X : Cx} {L : Lx} {W : WX} {e : Expr} {p p2 q pos : Pos} {fa : Fe}
theorem txts_sq {H : Hp} {T : Ts} {x : Val} {v : V} {ys : List (List Nat)} (n : Now (gx L X) H T x v) (h : txts x = some ys) : SqA X.K H v (ys.map toS) ∧ ∀ b ∈ ys, SOk b = true := by
  unfold txts at h
  split at h
  · obtain ⟨a, us, rfl, ha, r⟩ := n.lstOf
    obtain ⟨e1, e2⟩ := r.strs h
    subst e1
    exact ⟨⟨a, rfl, .inl (.inl (.inl ha))⟩, e2⟩
  · obtain ⟨a, us, rfl, ha, r⟩ := n.tupOf
    obtain ⟨e1, e2⟩ := r.strs h
    subst e1
    exact ⟨⟨a, rfl, .inr ha.sq⟩, e2⟩
  · cases h
theorem eB_one (v : List Val → Option SV) (env : Env) (st : Sto) : eB v (aCons fa aNil) env st = (fa env st).bind fun z st1 => outO ((valsOf st1 [z.froz]).bind v) st1 := by
  unfold eB aCons aNil
  cases fa env st <;> rfl
theorem ee_lenset (hc : X.calm = true) (hg : Gl X "len") (hm : X.mg "len" = none) (hg2 : Gl X "set") (hm2 : X.mg "set" = none) (ha : EE L X W e fa)
    (na : starEach [e] X.env = (false, eval e X.env) :: starEach [] X.env := by rfl) :
    EE L X W (.Call (.Name "len" p) [.Call (.Name "set" p2) [e] [] q] [] pos) (eB vLenSet (aCons fa aNil)) := by
  refine PE.weak (pe_lenSs hc hg hm hg2 hm2 ha na) fun σ H Q ⟨env, st, ρ, P, re, rs, q⟩ => ⟨env, st, ρ, P, re, rs, ?_⟩
  rw [eB_one] at q
  refine Post.then q fun z st1 v H1 k rs1 rx p => ?_
  have p := POp.of p
  cases h1 : z.froz.val st1 with
  | none => simp only [valsOf, h1] at p; exact p.elim
  | some y =>
    simp only [valsOf, h1, Option.bind_some, vLenSet] at p
    have nx := rx.z.now rs1 h1
    split at p
    · rename_i ys h2
      split at p
      · rename_i hl
        obtain ⟨h3, _⟩ := txts_sq (L := L) nx h2
        refine ⟨ys.map toS, h3, by simpa using hl, ?_⟩
        rw [dd_toS, List.length_map]
        exact p.val rs1 (.int _)
      · exact p.elim
    · exact p.elim
theorem ee_sortset (hc : X.calm = true) (hg : Gl X "sorted") (hm : X.mg "sorted" = none) (hg2 : Gl X "set") (hm2 : X.mg "set" = none) (ha : EE L X W e fa)
    (na : starEach [e] X.env = (false, eval e X.env) :: starEach [] X.env := by rfl) :
    EE L X W (.Call (.Name "sorted" p) [.Call (.Name "set" p2) [e] [] q] [] pos) (eB vSortSet (aCons fa aNil)) := by
  refine PE.weak (pe_sortSs hc hg hm PyProof.Rows.boot_sorted hg2 hm2 ha na) fun σ H Q ⟨env, st, ρ, P, re, rs, q⟩ => ⟨env, st, ρ, P, re, rs, ?_⟩
  rw [eB_one] at q
  refine Post.then q fun z st1 v H1 k rs1 rx p => ?_
  have p := POp.of p
  cases h1 : z.froz.val st1 with
  | none => simp only [valsOf, h1] at p; exact p.elim
  | some y =>
    simp only [valsOf, h1, Option.bind_some, vSortSet] at p
    have nx := rx.z.now rs1 h1
    split at p
    · rename_i ys h2
      split at p
      · rename_i hl
        obtain ⟨h3, h4⟩ := txts_sq (L := L) nx h2
        refine ⟨ys.map toS, h3, by simpa using hl.1, by rw [dd_toS, List.length_map]; exact hl.2, fun zs a hp hs hn => ?_⟩
        rw [dd_toS] at hp
        rw [ys_of hp hs]
        exact p.lst rs1 hn (RepVs.ofStrs _ fun b hb => h4 b (mem_dd.mp ((sortS_perm _).mem_iff.mp hb)))
      · exact p.elim
    · exact p.elim
end
end Eng

set_option maxHeartbeats 1000000
namespace Eng
open PySem PySem.Spec PyProof.Rows L2
/-! ### dict comprehensions of two clauses, keys ints or texts -/
theorem dTurn_out (kx vx t0 i0 t1 i1 : Expr) (ifs0 ifs1 : List Expr) (scope : Scope) (pos : Pos) (it acc : Value) (env : PySem.Env) :
    compTurn (.DictComp kx vx [⟨t0, i0, ifs0, 0⟩, ⟨t1, i1, ifs1, 0⟩] scope pos) 0 it acc env = (do
      standAt i0.pos
      match ← pyNext it with
      | none => pure (.done .next)
      | some v =>
        letOwnedTupleGo t0 it v
        assign t0 env v
        let mut ok := true
        for c in ifs0 do
          if ok then ok ← isTrue c env (eval c env)
        if ok then
          let x ← eval i1 env
          standAt i1.pos
          let x ← foldedSetIterable i1 env x
          let _ ← runOwn (.compStart (.DictComp kx vx [⟨t0, i0, ifs0, 0⟩, ⟨t1, i1, ifs1, 0⟩] scope pos) 1 (← holding [x] (pyIter x)) acc env) env
        again (.compLoop (.DictComp kx vx [⟨t0, i0, ifs0, 0⟩, ⟨t1, i1, ifs1, 0⟩] scope pos) 0 it acc env)) := by rfl
theorem dTurn_in (kx vx t0 i0 t1 i1 : Expr) (ifs0 ifs1 : List Expr) (scope : Scope) (pos : Pos) (it : Value) (D : Addr) (env : PySem.Env) :
    compTurn (.DictComp kx vx [⟨t0, i0, ifs0, 0⟩, ⟨t1, i1, ifs1, 0⟩] scope pos) 1 it (.ref D) env = (do
      standAt i1.pos
      match ← pyNext it with
      | none => pure (.done .next)
      | some v =>
        letOwnedTupleGo t1 it v
        assign t1 env v
        let mut ok := true
        for c in ifs1 do
          if ok then ok ← isTrue c env (eval c env)
        if ok then
          (do
            let kv ← eval kx env
            let vv ← holding [kv] (eval vx env)
            standAt { kx.pos with endLine := vx.pos.endLine, endCol := vx.pos.endCol }
            holding [kv, vv] (dictSet D kv vv))
        again (.compLoop (.DictComp kx vx [⟨t0, i0, ifs0, 0⟩, ⟨t1, i1, ifs1, 0⟩] scope pos) 1 it (.ref D) env)) := by rfl
section
variable {prog : Program} {w : World} {A : Around} {R : Result → Shared → Prop} {s : Shared} {kx vx t0 i0 t1 i1 : Expr} {ifs0 ifs1 : List Expr} {scope : Scope} {pos : Pos} {it : Value} {D : Addr} {env : PySem.Env}
theorem dLoop_out (hs : ∀ x, foldedSetIterable i1 env x = pure x) (I : Nat → Shared → Prop)
    (turn : ∀ n s, I n s → wpAny (model prog w) A (pyNext it) (fun r s₁ => match r with
      | none => R (.ok .next) s₁
      | some v => wpAny (model prog w) A (letOwnedTupleGo t0 it v) (fun _ s₁' => wpAny (model prog w) A (assign t0 env v) (fun _ s₂ =>
          wpAny (model prog w) A (forIn ifs0 true fun c r => if r = true then do let ok ← isTrue c env (eval c env); pure (ForInStep.yield ok) else pure (ForInStep.yield r)) (fun ok s₃ =>
            if ok = true then wpAny (model prog w) A (eval i1 env) (fun x s₄ => wpAny (model prog w) A (pyIter x) (fun it1 s₅ =>
              codeAny (model prog w) A (.compStart (.DictComp kx vx [⟨t0, i0, ifs0, 0⟩, ⟨t1, i1, ifs1, 0⟩] scope pos) 1 it1 (.ref D) env) (fun r s' => match r with
                | .ok _ => ∃ m, m < n ∧ I m s'
                | .error _ => False) s₅) (notedBy (model prog w) A env fun e s' => R (.error e) s') s₄) (notedBy (model prog w) A env fun e s' => R (.error e) s') s₃
            else ∃ m, m < n ∧ I m s₃) (notedBy (model prog w) A env fun e s' => R (.error e) s') s₂) (notedBy (model prog w) A env fun e s' => R (.error e) s') s₁') (notedBy (model prog w) A env fun e s' => R (.error e) s') s₁) (notedBy (model prog w) A env fun e s' => R (.error e) s') s)
    (n : Nat) (h : I n s) : codeAny (model prog w) A (.compLoop (.DictComp kx vx [⟨t0, i0, ifs0, 0⟩, ⟨t1, i1, ifs1, 0⟩] scope pos) 0 it (.ref D) env) R s := by
  refine codeAny_loop rfl I (fun n s hI => ?_) n h
  show wpAny _ A ((compTurn (.DictComp kx vx [⟨t0, i0, ifs0, 0⟩, ⟨t1, i1, ifs1, 0⟩] scope pos) 0 it (.ref D) env).onRaise (fun x => do noteFrame x env; theTreesLotGoes x)) _ _ s
  refine wpAny_noted ?_
  rw [dTurn_out]
  refine wpAny_bind (wpAny_standAt (wpAny_bind (wpAny_mono (turn n s hI) (fun r s₁ h₁ => ?_) fun _ _ h' => h')))
  cases r with
  | none => exact wpAny_pure h₁
  | some v =>
    refine wpAny_bind (wpAny_mono h₁ (fun _ s₁' h₁' => wpAny_bind (wpAny_mono h₁' (fun _ s₂ h₂ => wpAny_bind (wpAny_mono h₂ (fun ok s₃ h₃ => ?_) fun _ _ h' => h')) fun _ _ h' => h')) fun _ _ h' => h')
    cases ok with
    | false => exact wpAny_pure ⟨rfl, h₃⟩
    | true =>
      refine wpAny_bind (wpAny_mono h₃ (fun x s₄ h₄ => wpAny_bind (wpAny_standAt (wpAny_bind (wpAny_of_eq (hs x) (wpAny_bind (wpAny_holding (wpAny_mono h₄ (fun it1 s₅ h₅ => ?_) fun _ _ h' => h'))))))) fun _ _ h' => h')
      refine wpAny_bind (wpAny_runOwn ?_)
      rw [Around.mark_none]
      refine codeAny_mono h₅ fun r s' hr => ?_
      cases r with
      | ok f => first | exact wpAny_pure ⟨rfl, hr⟩ | exact wpAny_bind (wpAny_pure (wpAny_pure ⟨rfl, hr⟩))
      | error e => exact hr.elim
theorem dLoop_in (I : Nat → Shared → Prop)
    (turn : ∀ n s, I n s → wpAny (model prog w) A (pyNext it) (fun r s₁ => match r with
      | none => R (.ok .next) s₁
      | some v => wpAny (model prog w) A (letOwnedTupleGo t1 it v) (fun _ s₁' => wpAny (model prog w) A (assign t1 env v) (fun _ s₂ =>
          wpAny (model prog w) A (forIn ifs1 true fun c r => if r = true then do let ok ← isTrue c env (eval c env); pure (ForInStep.yield ok) else pure (ForInStep.yield r)) (fun ok s₃ =>
            if ok = true then wpAny (model prog w) A (eval kx env) (fun kv s₄ => wpAny (model prog w) A (eval vx env) (fun vv s₅ =>
              wpAny (model prog w) A (dictSet D kv vv) (fun _ s₆ => ∃ m, m < n ∧ I m s₆) (notedBy (model prog w) A env fun e s' => R (.error e) s') s₅) (notedBy (model prog w) A env fun e s' => R (.error e) s') s₄) (notedBy (model prog w) A env fun e s' => R (.error e) s') s₃
            else ∃ m, m < n ∧ I m s₃) (notedBy (model prog w) A env fun e s' => R (.error e) s') s₂) (notedBy (model prog w) A env fun e s' => R (.error e) s') s₁') (notedBy (model prog w) A env fun e s' => R (.error e) s') s₁) (notedBy (model prog w) A env fun e s' => R (.error e) s') s)
    (n : Nat) (h : I n s) : codeAny (model prog w) A (.compLoop (.DictComp kx vx [⟨t0, i0, ifs0, 0⟩, ⟨t1, i1, ifs1, 0⟩] scope pos) 1 it (.ref D) env) R s := by
  refine codeAny_loop rfl I (fun n s hI => ?_) n h
  show wpAny _ A ((compTurn (.DictComp kx vx [⟨t0, i0, ifs0, 0⟩, ⟨t1, i1, ifs1, 0⟩] scope pos) 1 it (.ref D) env).onRaise (fun x => do noteFrame x env; theTreesLotGoes x)) _ _ s
  refine wpAny_noted ?_
  rw [dTurn_in]
  refine wpAny_bind (wpAny_standAt (wpAny_bind (wpAny_mono (turn n s hI) (fun r s₁ h₁ => ?_) fun _ _ h' => h')))
  cases r with
  | none => exact wpAny_pure h₁
  | some v =>
    refine wpAny_bind (wpAny_mono h₁ (fun _ s₁' h₁' => wpAny_bind (wpAny_mono h₁' (fun _ s₂ h₂ => wpAny_bind (wpAny_mono h₂ (fun ok s₃ h₃ => ?_) fun _ _ h' => h')) fun _ _ h' => h')) fun _ _ h' => h')
    cases ok with
    | false => exact wpAny_pure ⟨rfl, h₃⟩
    | true =>
      exact wpAny_bind (wpAny_bind (wpAny_mono h₃ (fun kv s₄ h₄ => wpAny_bind (wpAny_holding (wpAny_mono h₄ (fun vv s₅ h₅ => wpAny_bind (wpAny_standAt (wpAny_holding (wpAny_mono h₅ (fun _ s₆ h₆ => wpAny_pure ⟨rfl, h₆⟩) fun _ _ h' => h')))) fun _ _ h' => h'))) fun _ _ h' => h'))
theorem dStart1 (h0 : codeAny (model prog w) A (.compLoop (.DictComp kx vx [⟨t0, i0, ifs0, 0⟩, ⟨t1, i1, ifs1, 0⟩] scope pos) 1 it (.ref D) env) R s)
    (h : wpAny (model prog w) A (pyIter it) (fun it' s' => codeAny (model prog w) A (.compLoop (.DictComp kx vx [⟨t0, i0, ifs0, 0⟩, ⟨t1, i1, ifs1, 0⟩] scope pos) 1 it' (.ref D) env) R s') (notedBy (model prog w) A env fun x s' => R (.error x) s') s) :
    codeAny (model prog w) A (.compStart (.DictComp kx vx [⟨t0, i0, ifs0, 0⟩, ⟨t1, i1, ifs1, 0⟩] scope pos) 1 it (.ref D) env) R s := by
  refine codeAny_of_tree ?_
  show wpAny _ _ ((compStart (.DictComp kx vx [⟨t0, i0, ifs0, 0⟩, ⟨t1, i1, ifs1, 0⟩] scope pos) 1 it (.ref D) env).onRaise (fun x => do noteFrame x env; standAt theWindowsPlace)) _ _ s
  refine wpAny_notedAt ?_
  unfold compStart
  show wpAny _ _ (ask >>= _) _ _ s
  refine wpAny_bind (wpAny_askSetting (wpAny_ite ?_))
  split
  · first
      | exact wpAny_bind (wpAny_pure (wpAny_pure (And.intro rfl h0)))
      | exact wpAny_pure (And.intro rfl h0)
  · first
      | exact wpAny_bind (wpAny_rule (wpAny_bind (wpAny_standAt (wpAny_bind (wpAny_mono h (fun it' s' h' => wpAny_pure (And.intro rfl h')) fun _ _ x => x)))))
      | (refine wpAny_bind (wpAny_rule ?_); show wpAny _ _ (standAt i1.pos >>= _) _ _ s; exact wpAny_bind (wpAny_standAt (wpAny_bind (wpAny_mono h (fun it' s' h' => wpAny_pure (And.intro rfl h')) fun _ _ x => x))))
end
section
variable {X : Cx}
/-- what a turn, and the end, of such a comprehension ask -/
def tDc2 (wi : TI) (g : TG) (tt : TT) (wi1 : TI) (g1 : TG) (tt1 : TT) (tk tv : TE) (vs vs1 : List Nat) : TE := fun σ H Q => wi σ H fun J H1 => ∀ D, H1 D = none → ∃ Wt : Nat → Nat → Hp → Prop, (∃ m, Wt 0 m (upd H1 D (.dK []))) ∧ ∀ i m Ha, Wt i m Ha →
  (J.stop i Ha ∧ Q (.ref D) Ha) ∨ (J.go i Ha ∧ ∃ Nx : Hp → Prop, (∀ Hb, Nx Hb → ∃ m', m' < m ∧ Wt (i + 1) m' Hb) ∧ ∀ x Hb, J.yld i Ha x Hb → g x (L2.wipe σ vs) Hb fun σ2 Hc => L2.wipe σ2 vs = L2.wipe σ vs ∧ tt σ2 Hc fun b Hd =>
    if b = true then wi1 σ2 Hd fun J1 H4 => ∃ W1 : Nat → Nat → Hp → Prop, (∃ m, W1 0 m H4) ∧ ∀ j k He, W1 j k He →
      (J1.stop j He ∧ Nx He) ∨ (J1.go j He ∧ ∃ Nx1 : Hp → Prop, (∀ H', Nx1 H' → ∃ k', k' < k ∧ W1 (j + 1) k' H') ∧ ∀ x H', J1.yld j He x H' → g1 x (L2.wipe σ2 vs1) H' fun σ3 H5 => L2.wipe σ3 vs1 = L2.wipe σ2 vs1 ∧ tt1 σ3 H5 fun b H6 =>
        if b = true then tk σ3 H6 fun y H7 => tv σ3 H7 fun z H8 => ∃ kvs k, y = kV k ∧ H8 D = some (.dK kvs) ∧ kvs.length < sizeLine ∧ Nx1 (upd H8 D (.dK (putK kvs k z))) else Nx1 H6)
    else Nx Hd)
variable {kx vx tg iter tg1 iter1 : Expr} {ifs ifs1 : List Expr} {scope : Scope} {own : List (Str × Nat)} {vs1 : List Nat} {pos : Pos} {wi wi1 : TI} {g g1 : TG} {tt tt1 : TT} {tk tv : TE}
theorem pe_dc2 (hc : X.calm = true) (hN : X.N.Nodup) (hi : PI X tg iter wi) (ok : BlkOk X.N X.env.scope scope own) (hv : ∀ i ∈ vs1, i ∈ own.map (·.2))
    (hg : ∀ (s : Shared) (H : Hp) (C : Addr) (cl : List (Str × Addr)) (fp : List Addr), PG (X.blk s H scope (compEnvC scope cl C X.env) fp) tg g) (ht : ∀ (s : Shared) (H : Hp) (C : Addr) (cl : List (Str × Addr)) (fp : List Addr), PTs (X.blk s H scope (compEnvC scope cl C X.env) fp) ifs tt) (hi1 : ∀ (s : Shared) (H : Hp) (C : Addr) (cl : List (Str × Addr)) (fp : List Addr), PI (X.blk s H scope (compEnvC scope cl C X.env) fp) tg1 iter1 wi1) (hg1 : ∀ (s : Shared) (H : Hp) (C : Addr) (cl : List (Str × Addr)) (fp : List Addr), PG (X.blk s H scope (compEnvC scope cl C X.env) fp) tg1 g1) (ht1 : ∀ (s : Shared) (H : Hp) (C : Addr) (cl : List (Str × Addr)) (fp : List Addr), PTs (X.blk s H scope (compEnvC scope cl C X.env) fp) ifs1 tt1)
    (hk : ∀ (s : Shared) (H : Hp) (C : Addr) (cl : List (Str × Addr)) (fp : List Addr), PE (X.blk s H scope (compEnvC scope cl C X.env) fp) kx tk) (he : ∀ (s : Shared) (H : Hp) (C : Addr) (cl : List (Str × Addr)) (fp : List Addr), PE (X.blk s H scope (compEnvC scope cl C X.env) fp) vx tv) (hs : ∀ x, foldedSetIterable iter X.env x = pure x := by intro _; rfl) (hs1 : ∀ env x, foldedSetIterable iter1 env x = pure x := by intro _ _; rfl) :
    PE X (.DictComp kx vx [⟨tg, iter, ifs, 0⟩, ⟨tg1, iter1, ifs1, 0⟩] scope pos) (tDc2 wi g tt wi1 g1 tt1 tk tv (own.map (·.2)) vs1) := by
  refine ⟨fun pins s σ H Q I0 hw => ?_⟩
  rw [arm_eval_DictComp]
  have hfree : ∀ y ∈ scope.names, y.2 = .free → ∃ c, X.env.cells.lookup y.1 = some c := fun y hy ef => (ok.free y hy ef).elim (fun k => I0.ok.has _ (.inl k)) fun k => I0.ok.has _ (.inr k)
  refine wpAny_comprehension_free (use := none) rfl hs (closure_ok hfree) ok.kind (fun y hy ef => by rw [ok.uniq y hy, ef]) (thn (hi.run pins s σ H _ I0 hw) fun _ s1 h1 => thn h1 fun _ s2 h2 => ?_)
  obtain ⟨it, fp, tn, J, H2, rfl, I2, T, st2, f2, q⟩ := h2
  refine wpAny_newObj_type (newEnv_comp ?_)
  obtain ⟨D, eD⟩ : ∃ D, D = s2.heap.objs.size := ⟨_, rfl⟩
  rw [← eD]
  obtain ⟨Wt, ⟨m0, w0⟩, turn⟩ := q D (I2.hok.fresh (Nat.le_of_eq eD.symm))
  obtain ⟨s3, e3⟩ : ∃ s3 : Shared, s3 = { s2 with heap := s2.heap.push { cls := .type "dict", data := .dict #[] } } := ⟨_, rfl⟩
  have h3 : s3.heap = s2.heap.push { cls := .type "dict", data := .dict #[] } := by rw [e3]
  have I3 : Inv X pins σ (upd H2 D (.dK [])) s3 := by
    rw [e3]
    exact I2.laid (t' := s2.toks) (fun b o e => Heap.get?_push_of_some _ e) (Nat.le_of_eq eD.symm) (by rw [eD]; exact dk_empty s2.heap I2.big)
  have f3 : ∀ b ∈ fp, FpOk X pins (upd H2 D (.dK [])) b ∧ b < s3.heap.objs.size := fun b hb => by
    obtain ⟨o, e, _⟩ := T.obj _ _ st2 b hb
    have hlt : b < s2.heap.objs.size := Heap.lt_size e
    refine ⟨⟨?_, (f2 b hb).2⟩, by rw [h3, Heap.size_push]; exact Nat.lt_succ_of_lt hlt⟩
    rw [upd_ne (by rw [eD]; exact Nat.ne_of_lt hlt)]
    exact (f2 b hb).1
  have st3 : tn 0 s3.heap := T.keep _ _ _ st2 fun b _ o e => by rw [h3]; exact Heap.get?_push_of_some _ e
  have I4 := block_start I3 ok hN f3
  have eEnv : ∃ ce, ce = compEnvC scope (cellsFrom (s3.heap.objs.size + 1) scope.names (cloFrom X.env.cells scope.names [])) s3.heap.objs.size X.env := ⟨_, rfl⟩
  obtain ⟨ce, ece⟩ := eEnv
  have cL : ce.locals = s3.heap.objs.size := by rw [ece]; rfl
  have pg := hg s3 (upd H2 D (.dK [])) s3.heap.objs.size (cellsFrom (s3.heap.objs.size + 1) scope.names (cloFrom X.env.cells scope.names [])) fp
  have pt := ht s3 (upd H2 D (.dK [])) s3.heap.objs.size (cellsFrom (s3.heap.objs.size + 1) scope.names (cloFrom X.env.cells scope.names [])) fp
  have pi1 := hi1 s3 (upd H2 D (.dK [])) s3.heap.objs.size (cellsFrom (s3.heap.objs.size + 1) scope.names (cloFrom X.env.cells scope.names [])) fp
  have pg1 := hg1 s3 (upd H2 D (.dK [])) s3.heap.objs.size (cellsFrom (s3.heap.objs.size + 1) scope.names (cloFrom X.env.cells scope.names [])) fp
  have pt1 := ht1 s3 (upd H2 D (.dK [])) s3.heap.objs.size (cellsFrom (s3.heap.objs.size + 1) scope.names (cloFrom X.env.cells scope.names [])) fp
  have pk := hk s3 (upd H2 D (.dK [])) s3.heap.objs.size (cellsFrom (s3.heap.objs.size + 1) scope.names (cloFrom X.env.cells scope.names [])) fp
  have pv := he s3 (upd H2 D (.dK [])) s3.heap.objs.size (cellsFrom (s3.heap.objs.size + 1) scope.names (cloFrom X.env.cells scope.names [])) fp
  rw [← e3]
  rw [← ece] at I4 pg pt pi1 pg1 pt1 pk pv
  show codeAny _ _ (.compStart (.DictComp kx vx [⟨tg, iter, ifs, 0⟩, ⟨tg1, iter1, ifs1, 0⟩] scope pos) 0 (.ref it) (.ref D) (compEnvC scope (cellsFrom (s3.heap.objs.size + 1) scope.names (cloFrom X.env.cells scope.names [])) s3.heap.objs.size X.env)) _ { s3 with heap := pushCells (s3.heap.push { cls := .type "dict", data := .dict #[] }) scope.names }
  rw [← ece]
  have nfp : ∀ b ∈ fp, (upd H2 D (.dK [])) b = none := fun b hb => (f3 b hb).1.1
  obtain ⟨H3, eH3⟩ : ∃ H3, H3 = upd H2 D (.dK []) := ⟨_, rfl⟩
  rw [← eH3] at I3 I4 pg pt pi1 pg1 pt1 pk pv w0 nfp f3
  obtain ⟨s4, e4⟩ : ∃ s4 : Shared, s4 = { s3 with heap := pushCells (s3.heap.push { cls := .type "dict", data := .dict #[] }) scope.names } := ⟨_, rfl⟩
  rw [← e4] at I4 ⊢
  have st4 : tn 0 s4.heap := T.keep _ _ _ st3 fun b _ o e => by rw [e4]; exact pushCells_keeps _ _ _ _ (Heap.get?_push_of_some _ e)
  -- the iterator's things, at any point of the block
  have fpB : ∀ {σ' : L2.St} {Ha : Hp} {sa : Shared}, Inv (X.blk s3 H3 scope ce fp) [] σ' Ha sa → (∀ b ∈ fp, Ha b = none) → ∀ b ∈ fp, FpOk (X.blk s3 H3 scope ce fp) [] Ha b := fun {σ' Ha sa} Ia hn b hb =>
    ⟨hn b hb, (Ia.ok.exf b hb).1, Ia.ok.exfs b hb, .inl hb, fun x c e => (Ia.ok.exf b hb).2 x c e, fun p hp => absurd (show p ∈ ([] : List (Addr × Obj)) ++ [] from hp) (by simp)⟩
  have St : codeAny (model X.prog X.w) X.A (.compLoop (.DictComp kx vx [⟨tg, iter, ifs, 0⟩, ⟨tg1, iter1, ifs1, 0⟩] scope pos) 0 (.ref it) (.ref D) ce) (compPost (model X.prog X.w) X.A X.xe none (L2.EP X pins σ Q) (.ref D) s3.heap.objs.size) s4 := by
    refine dLoop_out (hs1 ce) (fun n sa => ∃ i Ha, Inv (X.blk s3 H3 scope ce fp) [] (L2.wipe σ (own.map (·.2))) Ha sa ∧ tn i sa.heap ∧ (∀ b ∈ fp, Ha b = none) ∧ Wt i n Ha) (fun n s5 hI => ?_) m0 ⟨0, H3, I4, st4, nfp, w0⟩
    obtain ⟨i, H5, I5, st5, n5, w5⟩ := hI
    rcases turn i n H5 w5 with ⟨stop, qq⟩ | ⟨go, Nx, hNx, step⟩
    · refine thnF (T.done (X.blk s3 H3 scope ce fp) rfl rfl rfl hc i [] s5 _ H5 (fun _ _ => False) I5 (fpB I5 n5) st5 stop) fun r s6 z => ?_
      obtain ⟨rfl, I6⟩ := z
      have I7 : Inv X pins σ H5 s6 := I3.call' (ch := fp) I6.os I6.base I6.hok I6.bare fun b hb => ⟨(f3 b hb).1.2.2.2.1, (f3 b hb).1.2.1, (f3 b hb).1.2.2.2.2.1, (f3 b hb).1.2.2.2.2.2⟩
      have nC : H5 s3.heap.objs.size = none := by
        have z : H5 ce.locals = none := I6.free
        rw [cL] at z
        exact z
      obtain ⟨m, hn, _⟩ := I6.loc
      have hn : s6.heap.Ns ce.locals m := hn
      rw [cL] at hn
      refine ⟨m, hn, fun h'' sb => ?_⟩
      obtain ⟨a0, a1, a2, a3, a4, a5⟩ := I3.fpOk (Nat.le_refl _) nC
      exact ⟨.ref D, H5, I7.turned (t' := s6.toks) (fun b o hb e => (sb.2 b hb).trans e) a0 a1 a3 a4 a5, rfl, qq⟩
    · refine thnF (T.item (X.blk s3 H3 scope ce fp) rfl rfl rfl hc i [] s5 _ H5 (fun _ _ => False) I5 (fpB I5 n5) st5 go) fun r s6 z => ?_
      obtain ⟨u, rfl, h6⟩ := z
      refine thnF h6 fun _ s7 z => ?_
      obtain ⟨x, H7, I7, r7, y7, st7, n7⟩ := z
      have J7 := I7.pinned (fpB I7 n7) (T.obj _ _ st7)
      have next : ∀ {sa : Shared} {Ha : Hp} {σ9 : L2.St}, (L2.wipe σ (own.map (·.2))).length = σ9.length → (∀ (j : Nat) v, (L2.wipe σ (own.map (·.2)))[j]? = some (some v) → σ9[j]? = some (some v)) → Inv (X.blk s3 H3 scope ce fp) ([] ++ pinsAt fp s7.heap) σ9 Ha sa → Nx Ha →
          ∃ m, m < n ∧ ∃ i Ha, Inv (X.blk s3 H3 scope ce fp) [] (L2.wipe σ (own.map (·.2))) Ha sa ∧ tn i sa.heap ∧ (∀ b ∈ fp, Ha b = none) ∧ Wt i m Ha := fun {sa Ha σ9} hl hk Ia nx => by
        obtain ⟨m', hm, w'⟩ := hNx Ha nx
        have pin : ∀ b ∈ fp, ∀ o, s7.heap.get? b = some o → sa.heap.get? b = some o ∧ Ha b = none := fun b hb o e => by
          have z := Ia.pin (b, o) (List.mem_append_right _ (List.mem_append_right _ (mem_pinsAt hb e)))
          exact ⟨z.1, z.2.1⟩
        refine ⟨m', hm, i + 1, Ha, (Ia.unpinned (pins := [])).weak hl hk, T.keep _ _ _ st7 fun b hb o e => (pin b hb o e).1, fun b hb => ?_, w'⟩
        obtain ⟨o, e, _⟩ := T.obj _ _ st7 b hb
        exact (pin b hb o e).2
      refine thnF (pg.run _ s7 _ H7 x u _ J7 r7 (step x H7 y7)) fun _ s8 z => ?_
      obtain ⟨σ8, H8, I8, hw8, q8⟩ := z
      refine thnF (pt.run _ s8 σ8 H8 _ I8 q8) fun b s9 z => ?_
      obtain ⟨H9, I9, q9⟩ := z
      have hl8 : (L2.wipe σ (own.map (·.2))).length = σ8.length := by rw [← hw8, wipe_length]
      have hk8 : ∀ (j : Nat) v, (L2.wipe σ (own.map (·.2)))[j]? = some (some v) → σ8[j]? = some (some v) := fun j v e => by
        rw [← hw8] at e
        exact (wipe_some e).1
      have hk9 : ∀ (j : Nat) v, (L2.wipe σ (own.map (·.2)))[j]? = some (some v) → (L2.wipe σ8 vs1)[j]? = some (some v) := fun j v e => by
        rw [← hw8] at e
        obtain ⟨e1, e2⟩ := wipe_some e
        rw [wipe_out fun z => e2 (hv j z)]
        exact e1
      cases b with
      | false =>
        simp only [Bool.false_eq_true, if_false] at q9 ⊢
        exact next hl8 hk8 I9 q9
      | true =>
        simp only [if_true] at q9 ⊢
        refine thnF (pi1.run _ s9 σ8 H9 _ I9 q9) fun _ s10 z => thnF z fun _ s11 z => ?_
        obtain ⟨it1, fp1, tn1, J1, H11, rfl, I11, T1, st11, f11, W1, ⟨m1, w1⟩, turn1⟩ := z
        have fpB1 : ∀ {Ha : Hp}, (∀ b ∈ fp1, Ha b = none) → ∀ b ∈ fp1, FpOk (X.blk s3 H3 scope ce fp) ([] ++ pinsAt fp s7.heap) Ha b := fun hn b hb => ⟨hn b hb, (f11 b hb).2⟩
        have St1 : codeAny (model X.prog X.w) X.A (.compLoop (.DictComp kx vx [⟨tg, iter, ifs, 0⟩, ⟨tg1, iter1, ifs1, 0⟩] scope pos) 1 (.ref it1) (.ref D) ce)
            (fun r sa => match r with
              | .ok _ => ∃ m, m < n ∧ ∃ i Ha, Inv (X.blk s3 H3 scope ce fp) [] (L2.wipe σ (own.map (·.2))) Ha sa ∧ tn i sa.heap ∧ (∀ b ∈ fp, Ha b = none) ∧ Wt i m Ha
              | .error _ => False) s11 := by
          refine dLoop_in (fun k sa => ∃ j Ha, Inv (X.blk s3 H3 scope ce fp) ([] ++ pinsAt fp s7.heap) (L2.wipe σ8 vs1) Ha sa ∧ tn1 j sa.heap ∧ (∀ b ∈ fp1, Ha b = none) ∧ W1 j k Ha) (fun k s12 hI => ?_) m1 ⟨0, H11, I11.weak (wipe_length _ _) (fun j v e => (wipe_some e).1), st11, fun b hb => (f11 b hb).1, w1⟩
          obtain ⟨j, H12, I12, st12, n12, w12⟩ := hI
          rcases turn1 j k H12 w12 with ⟨stop1, nx1⟩ | ⟨go1, Nx1, hNx1, step1⟩
          · refine thnF (T1.done (X.blk s3 H3 scope ce fp) rfl rfl rfl hc j _ s12 (L2.wipe σ8 vs1) H12 (fun _ _ => False) I12 (fpB1 n12) st12 stop1) fun r s13 z => ?_
            obtain ⟨rfl, I13⟩ := z
            exact next (hl8.trans (wipe_length σ8 vs1).symm) hk9 I13 nx1
          · refine thnF (T1.item (X.blk s3 H3 scope ce fp) rfl rfl rfl hc j _ s12 (L2.wipe σ8 vs1) H12 (fun _ _ => False) I12 (fpB1 n12) st12 go1) fun r s13 z => ?_
            obtain ⟨u1, rfl, h13⟩ := z
            refine thnF h13 fun _ s14 z => ?_
            obtain ⟨x1, H14, I14, r14, y14, st14, n14⟩ := z
            have J14 := I14.pinned (fpB1 n14) (T1.obj _ _ st14)
            refine thnF (pg1.run _ s14 (L2.wipe σ8 vs1) H14 x1 u1 _ J14 r14 (step1 x1 H14 y14)) fun _ s15 z => ?_
            obtain ⟨σ15, H15, I15, hw15, q15⟩ := z
            refine thnF (pt1.run _ s15 σ15 H15 _ I15 q15) fun b1 s16 z => ?_
            obtain ⟨H16, I16, q16⟩ := z
            have next1 : ∀ {sa : Shared} {Ha : Hp}, Inv (X.blk s3 H3 scope ce fp) (([] ++ pinsAt fp s7.heap) ++ pinsAt fp1 s14.heap) σ15 Ha sa → Nx1 Ha → ∃ m, m < k ∧ ∃ j Ha, Inv (X.blk s3 H3 scope ce fp) ([] ++ pinsAt fp s7.heap) (L2.wipe σ8 vs1) Ha sa ∧ tn1 j sa.heap ∧ (∀ b ∈ fp1, Ha b = none) ∧ W1 j m Ha := fun {sa Ha} Ia nx => by
              obtain ⟨m', hm, w'⟩ := hNx1 Ha nx
              have pin : ∀ b ∈ fp1, ∀ o, s14.heap.get? b = some o → sa.heap.get? b = some o ∧ Ha b = none := fun b hb o e => by
                have z := Ia.pin (b, o) (List.mem_append_right _ (List.mem_append_right _ (mem_pinsAt hb e)))
                exact ⟨z.1, z.2.1⟩
              refine ⟨m', hm, j + 1, Ha, Ia.unpinned.weak (by rw [← hw15, wipe_length]) (fun j v e => by rw [← hw15] at e; exact (wipe_some e).1), T1.keep _ _ _ st14 fun b hb o e => (pin b hb o e).1, fun b hb => ?_, w'⟩
              obtain ⟨o, e, _⟩ := T1.obj _ _ st14 b hb
              exact (pin b hb o e).2
            cases b1 with
            | false =>
              simp only [Bool.false_eq_true, if_false] at q16 ⊢
              exact next1 I16 q16
            | true =>
              simp only [if_true] at q16 ⊢
              refine thnF (pk.run _ s16 σ15 H16 _ I16 q16) fun _ s17 z => ?_
              obtain ⟨yk, H17, I17, r17, q17⟩ := z
              refine thnF (pv.run _ s17 σ15 H17 _ I17 q17) fun _ s18 z => ?_
              obtain ⟨yv, H18, I18, r18, kvs, k2, rfl, hD18, hz18, nx⟩ := z
              exact d_dictSet (X := X.blk s3 H3 scope ce fp) I18 hD18 hz18 r17 r18 fun s19 I19 => next1 I19 nx
        exact dStart1 St1 (T1.self X.A 0 _ _ _ st11 St1)
  exact codeAny_compStart_dict St (T.self X.A 0 _ _ _ st4 St)
end
end Eng

set_option maxHeartbeats 1000000
namespace Eng
open PySem PySem.Spec PyProof.Rows L2
/-! ### dict comprehensions of two clauses: the mirror -/
def dcSeq2 (p : Pat) (t : Ft) (fi : Fi) (p1 : Pat) (t1 : Ft) (fk fv : Fe) (vs1 : List Nat) (env0 : Env) : List Val → List (Val × Val) → Sto → Rv (List (Val × Val))
  | [], acc, st => .ok acc st
  | x :: r, acc, st => match bindP p x env0 with
    | some env => (t env st).bind fun b st1 => if b = true then (fi env st1).bind fun s st2 => match s with
        | .seq ys => if acc.length + ys.length ≤ 1000000 then (dcSeq p1 t1 fk fv (wipeE env vs1) ys acc st2).bind fun acc2 st3 => dcSeq2 p t fi p1 t1 fk fv vs1 env0 r acc2 st3 else .bad
        | .cell _ => .bad
      else dcSeq2 p t fi p1 t1 fk fv vs1 env0 r acc st1
    | none => .bad
def eDComp2 (fi : Fi) (p : Pat) (t : Ft) (fi1 : Fi) (p1 : Pat) (t1 : Ft) (fk fv : Fe) (vs vs1 : List Nat) : Fe := fun env st => (fi env st).bind fun s st1 => match s with
  | .seq xs => (dcSeq2 p t fi1 p1 t1 fk fv vs1 (wipeE env vs) xs [] st1).freshD
  | .cell _ => .bad
/-- the dict in the making -/
def DSt (G : Gc) (P : Ts) (ρ : Rho) (D : Addr) (H B : Hp) (acc : List (Val × Val)) (st : Sto) (H2 : Hp) : Prop :=
  Kp (Tr ρ) H (Tr ρ) H2 ∧ Kp (TP (Plus P D) ρ) B (TP (Plus P D) ρ) H2 ∧ RepS G H2 (Plus P D) ρ st ∧ ∃ us, H2 D = some (.dK us) ∧ RepK G H2 (TP (Plus P D) ρ) acc us
section
variable {G : Gc} {P : Ts} {ρ : Rho} {D : Addr} {H B B2 : Hp} {acc : List (Val × Val)} {st st2 st4 st5 : Sto} {H2 H3 H4 : Hp}
theorem dK_stays {us : List (Key × V)} (k : Kp (Tr ρ) H2 (Tr ρ) H3) (nD : ¬ Tr ρ D) (r : RepS G H3 (Plus P D) ρ st2) (e : H2 D = some (.dK us)) : H3 D = some (.dK us) := by
  rcases k.keep D _ nD e (by intros; simp) with e' | ⟨_, od, e'⟩
  · exact e'
  · obtain ⟨u, e2, pl⟩ := r.prv D (.inr rfl)
    rw [e'] at e2
    cases e2
    exact (pl.2.2.1 _ _ rfl).elim
theorem DSt.go (h : DSt G P ρ D H B acc st H2) (k : Kp (Tr ρ) H2 (Tr ρ) H3) (rs : RepS G H3 (Plus P D) ρ st2) : DSt G P ρ D H B acc st2 H3 := by
  obtain ⟨k1, k2, rs2, us, e, r⟩ := h
  exact ⟨k1.trans k, k2.trans k.tp, rs, us, dK_stays k (rs2.apart D (.inr rfl)) rs e, r.ext k.tp rs2.nt⟩
theorem DSt.rebase (h : DSt G P ρ D H B acc st H2) : DSt G P ρ D H H2 acc st H2 := ⟨h.1, Kp.refl, h.2.2.1, h.2.2.2⟩
theorem DSt.base (h : DSt G P ρ D H B2 acc st H2) (k : Kp (TP (Plus P D) ρ) B (TP (Plus P D) ρ) B2) : DSt G P ρ D H B acc st H2 := ⟨h.1, k.trans h.2.1, h.2.2.1, h.2.2.2⟩
end
section
variable {L : Lx} {X : Cx} {W : WX} {P : Ts} {ρ : Rho} {D : Addr} {H B : Hp} {acc : List (Val × Val)} {st2 : Sto} {H2 H3 : Hp} {p p1 : Pat} {g g1 : TG} {t t1 : Ft} {fk fv : Fe} {fi fi1 : Fi} {envB env' : Env} {σ σB : L2.St} {vs vs1 : List Nat} {x : Val} {v : V} {stB : Sto}
theorem dcomp_head (hpat : EP1 X p g) (hv : ∀ i ∈ p.names, i ∈ vs) (reB : RepE (gx L X) B (Plus P D) ρ envB σB) (ntB : NoTup B (TP (Plus P D) ρ)) (hS : DSt (gx L X) P ρ D H B acc st2 H2) (k3 : Kp (Tr ρ) H2 (Tr ρ) H3) (rs3 : RepS (gx L X) H3 (Plus P D) ρ st2)
    (rv : RepV (gx L X) H3 (TP (Plus P D) ρ) x v) (hb : bindP p x envB = some env') {b : Bool} {st4 : Sto} (ht : t env' st2 = .ok b st4) {C : Bool → L2.St → Hp → Prop}
    (cont : ∀ σ4 H4, RepE (gx L X) H4 (Plus P D) ρ env' σ4 → DSt (gx L X) P ρ D H B acc st4 H4 → C b σ4 H4) :
    g v σB H3 fun σ2 H2 => L2.wipe σ2 vs = L2.wipe σB vs ∧ TTm (gx L X) W0 t σ2 H2 fun b H3 => C b σ2 H3 := by
  have hS3 := hS.go k3 rs3
  have re3 : RepE (gx L X) H3 (Plus P D) ρ envB σB := ⟨reB.len, fun i z h => by
    obtain ⟨u, e, r⟩ := reB.get i z h
    refine ⟨u, e, ?_⟩
    cases r with
    | v r => exact .v (r.ext hS3.2.1 ntB)
    | loc q => exact .loc q⟩
  refine pat_ok hpat re3 rv hb fun σ4 re4 hw => ⟨hw vs hv, env', st2, ρ, Plus P D, re4, rs3, ?_⟩
  rw [ht]
  exact fun H4 k4 rs4 => cont σ4 H4 (re4.ext k4 rs3) (hS3.go k4 rs4)
theorem dcomp_push (h0D : NN H D) {σ4 : L2.St} {st4 st5 st6 : Sto} {H4 : Hp} (re : RepE (gx L X) H4 (Plus P D) ρ env' σ4) (hS : DSt (gx L X) P ρ D H B acc st4 H4) {zv : SV} {kv yv : Val} (hfk : fk env' st4 = .ok (.v kv) st5) (hfv : fv env' st5 = .ok zv st6) (hz2 : zv.froz = .v yv) (hkk : (keyOf kv).isSome = true) (hl : acc.length < sizeLine) {Nx : Hp → Prop}
    (w : ∀ H5, DSt (gx L X) P ρ D H B (dPut acc kv yv) st6 H5 → Nx H5) : TEm (gx L X) W0 fk σ4 H4 fun y H5 => TEm (gx L X) W0 fv σ4 H5 fun z H6 => ∃ kvs k, y = kV k ∧ H6 D = some (.dK kvs) ∧ kvs.length < sizeLine ∧ Nx (upd H6 D (.dK (putK kvs k z))) := by
  refine ⟨env', st4, ρ, Plus P D, re, hS.2.2.1, ?_⟩
  rw [hfk]
  intro y H5 k5 rs5 rx
  have hS5 := hS.go k5 rs5
  refine ⟨env', st5, ρ, Plus P D, re.ext k5 hS.2.2.1, rs5, ?_⟩
  rw [hfv]
  intro z H6 k6 rs6 rx6
  have rz := rx6.z
  rw [hz2] at rz
  obtain ⟨kA, kB, _, us, e6, rus⟩ := hS5.go k6 rs6
  cases rx with
  | @v kv _ rk =>
    obtain ⟨kk, hkk⟩ := Option.isSome_iff_exists.mp hkk
    obtain rfl := keyOf_V' hkk rk
    cases rz with
    | v ry =>
      have kw : Kp (TP (Plus P D) ρ) H6 (TP (Plus P D) ρ) (upd H6 D (.dK (putK us kk z))) := kp_write (.inl (.inr rfl))
      refine ⟨us, kk, rfl, e6, by rw [← rus.len]; exact hl, w _ ⟨⟨fun a o na e nt => by rw [upd_ne (h0D.ne e nt)]; exact kA.keep a o na e nt, fun a n => h0D.over kA.stay n, fun a t => .inl t⟩, kB.trans kw,
        rs6.writeP (.inr rfl) ⟨by intros; simp, by intros; simp, by intros; simp, by intros; simp⟩, putK us kk z, upd_same, repK_put hkk ((rk.ext k6.tp rs5.nt).ext kw rs6.nt) (ry.ext kw rs6.nt) (rus.ext kw rs6.nt)⟩⟩
theorem dcSeq_ok {env0 : Env} {r : List Val} {a : List (Val × Val)} {s : Sto} (h : dcSeq p t fk fv env0 (x :: r) acc st2 = .ok a s) :
    ∃ env b st4, bindP p x env0 = some env ∧ t env st2 = .ok b st4 ∧ (b = true → ∃ k y zv st5 st6, fk env st4 = .ok (.v k) st5 ∧ fv env st5 = .ok zv st6 ∧ zv.froz = .v y ∧ (keyOf k).isSome = true ∧ dcSeq p t fk fv env0 r (dPut acc k y) st6 = .ok a s) ∧ (b = false → dcSeq p t fk fv env0 r acc st4 = .ok a s) := by
  unfold dcSeq at h
  cases hb : bindP p x env0 with
  | none => rw [hb] at h; cases h
  | some env =>
    rw [hb] at h
    obtain ⟨b, st4, h1, h2⟩ := bind_ok h
    refine ⟨env, b, st4, rfl, h1, fun e => ?_, fun e => ?_⟩
    · subst e
      rw [if_pos rfl] at h2
      obtain ⟨zk, st5, h3, h4⟩ := bind_ok h2
      obtain ⟨zv, st6, h5, h6⟩ := bind_ok h4
      cases zk with
      | v k =>
        cases hz : zv.froz with
        | v y =>
          rw [hz] at h6
          simp only at h6
          split at h6
          · rename_i hk
            exact ⟨k, y, zv, st5, st6, h3, h5, hz, hk, h6⟩
          · cases h6
        | loc _ => rw [hz] at h6; cases h6
        | fl _ => rw [hz] at h6; cases h6
        | fd _ _ => rw [hz] at h6; cases h6
      | loc _ => cases h6
      | fl _ => cases h6
      | fd _ _ => cases h6
    · subst e
      simpa using h2
theorem dcSeq2_ok {env0 : Env} {r : List Val} {a : List (Val × Val)} {s : Sto} (h : dcSeq2 p t fi1 p1 t1 fk fv vs1 env0 (x :: r) acc st2 = .ok a s) :
    ∃ env b st4, bindP p x env0 = some env ∧ t env st2 = .ok b st4 ∧ (b = true → ∃ ys st5 acc2 st6, fi1 env st4 = .ok (.seq ys) st5 ∧ acc.length + ys.length ≤ 1000000 ∧ dcSeq p1 t1 fk fv (wipeE env vs1) ys acc st5 = .ok acc2 st6 ∧ dcSeq2 p t fi1 p1 t1 fk fv vs1 env0 r acc2 st6 = .ok a s) ∧
      (b = false → dcSeq2 p t fi1 p1 t1 fk fv vs1 env0 r acc st4 = .ok a s) := by
  unfold dcSeq2 at h
  cases hb : bindP p x env0 with
  | none => rw [hb] at h; cases h
  | some env =>
    rw [hb] at h
    obtain ⟨b, st4, h1, h2⟩ := bind_ok h
    refine ⟨env, b, st4, rfl, h1, fun e => ?_, fun e => ?_⟩
    · subst e
      rw [if_pos rfl] at h2
      obtain ⟨sr, st5, h3, h4⟩ := bind_ok h2
      cases sr with
      | cell _ => cases h4
      | seq ys =>
        simp only at h4
        split at h4
        · rename_i hl
          obtain ⟨acc2, st6, h5, h6⟩ := bind_ok h4
          exact ⟨ys, st5, acc2, st6, h3, hl, h5, h6⟩
        · cases h4
    · subst e
      simpa using h2
theorem dcomp_in (hpat : EP1 X p1 g1) (hv : ∀ i ∈ p1.names, i ∈ vs1) (h0D : NN H D) {env2 : Env} {σ4 : L2.St} {H5 : Hp} {J : It} {ys : List Val} {acc2 : List (Val × Val)} {st5 st6 : Sto} {Nx : Hp → Prop} (re : RepE (gx L X) H5 (Plus P D) ρ env2 σ4) (hS : DSt (gx L X) P ρ D H B acc st5 H5)
    (wk : WalkS (gx L X) (Plus P D) ρ H5 J ys) (hl : acc.length + ys.length ≤ 1000000) (hq : dcSeq p1 t1 fk fv (wipeE env2 vs1) ys acc st5 = .ok acc2 st6) (fin : ∀ H', DSt (gx L X) P ρ D H B acc2 st6 H' → Nx H') :
    ∃ W1 : Nat → Nat → Hp → Prop, (∃ m, W1 0 m H5) ∧ ∀ j k H, W1 j k H → (J.stop j H ∧ Nx H) ∨ (J.go j H ∧ ∃ N1 : Hp → Prop, (∀ H', N1 H' → ∃ k', k' < k ∧ W1 (j + 1) k' H') ∧ ∀ x H', J.yld j H x H' → g1 x (L2.wipe σ4 vs1) H' fun σ3 H5 => L2.wipe σ3 vs1 = L2.wipe σ4 vs1 ∧ TTm (gx L X) W0 t1 σ3 H5 fun b H6 =>
      if b = true then TEm (gx L X) W0 fk σ3 H6 fun y H7 => TEm (gx L X) W0 fv σ3 H7 fun z H8 => ∃ kvs k, y = kV k ∧ H8 D = some (.dK kvs) ∧ kvs.length < sizeLine ∧ N1 (upd H8 D (.dK (putK kvs k z))) else N1 H6) := by
  have hz : 1000000 < sizeLine := by decide
  have reW : RepE (gx L X) H5 (Plus P D) ρ (wipeE env2 vs1) (L2.wipe σ4 vs1) := re.wipe vs1
  have nt5 := hS.2.2.1.nt
  refine ⟨fun j k H6 => ∃ ac s6, k = ys.length - j ∧ ac.length ≤ acc.length + j ∧ DSt (gx L X) P ρ D H H5 ac s6 H6 ∧ dcSeq p1 t1 fk fv (wipeE env2 vs1) (ys.drop j) ac s6 = .ok acc2 st6, ⟨ys.length, acc, st5, rfl, Nat.le_refl _, hS.rebase, hq⟩, fun j k H6 hW1 => ?_⟩
  obtain ⟨ac, s6, hk, hl6, hS6, hq6⟩ := hW1
  have w1 := wk j H6 (Plus P D) ρ s6 hS6.2.1 hS6.2.2.1
  by_cases hj : j < ys.length
  · rw [List.drop_eq_getElem_cons hj] at hq6
    obtain ⟨env3, b3, st7, hb3, ht3, hT3, hF3⟩ := dcSeq_ok hq6
    obtain ⟨hgo1, hy1⟩ := w1.1 ys[j] (List.getElem?_eq_getElem hj)
    refine .inr ⟨hgo1, fun H' => ∃ ac' s', ac'.length ≤ acc.length + (j + 1) ∧ DSt (gx L X) P ρ D H H5 ac' s' H' ∧ dcSeq p1 t1 fk fv (wipeE env2 vs1) (ys.drop (j + 1)) ac' s' = .ok acc2 st6, fun H' hN => ?_, fun v7 H7 yy7 => ?_⟩
    · obtain ⟨ac', s', a, b, c⟩ := hN
      exact ⟨ys.length - (j + 1), by omega, ac', s', rfl, a, b, c⟩
    · obtain ⟨k7, rs7, rv7⟩ := hy1 v7 H7 yy7
      have key1 := dcomp_head (C := fun b σ3 H6 => if b = true then TEm (gx L X) W0 fk σ3 H6 fun y H7 => TEm (gx L X) W0 fv σ3 H7 fun z H8 => ∃ kvs k, y = kV k ∧ H8 D = some (.dK kvs) ∧ kvs.length < sizeLine ∧ ∃ ac' s', ac'.length ≤ acc.length + (j + 1) ∧ DSt (gx L X) P ρ D H H5 ac' s' (upd H8 D (.dK (putK kvs k z))) ∧ dcSeq p1 t1 fk fv (wipeE env2 vs1) (ys.drop (j + 1)) ac' s' = .ok acc2 st6
        else ∃ ac' s', ac'.length ≤ acc.length + (j + 1) ∧ DSt (gx L X) P ρ D H H5 ac' s' H6 ∧ dcSeq p1 t1 fk fv (wipeE env2 vs1) (ys.drop (j + 1)) ac' s' = .ok acc2 st6) hpat hv reW nt5 hS6 k7 rs7 rv7 hb3 ht3 (fun σ8 H8 re8 hS8 => ?_)
      · rw [wipe_wipe fun i h => h] at key1
        exact key1
      · cases b3 with
        | false =>
          simp only [Bool.false_eq_true, if_false]
          exact ⟨ac, st7, by omega, hS8, hF3 rfl⟩
        | true =>
          simp only [if_true]
          obtain ⟨kv, y, zv, st8, st9, h1, h2, h3, h4, h5⟩ := hT3 rfl
          exact dcomp_push (Nx := fun H' => ∃ ac' s', ac'.length ≤ acc.length + (j + 1) ∧ DSt (gx L X) P ρ D H H5 ac' s' H' ∧ dcSeq p1 t1 fk fv (wipeE env2 vs1) (ys.drop (j + 1)) ac' s' = .ok acc2 st6) h0D re8 hS8 h1 h2 h3 h4 (by omega) fun H9 hS9 => ⟨dPut ac kv y, st9, by have := dPut_len ac kv y; omega, hS9, h5⟩
  · rw [List.drop_eq_nil_of_le (by omega)] at hq6
    cases hq6
    exact .inl ⟨w1.2 (by omega), fin H6 (hS6.base hS.2.1)⟩
theorem dcomp2_tm (hpat : EP1 X p g) (hv : ∀ i ∈ p.names, i ∈ vs) (hpat1 : EP1 X p1 g1) (hv1 : ∀ i ∈ p1.names, i ∈ vs1) (σ : L2.St) (H : Hp) (Q : VK) (h : TEm (gx L X) W (eDComp2 fi p t fi1 p1 t1 fk fv vs vs1) σ H Q) (hz : 1000000 < sizeLine := by decide) :
    tDc2 (TIm (gx L X) W fi) g (TTm (gx L X) W0 t) (TIm (gx L X) W0 fi1) g1 (TTm (gx L X) W0 t1) (TEm (gx L X) W0 fk) (TEm (gx L X) W0 fv) vs vs1 σ H Q := by
  obtain ⟨env, st, ρ, P, re, rs, q⟩ := h
  refine ⟨env, st, ρ, P, re, rs, ?_⟩
  unfold eDComp2 at q
  cases hf : fi env st with
  | exc e st1 => rw [hf] at q; exact q
  | bad => rw [hf] at q; exact q
  | ok s st1 =>
    rw [hf] at q
    cases s with
    | cell l => exact q.elim
    | seq xs =>
      intro J H1 k1 rs1 wk D hD
      have q : Post (gx L X) W σ P ρ H (dcSeq2 p t fi1 p1 t1 fk fv vs1 (wipeE env vs) xs [] st1).freshD Q := q
      cases hc : dcSeq2 p t fi1 p1 t1 fk fv vs1 (wipeE env vs) xs [] st1 with
      | exc _ _ => rw [hc] at q; exact q.elim
      | bad => rw [hc] at q; exact q.elim
      | ok res stE =>
        rw [hc] at q
        have h0D : NN H D := k1.none (.inl hD)
        have rsD : RepS (gx L X) (upd H1 D (.dK [])) (Plus P D) ρ st1 := rs1.freshP hD ⟨by intros; simp, by intros; simp, by intros; simp, by intros; simp⟩
        have nP : ¬ P D := fun t => rs1.ntr hD (.inl t)
        have reD : RepE (gx L X) (upd H1 D (.dK [])) (Plus P D) ρ (wipeE env vs) (L2.wipe σ vs) := (re.ext k1 rs).plus hD rs1 |>.wipe vs
        have st0 : DSt (gx L X) P ρ D H (upd H1 D (.dK [])) [] st1 (upd H1 D (.dK [])) := ⟨k1.trans (kp_new hD), Kp.refl, rsD, [], upd_same, .nil⟩
        let Nn := fun (i : Nat) (H' : Hp) => ∃ acc' st', DSt (gx L X) P ρ D H (upd H1 D (.dK [])) acc' st' H' ∧ dcSeq2 p t fi1 p1 t1 fk fv vs1 (wipeE env vs) (xs.drop i) acc' st' = .ok res stE
        refine ⟨fun i m H2 => m = xs.length - i ∧ Nn i H2, ⟨xs.length, rfl, [], st1, st0, hc⟩, fun i m H2 hW => ?_⟩
        obtain ⟨hm, acc, st2, hS, hq⟩ := hW
        have w := wk i H2 (Plus P D) ρ st2 ((kp_newP hD).trans hS.2.1) hS.2.2.1
        by_cases hi : i < xs.length
        · rw [List.drop_eq_getElem_cons hi] at hq
          obtain ⟨env2, b, st4, hb, ht, hT, hF⟩ := dcSeq2_ok hq
          obtain ⟨hgo, hy⟩ := w.1 xs[i] (List.getElem?_eq_getElem hi)
          refine .inr ⟨hgo, Nn (i + 1), fun H' hN => ⟨xs.length - (i + 1), by omega, rfl, hN⟩, fun v H3 yy => ?_⟩
          obtain ⟨k3, rs3, rv⟩ := hy v H3 yy
          have key := dcomp_head (C := fun b σ2 H3 => if b = true then TIm (gx L X) W0 fi1 σ2 H3 fun J1 H4 => ∃ W1 : Nat → Nat → Hp → Prop, (∃ m, W1 0 m H4) ∧ ∀ j k H, W1 j k H →
              (J1.stop j H ∧ Nn (i + 1) H) ∨ (J1.go j H ∧ ∃ Nx1 : Hp → Prop, (∀ H', Nx1 H' → ∃ k', k' < k ∧ W1 (j + 1) k' H') ∧ ∀ x H', J1.yld j H x H' → g1 x (L2.wipe σ2 vs1) H' fun σ3 H5 => L2.wipe σ3 vs1 = L2.wipe σ2 vs1 ∧ TTm (gx L X) W0 t1 σ3 H5 fun b H6 =>
                if b = true then TEm (gx L X) W0 fk σ3 H6 fun y H7 => TEm (gx L X) W0 fv σ3 H7 fun z H8 => ∃ kvs k, y = kV k ∧ H8 D = some (.dK kvs) ∧ kvs.length < sizeLine ∧ Nx1 (upd H8 D (.dK (putK kvs k z))) else Nx1 H6) else Nn (i + 1) H3)
              hpat hv reD rsD.nt hS k3 rs3 rv hb ht (fun σ4 H4 re4 hS4 => ?_)
          · rw [wipe_wipe fun i h => h] at key
            exact key
          · cases b with
            | false => simp only [Bool.false_eq_true, if_false]; exact ⟨acc, st4, hS4, hF rfl⟩
            | true =>
              simp only [if_true]
              obtain ⟨ys, st5, acc2, st6, h1, h2, h3, h4⟩ := hT rfl
              refine ⟨env2, st4, ρ, Plus P D, re4, hS4.2.2.1, ?_⟩
              rw [h1]
              intro J1 H5 k5 rs5 wk1
              exact dcomp_in hpat1 hv1 h0D (re4.ext k5 hS4.2.2.1) (hS4.go k5 rs5) wk1 h2 h3 fun H' hS' => ⟨acc2, st6, hS', h4⟩
        · rw [List.drop_eq_nil_of_le (by omega)] at hq
          cases hq
          obtain ⟨k2, _, rs2, us, e, rv⟩ := hS
          exact .inl ⟨w.2 (by omega), q _ H2 k2 rs2.drop (.fdK e h0D rv rs2 nP)⟩
end
section
variable {L : Lx} {X : Cx} {W : WX} {kx vx tg iter tg1 iter1 : Expr} {ifs ifs1 : List Expr} {scope : Scope} {own : List (Str × Nat)} {vs1 : List Nat} {pos : Pos} {fi fi1 : Fi} {p p1 : Pat} {t t1 : Ft} {fk fv : Fe} {g g1 : TG}
theorem ee_dcomp2 (hc : X.calm = true) (hN : X.N.Nodup) (hi : EI L X W tg iter fi) (ok : BlkOk X.N X.env.scope scope own) (hv : ∀ i ∈ vs1, i ∈ own.map (·.2))
    (hg : ∀ (s : Shared) (H : Hp) (C : Addr) (cl : List (Str × Addr)) (fp : List Addr), PG (X.blk s H scope (compEnvC scope cl C X.env) fp) tg g) (ht : ∀ (s : Shared) (H : Hp) (C : Addr) (cl : List (Str × Addr)) (fp : List Addr), PTs (X.blk s H scope (compEnvC scope cl C X.env) fp) ifs (TTm (gx L X) W0 t))
    (hi1 : ∀ (s : Shared) (H : Hp) (C : Addr) (cl : List (Str × Addr)) (fp : List Addr), PI (X.blk s H scope (compEnvC scope cl C X.env) fp) tg1 iter1 (TIm (gx L X) W0 fi1))
    (hg1 : ∀ (s : Shared) (H : Hp) (C : Addr) (cl : List (Str × Addr)) (fp : List Addr), PG (X.blk s H scope (compEnvC scope cl C X.env) fp) tg1 g1) (ht1 : ∀ (s : Shared) (H : Hp) (C : Addr) (cl : List (Str × Addr)) (fp : List Addr), PTs (X.blk s H scope (compEnvC scope cl C X.env) fp) ifs1 (TTm (gx L X) W0 t1))
    (hk : ∀ (s : Shared) (H : Hp) (C : Addr) (cl : List (Str × Addr)) (fp : List Addr), PE (X.blk s H scope (compEnvC scope cl C X.env) fp) kx (TEm (gx L X) W0 fk)) (he : ∀ (s : Shared) (H : Hp) (C : Addr) (cl : List (Str × Addr)) (fp : List Addr), PE (X.blk s H scope (compEnvC scope cl C X.env) fp) vx (TEm (gx L X) W0 fv))
    (hpat : EP1 X p g) (hpv : ∀ i ∈ p.names, i ∈ own.map (·.2)) (hpat1 : EP1 X p1 g1) (hpv1 : ∀ i ∈ p1.names, i ∈ vs1)
    (hs : ∀ x, foldedSetIterable iter X.env x = pure x := by intro _; rfl) (hs1 : ∀ env x, foldedSetIterable iter1 env x = pure x := by intro _ _; rfl) :
    EE L X W (.DictComp kx vx [⟨tg, iter, ifs, 0⟩, ⟨tg1, iter1, ifs1, 0⟩] scope pos) (eDComp2 fi p t fi1 p1 t1 fk fv (own.map (·.2)) vs1) :=
  PE.weak (pe_dc2 hc hN hi ok hv hg ht hi1 hg1 ht1 hk he hs hs1) fun σ H Q h => dcomp2_tm hpat hpv hpat1 hpv1 σ H Q h
end
end Eng

set_option maxHeartbeats 1000000
namespace Eng
open PySem PySem.Spec PyProof.Rows L2
/-! ### max of texts -/
def maxT : List (List Nat) → Option (List Nat)
  | [] => none
  | x :: r => match maxT r with
    | none => some x
    | some m => some (if x < m then m else x)
theorem maxT_some : ∀ {r : List (List Nat)}, r ≠ [] → ∃ m, maxT r = some m ∧ m ∈ r ∧ ∀ y ∈ r, ¬ m < y
  | [], h => absurd rfl h
  | [x], _ => ⟨x, rfl, by simp, fun y hy => by simp at hy; subst hy; exact List.lt_irrefl _⟩
  | x :: z :: r, _ => by
    obtain ⟨m, h1, h2, h3⟩ := maxT_some (r := z :: r) (by simp)
    refine ⟨if x < m then m else x, ?_, ?_, fun y hy => ?_⟩
    · show (match maxT (z :: r) with | none => some x | some m => some (if x < m then m else x)) = _
      rw [h1]
    · split
      · exact List.mem_cons_of_mem _ h2
      · exact List.mem_cons_self
    · rcases List.mem_cons.mp hy with rfl | hy
      · split
        · rename_i hlt
          exact fun q => absurd (List.lt_trans hlt q) (List.lt_irrefl _)
        · exact List.lt_irrefl _
      · have := h3 y hy
        split
        · exact this
        · rename_i hlt
          intro q
          rcases Classical.em (m = x) with e | e
          · exact this (e ▸ q)
          · have hmx : m < x := by
              apply Classical.byContradiction
              intro z2
              exact e (leS_anti m x (by unfold leS; simpa using hlt) (by unfold leS; simpa using z2))
            exact this (List.lt_trans hmx q)
theorem argBest_txt (val : Nat → List Nat) : ∀ k, PySem.argBest (fun i j => decide (val j < val i)) k ≤ k ∧ ∀ j, j ≤ k → ¬ val (PySem.argBest (fun i j => decide (val j < val i)) k) < val j
  | 0 => ⟨Nat.le_refl _, fun j hj => by
    have : j = 0 := by omega
    subst this
    exact List.lt_irrefl _⟩
  | k + 1 => by
    obtain ⟨h1, h2⟩ := argBest_txt val k
    simp only [PySem.argBest]
    by_cases hc : val (PySem.argBest (fun i j => decide (val j < val i)) k) < val (k + 1)
    · rw [if_pos (by simpa using hc)]
      refine ⟨Nat.le_refl _, fun j hj => ?_⟩
      rcases Nat.lt_or_ge j (k + 1) with hlt | hge
      · exact fun q => h2 j (by omega) (List.lt_trans hc q)
      · have : j = k + 1 := by omega
        subst this
        exact List.lt_irrefl _
    · rw [if_neg (by simpa using hc)]
      refine ⟨by omega, fun j hj => ?_⟩
      rcases Nat.lt_or_ge j (k + 1) with hlt | hge
      · exact h2 j (by omega)
      · have : j = k + 1 := by omega
        subst this
        exact hc
theorem cmp_txt {prog : Program} {w : World} {A : Around} {P : Nat → Value → Prop} (val : Nat → List Nat) (hval : ∀ i v, P i v → ∃ t, v = .str (toS (val i)) t) :
    CmpOf prog w A .Gt P (fun i j => decide (val j < val i)) := fun i j vi vj s Q E hi hj h => by
  obtain ⟨t, rfl⟩ := hval i vi hi
  obtain ⟨u, rfl⟩ := hval j vj hj
  refine richCompare_gives (op := .Gt) (typeIs_str s _ t) (typeIs_str s _ u) PySem.F.slot_str_gt PySem.F.entry_str_gt (PySem.F.args_str_gt_2 _ _) (gives_str_gt _ _ t u) (fun x => nomatch x) ?_
  exact h
/-- what is best of all -/
theorem best_txt {ys : List (List Nat)} (hne : ys ≠ []) : maxT ys = ys[PySem.argBest (fun i j => decide (ys.getD j [] < ys.getD i [])) (ys.length - 1)]? := by
  obtain ⟨m, h1, h2, h3⟩ := maxT_some hne
  have hpos := List.length_pos_iff.mpr hne
  obtain ⟨b1, b2⟩ := argBest_txt (fun i => ys.getD i []) (ys.length - 1)
  obtain ⟨k, hk⟩ : ∃ k, k = PySem.argBest (fun i j => decide (ys.getD j [] < ys.getD i [])) (ys.length - 1) := ⟨_, rfl⟩
  rw [← hk] at b1 b2 ⊢
  have hlt : k < ys.length := by omega
  have gd : ∀ {j : Nat}, (h : j < ys.length) → ys.getD j [] = ys[j] := fun {j} h => by rw [List.getD_eq_getElem?_getD, List.getElem?_eq_getElem h]; rfl
  rw [h1, List.getElem?_eq_getElem hlt]
  obtain ⟨j, hj, e⟩ := List.getElem_of_mem h2
  have q1 := b2 j (by omega)
  rw [gd hlt, gd hj, e] at q1
  have q2 := h3 ys[k] (List.getElem_mem hlt)
  congr 1
  exact leS_anti m _ (by unfold leS; simpa using q1) (by unfold leS; simpa using q2)
section
variable {prog : Program} {w : World} {A : Around} {E : Value → Shared → Prop} {s : Shared}
theorem max_txts {l : Addr} {its : List Value} {ys : List (List Nat)} {Q : Value → Shared → Prop} (hh : A.handled = none) (hl : s.heap.IsList l its.toArray) (hi : PyProof.Rows.StrsAre its (ys.map toS)) (hne : ys ≠ [])
    (h : ∀ h' tk m t', (∀ b o, s.heap.get? b = some o → h'.get? b = some o) → maxT ys = some m → Q (.str (toS m) t') { s with heap := h', toks := tk }) : wpAny (model prog w) A (call (.builtin "max") [.ref l]) Q E s := by
  have hlS : l < s.heap.objs.size := by
    obtain ⟨o, ho, _⟩ := hl
    exact Heap.lt_size ho
  have hpos := List.length_pos_iff.mpr hne
  have hlen : its.length = ys.length := by rw [StrsAre.len_eq hi, List.length_map]
  refine call_max_walk (wpAny_pyIter_list hl ?_)
  refine ⟨_, _, _, _, _, _, (fun i j => decide (ys.getD j [] < ys.getD i [])), rfl, Walks.list (A := A.in1) hh _ l (Nat.ne_of_lt hlS) its.toArray, ⟨⟨_, Heap.get?_push_size _ rfl, rfl, rfl⟩, hl.push _⟩, fun b hb => ?_, by simp; omega, cmp_txt (fun i => ys.getD i []) (fun i v hv => ?_), fun v h' tk hP hk => ?_⟩
  · rw [Heap.size_push]
    rcases List.mem_cons.mp hb with z | z
    · rw [z]; exact Nat.lt_succ_self _
    · rw [List.mem_singleton.mp z]; exact Nat.lt_succ_of_lt hlS
  · have hv2 : its[i]? = some v := by simpa using hv
    have hi2 : i < ys.length := by
      have := (List.getElem?_eq_some_iff.mp hv2).1
      omega
    obtain ⟨t, e⟩ := SS.strs_at hi i v hv2
    refine ⟨t, ?_⟩
    rw [e]
    congr 1
    rw [List.getD_eq_getElem?_getD, List.getElem?_map, List.getD_eq_getElem?_getD, List.getElem?_eq_getElem hi2]
    rfl
  · have hv2 : its[PySem.argBest (fun i j => decide (ys.getD j [] < ys.getD i [])) (its.length - 1)]? = some v := by simpa using hP
    obtain ⟨t, e⟩ := SS.strs_at hi _ v hv2
    have hb := best_txt hne
    rw [hlen] at hv2 e
    obtain ⟨m, h1, _⟩ := maxT_some hne
    rw [h1] at hb
    have e2 : v = .str (toS m) t := by
      rw [e]
      congr 1
      rw [List.getD_eq_getElem?_getD, List.getElem?_map, ← hb]
      rfl
    rw [e2]
    refine h h' tk m t (fun b o eb => hk b o (fun z => ?_) (Heap.get?_push_of_some _ eb)) h1
    have := Heap.lt_size eb
    rw [List.mem_singleton.mp z] at this
    exact absurd this (Nat.lt_irrefl _)
theorem max_txt {x : List Nat} {t : Tok} {Q : Value → Shared → Prop} (hh : A.handled = none) (hne : x ≠ [])
    (h : ∀ h' tk m t', (∀ b o, s.heap.get? b = some o → h'.get? b = some o) → maxT (x.map fun c => [c]) = some m → Q (.str (toS m) t') { s with heap := h', toks := tk }) : wpAny (model prog w) A (call (.builtin "max") [.str (toS x) t]) Q E s := by
  have hpos := List.length_pos_iff.mpr hne
  have hne2 : (x.map fun c => [c]) ≠ [] := by simpa using hne
  refine call_max_walk (wpAny_pyIter_str fun o St hW hst => ?_)
  have hval : ∀ (i : Nat) (v : Value), SignAt (toS x) i v → ∃ u, v = .str (toS ((x.map fun c => [c]).getD i [])) u ∧ i < x.length := fun i v hv => by
    obtain ⟨c, u, h1, h2⟩ := hv
    have h1' : x[i]? = some c := by simpa using h1
    refine ⟨u, ?_, (List.getElem?_eq_some_iff.mp h1').1⟩
    rw [h2, List.getD_eq_getElem?_getD, List.getElem?_map, h1']
    rfl
  refine ⟨_, _, _, _, _, _, (fun i j => decide ((x.map fun c => [c]).getD j [] < (x.map fun c => [c]).getD i [])), rfl, hW A.in1 hh, hst, fun b hb => ?_, by simpa using hpos, cmp_txt (fun i => (x.map fun c => [c]).getD i []) (fun i v hv => let ⟨u, e, _⟩ := hval i v hv; ⟨u, e⟩), fun v h' tk hP hk => ?_⟩
  · rw [List.mem_singleton.mp hb, Heap.size_push]
    exact Nat.lt_succ_self _
  · obtain ⟨u, e, _⟩ := hval _ v hP
    have hb := best_txt hne2
    obtain ⟨m, h1, _⟩ := maxT_some hne2
    rw [h1] at hb
    have hsz : (toS x).cps.size = (x.map fun c => [c]).length := by simp
    rw [hsz] at e
    have e2 : v = .str (toS m) u := by
      rw [e]
      congr 1
      rw [List.getD_eq_getElem?_getD, ← hb]
      rfl
    rw [e2]
    refine h h' tk m u (fun b o eb => hk b o (fun z => ?_) (Heap.get?_push_of_some _ eb)) h1
    have := Heap.lt_size eb
    rw [List.mem_singleton.mp z] at this
    exact absurd this (Nat.lt_irrefl _)
end
def vMaxS : List Val → Option SV
  | [.str s] => (maxT (s.map fun c => [c])).map fun m => .v (.str m)
  | [.lst xs] => match strsOf xs with
    | some ys => (maxT ys).map fun m => .v (.str m)
    | none => none
  | _ => none
def vMaxX (as : List Val) : Option SV := match vMaxS as with
  | some z => some z
  | none => vMax as
section
variable {X : Cx} {L : Lx}
theorem maxT_sok {ys : List (List Nat)} {m : List Nat} (h : maxT ys = some m) (hs : ∀ b ∈ ys, SOk b = true) : SOk m = true := by
  have hne : ys ≠ [] := fun e => by rw [e] at h; cases h
  obtain ⟨m', h1, h2, _⟩ := maxT_some hne
  rw [h1] at h
  cases h
  exact hs _ h2
theorem cb_maxS (hc : X.calm = true) : CallR X (.builtin "max") (RLm (gx L X) vMaxS) := by
  intro pins s σ H vs us Q I r ⟨ρ, P, st, as, rs, nl, p⟩
  unfold vMaxS at p
  split at p
  · rename_i x
    obtain ⟨v, rfl, nx⟩ := nl.one
    obtain ⟨rfl, sx⟩ := nx.strOf
    obtain ⟨u, eu, rx⟩ := vals1 r
    subst eu
    obtain ⟨t, rfl⟩ := rx
    cases hm : maxT (x.map fun c => [c]) with
    | none => rw [hm] at p; exact p.elim
    | some m =>
      rw [hm] at p
      have hne : x ≠ [] := fun e => by rw [e] at hm; cases hm
      refine max_txt (I.ok.hd hc) hne fun h' tk m' t' hk h1 => ?_
      rw [hm] at h1
      cases h1
      refine ⟨.str (toS m), H, I.kept hk, ⟨_, rfl⟩, p.val rs (.str _ (maxT_sok hm fun b hb => ?_))⟩
      obtain ⟨c, hcx, rfl⟩ := List.mem_map.mp hb
      unfold SOk at sx ⊢
      simp only [Bool.and_eq_true, decide_eq_true_eq, List.all_eq_true] at sx ⊢
      exact ⟨by simp, fun c' hc' => by rw [List.mem_singleton.mp hc']; exact sx.2 c hcx⟩
  · rename_i xs
    obtain ⟨v, rfl, nx⟩ := nl.one
    obtain ⟨a, ws, rfl, h, rr⟩ := nx.lstOf
    split at p
    · rename_i ys e
      obtain ⟨e1, e2⟩ := rr.strs e
      subst e1
      cases hm : maxT ys with
      | none => rw [hm] at p; exact p.elim
      | some m =>
        rw [hm] at p
        have hne : ys ≠ [] := fun e => by rw [e] at hm; cases hm
        rw [Vals.ref1 r]
        obtain ⟨its, rv, hl, _⟩ := I.list (show SqL X.K H a ((ys.map toS).map V.str) from .inl (.inl h))
        refine max_txts (I.ok.hd hc) hl.isList (strsAre_of rv) hne fun h' tk m' t' hk h1 => ?_
        rw [hm] at h1
        cases h1
        exact ⟨.str (toS m), H, I.kept hk, ⟨_, rfl⟩, p.val rs (.str _ (maxT_sok hm e2))⟩
    · exact p.elim
  · exact p.elim
theorem cb_maxX (hc : X.calm = true) : CallR X (.builtin "max") (RLm (gx L X) vMaxX) := by
  refine CallR.weak (CallR.or (cb_maxS (L := L) hc) (cb_max (L := L) hc)) fun vs H Q ⟨ρ, P, st, as, rs, nl, p⟩ => ?_
  unfold vMaxX at p
  cases h : vMaxS as with
  | some z => rw [h] at p; exact .inl ⟨ρ, P, st, as, rs, nl, by rw [h]; exact p⟩
  | none => rw [h] at p; exact .inr ⟨ρ, P, st, as, rs, nl, p⟩
end
end Eng

namespace K77
open PySem PySem.Spec PyProof.Rows L2 Eng
/-! ### the text -/
def topS (i : Nat) : Stmt := PySem.Challenge.pw_ringread_k77_whole_lists_over_lists.main.body.getD i (.Pass ⟨0, 0, 0, 0⟩)
abbrev s__law_cup : Stmt := topS 28
theorem sc__law_cup : FnScope ["script", "cell"] ["script"] (defScope s__law_cup) := ⟨rfl, rfl, rfl, by decide +kernel, rfl, by decide +kernel, by decide +kernel⟩
abbrev s_is_tuple_of : Stmt := topS 9
theorem sc_is_tuple_of : FnScope ["value", "low", "high"] ["value", "low", "high"] (defScope s_is_tuple_of) := ⟨rfl, rfl, rfl, by decide +kernel, rfl, by decide +kernel, by decide +kernel⟩
abbrev s_is_whole : Stmt := topS 8
theorem sc_is_whole : FnScope ["value", "low", "high"] ["value", "low", "high"] (defScope s_is_whole) := ⟨rfl, rfl, rfl, by decide +kernel, rfl, by decide +kernel, by decide +kernel⟩
abbrev s_fits_row : Stmt := topS 11
theorem sc_fits_row : FnScope ["letters", "value", "low", "high", "own"] ["letters", "value", "low", "high"] (defScope s_fits_row) := ⟨rfl, rfl, rfl, by decide +kernel, rfl, by decide +kernel, by decide +kernel⟩
abbrev s_is_rising : Stmt := topS 10
theorem sc_is_rising : FnScope ["values", "one", "other"] ["values"] (defScope s_is_rising) := ⟨rfl, rfl, rfl, by decide +kernel, rfl, by decide +kernel, by decide +kernel⟩
abbrev s_fits_list : Stmt := topS 12
theorem sc_fits_list : FnScope ["value", "own"] ["value"] (defScope s_fits_list) := ⟨rfl, rfl, rfl, by decide +kernel, rfl, by decide +kernel, by decide +kernel⟩
abbrev s_need_list : Stmt := topS 13
theorem sc_need_list : FnScope ["words"] ["words"] (defScope s_need_list) := ⟨rfl, rfl, rfl, by decide +kernel, rfl, by decide +kernel, by decide +kernel⟩
abbrev s_need_two : Stmt := topS 19
theorem sc_need_two : FnScope ["one", "other"] ["one", "other"] (defScope s_need_two) := ⟨rfl, rfl, rfl, by decide +kernel, rfl, by decide +kernel, by decide +kernel⟩
abbrev s_length_in : Stmt := topS 14
theorem sc_length_in : FnScope ["words"] ["words"] (defScope s_length_in) := ⟨rfl, rfl, rfl, by decide +kernel, rfl, by decide +kernel, by decide +kernel⟩
abbrev s_need_over : Stmt := topS 20
theorem sc_need_over : FnScope ["outer", "inner"] ["outer", "inner"] (defScope s_need_over) := ⟨rfl, rfl, rfl, by decide +kernel, rfl, by decide +kernel, by decide +kernel⟩
abbrev s_made_list : Stmt := topS 21
theorem sc_made_list : FnScope ["letters", "rows", "found", "own"] ["letters", "rows"] (defScope s_made_list) := ⟨rfl, rfl, rfl, by decide +kernel, rfl, by decide +kernel, by decide +kernel⟩
abbrev s_lifted : Stmt := topS 22
theorem sc_lifted : FnScope ["inner", "word", "own"] ["inner", "word"] (defScope s_lifted) := ⟨rfl, rfl, rfl, by decide +kernel, rfl, by decide +kernel, by decide +kernel⟩
abbrev s_over_list : Stmt := topS 24
theorem sc_over_list : FnScope ["outer", "inner", "own"] ["outer", "inner"] (defScope s_over_list) := ⟨rfl, rfl, rfl, by decide +kernel, rfl, by decide +kernel, by decide +kernel⟩
abbrev s_turned : Stmt := topS 15
theorem sc_turned : FnScope ["word", "by"] ["word", "by"] (defScope s_turned) := ⟨rfl, rfl, rfl, by decide +kernel, rfl, by decide +kernel, by decide +kernel⟩
abbrev s_pieces_in : Stmt := topS 17
theorem sc_pieces_in : FnScope ["belt", "length", "first", "late", "at"] ["belt", "length", "first"] (defScope s_pieces_in) := ⟨rfl, rfl, rfl, by decide +kernel, rfl, by decide +kernel, by decide +kernel⟩
abbrev s_lowered : Stmt := topS 23
theorem sc_lowered : FnScope ["inner", "word", "length", "rows", "own"] ["inner", "word"] (defScope s_lowered) := ⟨rfl, rfl, rfl, by decide +kernel, rfl, by decide +kernel, by decide +kernel⟩
abbrev s_outer_of : Stmt := topS 25
theorem sc_outer_of : FnScope ["words", "inner", "rows", "own", "row"] ["words", "inner"] (defScope s_outer_of) := ⟨rfl, rfl, rfl, by decide +kernel, rfl, by decide +kernel, by decide +kernel⟩
abbrev s_split_over : Stmt := topS 26
theorem sc_split_over : FnScope ["words", "half", "rows", "inner", "own", "part"] ["words"] (defScope s_split_over) := ⟨rfl, rfl, rfl, by decide +kernel, rfl, by decide +kernel, by decide +kernel⟩
abbrev s__law_same : Stmt := topS 31
theorem sc__law_same : FnScope ["told", "due", "at"] ["told", "due"] (defScope s__law_same) := ⟨rfl, rfl, rfl, by decide +kernel, rfl, by decide +kernel, by decide +kernel⟩
abbrev s__law_roll : Stmt := topS 29
theorem sc__law_roll : FnScope ["cup", "many", "found", "deep"] ["cup", "many"] (defScope s__law_roll) := ⟨rfl, rfl, rfl, by decide +kernel, rfl, by decide +kernel, by decide +kernel⟩
abbrev s__law_some : Stmt := topS 30
theorem sc__law_some : FnScope ["cup", "things"] ["cup", "things"] (defScope s__law_some) := ⟨rfl, rfl, rfl, by decide +kernel, rfl, by decide +kernel, by decide +kernel⟩
abbrev s__law_list : Stmt := topS 32
theorem sc__law_list : FnScope ["cup", "letters", "length", "many", "most", "rows", "head", "turn", "at", "word", "cut"] ["cup", "letters", "length", "many", "most"] (defScope s__law_list) := ⟨rfl, rfl, rfl, by decide +kernel, rfl, by decide +kernel, by decide +kernel⟩
abbrev s__law_right : Stmt := topS 34
theorem sc__law_right : FnScope ["cup", "letters", "some", "size", "most", "is_bad", "names", "at", "rows", "words", "last", "halves", "told", "due", "more", "is_over", "inner", "outer", "own"] ["cup", "letters", "some", "size", "most"] (defScope s__law_right) := ⟨rfl, rfl, rfl, by decide +kernel, rfl, by decide +kernel, by decide +kernel⟩
abbrev s_law : Stmt := topS 35
theorem sc_law : FnScope ["script", "cup", "outer", "inner", "words", "told", "bads", "letters", "some", "size", "most", "own"] ["script"] (defScope s_law) := ⟨rfl, rfl, rfl, by decide +kernel, rfl, by decide +kernel, by decide +kernel⟩
abbrev s__law_refused : Stmt := topS 33
theorem sc__law_refused : FnScope ["call"] ["call"] (defScope s__law_refused) := ⟨rfl, rfl, rfl, by decide +kernel, rfl, by decide +kernel, by decide +kernel⟩
/-! ### what each def does -/
-- _law_cup: 0=script 1=cell
def b__law_cup (n : Nat) : Fs := sSeq (sSet (.f) n [] 1 (eB vAbs (aCons (e2 vIx (e2 vAdd (eB vList (aCons (eVar 0) (aNil))) (eLst (aCons (eC (.int 0)) (aNil)))) (eC (.int 0))) (aNil)))) (sRet (eLst (aCons (eIf (tV (e2 vGe (eVar 1) (e2 vPow (eC (.int 10)) (eC (.int 18))))) (e2 vDiv (eVar 1) (eC (.int 273))) (eC (.int 0))) (aCons (e2 vAdd (e2 vMod (eB vInt (aCons (e2 vAdd (e2 vMulN (eVar 1) (eC (.int 603))) (eC (.int 5241))) (aNil))) (eC (.int 2077503101))) (eC (.int 399))) (aNil)))))
def m__law_cup : Fc := callF 2 0 b__law_cup
-- is_tuple_of: 0=value 1=low 2=high
def b_is_tuple_of (n : Nat) : Fs := sRet (eAnd (eB vIsi (aCons (eVar 0) (aCons (eC (.ty "tuple")) (aNil)))) (eChain vLe vLe (eVar 1) (eB vLenX (aCons (eVar 0) (aNil))) (eVar 2)))
def m_is_tuple_of : Fc := callF 3 0 b_is_tuple_of
-- is_whole: 0=value 1=low 2=high
def b_is_whole (n : Nat) : Fs := sRet (eAnd (eB vIsi (aCons (eVar 0) (aCons (eC (.ty "int")) (aNil)))) (eAnd (eNot (eB vIsi (aCons (eVar 0) (aCons (eC (.ty "bool")) (aNil))))) (eChain vLe vLe (eVar 1) (eVar 0) (eVar 2))))
def m_is_whole : Fc := callF 3 0 b_is_whole
-- fits_row: 0=letters 1=value 2=low 3=high 4=own
def b_fits_row (n : Nat) : Fs := sSeq (sIf (tOr (tNot (tV (eB vIsi (aCons (eVar 1) (aCons (eC (.ty "str")) (aNil)))))) (tNot (tV (eChain vLe vLe (eVar 2) (eB vLenX (aCons (eVar 1) (aNil))) (eVar 3))))) (sRet (eC (.bl false))) (sNil)) (sRet (eB vAll (aCons (eComp (iAnyF (eVar 1)) (.n 4) (tYesF) (e2 vIn (eVar 4) (eSl (eC (.str [97, 98, 99, 100])) (pNo) (pAt (eVar 0)))) [4]) (aNil))))
def m_fits_row : Fc := callF 5 0 b_fits_row
-- is_rising: 0=values 1=one 2=other
def b_is_rising (n : Nat) : Fs := sRet (eB vAll (aCons (eComp (iZipA true (aCons (eVar 0) (aCons (eSl (eVar 0) (pAt (eC (.int 1))) (pNo)) (aNil)))) (.t [1, 2]) (tYesF) (e2 vLt (eVar 1) (eVar 2)) [1, 2]) (aNil)))
def m_is_rising : Fc := callF 3 0 b_is_rising
-- fits_list: 0=value 1=own
def b_fits_list (n : Nat) : Fs := sSeq (sIf (tOr (tNot (tV (eCall m_is_tuple_of (aCons (eVar 0) (aCons (eC (.int 2)) (aCons (eC (.int 2)) (aNil))))))) (tOr (tNot (tV (eCall m_is_whole (aCons (e2 vIx (eVar 0) (eC (.int 0))) (aCons (eC (.int 1)) (aCons (eB vLenX (aCons (eC (.str [97, 98, 99, 100])) (aNil))) (aNil))))))) (tNot (tV (eCall m_is_tuple_of (aCons (e2 vIx (eVar 0) (eC (.int 1))) (aCons (eC (.int 1)) (aCons (eC (.int 40)) (aNil))))))))) (sRet (eC (.bl false))) (sNil)) (sSeq (sIf (tNot (tV (eB vAll (aCons (eComp (iAnyF (e2 vIx (eVar 0) (eC (.int 1)))) (.n 1) (tYesF) (eCall m_fits_row (aCons (e2 vIx (eVar 0) (eC (.int 0))) (aCons (eVar 1) (aCons (eC (.int 2)) (aCons (eC (.int 4)) (aNil)))))) [1]) (aNil))))) (sRet (eC (.bl false))) (sNil)) (sRet (eAnd (eB vAll (aCons (eComp (iAnyF (e2 vIx (eVar 0) (eC (.int 1)))) (.n 1) (tYesF) (e2 vEq (eB vLenX (aCons (eVar 1) (aNil))) (eB vLenX (aCons (e2 vIx (e2 vIx (eVar 0) (eC (.int 1))) (eC (.int 0))) (aNil)))) [1]) (aNil))) (eCall m_is_rising (aCons (e2 vIx (eVar 0) (eC (.int 1))) (aNil))))))
def m_fits_list : Fc := callF 2 0 b_fits_list
-- need_list: 0=words
def b_need_list (n : Nat) : Fs := sIf (tNot (tV (eCall m_fits_list (aCons (eVar 0) (aNil))))) (sRaise "InvalidList") (sNil)
def m_need_list : Fc := callF 1 0 b_need_list
-- need_two: 0=one 1=other
def b_need_two (n : Nat) : Fs := sSeq (sExpr (eCall m_need_list (aCons (eVar 0) (aNil)))) (sExpr (eCall m_need_list (aCons (eVar 1) (aNil))))
def m_need_two : Fc := callF 2 0 b_need_two
-- length_in: 0=words
def b_length_in (n : Nat) : Fs := sRet (eB vLenX (aCons (e2 vIx (e2 vIx (eVar 0) (eC (.int 1))) (eC (.int 0))) (aNil)))
def m_length_in : Fc := callF 1 0 b_length_in
-- need_over: 0=outer 1=inner
def b_need_over (n : Nat) : Fs := sSeq (sExpr (eCall m_need_two (aCons (eVar 0) (aCons (eVar 1) (aNil))))) (sIf (tOr (tV (e2 vGt (e2 vMulN (eCall m_length_in (aCons (eVar 0) (aNil))) (eCall m_length_in (aCons (eVar 1) (aNil)))) (eC (.int 4)))) (tV (e2 vGt (e2 vIx (eVar 0) (eC (.int 0))) (eB vLenX (aCons (e2 vIx (eVar 1) (eC (.int 1))) (aNil)))))) (sRaise "InvalidList") (sNil))
def m_need_over : Fc := callF 2 0 b_need_over
-- made_list: 0=letters 1=rows 2=found 3=own
def b_made_list (n : Nat) : Fs := sSeq (sSet (.f) n [] 2 (eTup (aCons (eVar 0) (aCons (eB vTuple (aCons (eB vSortX (aCons (eDComp (iAnyF (eVar 1)) (.n 3) (tYesF) (eVar 3) (eC (.bl true)) [3]) (aNil))) (aNil))) (aNil))))) (sSeq (sIf (tNot (tV (eCall m_fits_list (aCons (eVar 2) (aNil))))) (sRaise "InvalidList") (sNil)) (sRet (eVar 2)))
def m_made_list : Fc := callF 4 0 b_made_list
-- lifted: 0=inner 1=word 2=own
def b_lifted (n : Nat) : Fs := sRet (eM "str" vJoin (eC (.str [])) (aCons (eComp (iAnyF (eVar 1)) (.n 2) (tYesF) (e2 vIx (e2 vIx (eVar 0) (eC (.int 1))) (eM "str" vSIndex (eC (.str [97, 98, 99, 100])) (aCons (eVar 2) (aNil)))) [2]) (aNil)))
def m_lifted : Fc := callF 3 0 b_lifted
-- over_list: 0=outer 1=inner 2=own
def b_over_list (n : Nat) : Fs := sSeq (sExpr (eCall m_need_over (aCons (eVar 0) (aCons (eVar 1) (aNil))))) (sRet (eCall m_made_list (aCons (e2 vIx (eVar 1) (eC (.int 0))) (aCons (eComp (iAnyF (e2 vIx (eVar 0) (eC (.int 1)))) (.n 2) (tYesF) (eCall m_lifted (aCons (eVar 1) (aCons (eVar 2) (aNil)))) [2]) (aNil)))))
def m_over_list : Fc := callF 3 0 b_over_list
-- turned: 0=word 1=by
def b_turned (n : Nat) : Fs := sRet (e2 vAdd (eSl (eVar 0) (pAt (eVar 1)) (pNo)) (eSl (eVar 0) (pNo) (pAt (eVar 1))))
def m_turned : Fc := callF 2 0 b_turned
-- pieces_in: 0=belt 1=length 2=first 3=late 4=at
def b_pieces_in (n : Nat) : Fs := sSeq (sSet (.f) n [] 3 (eCall m_turned (aCons (eVar 0) (aCons (eVar 2) (aNil))))) (sRet (eB vTuple (aCons (eComp (iRng3F (aCons (eC (.int 0)) (aCons (eB vLenX (aCons (eVar 3) (aNil))) (aCons (eVar 1) (aNil))))) (.n 4) (tYesF) (eSl (eVar 3) (pAt (eVar 4)) (pAt (e2 vAdd (eVar 4) (eVar 1)))) [4]) (aNil))))
def m_pieces_in : Fc := callF 5 0 b_pieces_in
-- lowered: 0=inner 1=word 2=length 3=rows 4=own
def b_lowered (n : Nat) : Fs := sSeq (sSet (.f) n [] 2 (eCall m_length_in (aCons (eVar 0) (aNil)))) (sSeq (sIf (tV (e2 vNe (e2 vMod (eB vLenX (aCons (eVar 1) (aNil))) (eVar 2)) (eC (.int 0)))) (sRet (eC .non)) (sNil)) (sSeq (sSet (.f) n [] 3 (eCall m_pieces_in (aCons (eVar 1) (aCons (eVar 2) (aCons (eC (.int 0)) (aNil)))))) (sSeq (sIf (tNot (tV (eB vAll (aCons (eComp (iAnyF (eVar 3)) (.n 4) (tYesF) (e2 vIn (eVar 4) (eSl (e2 vIx (eVar 0) (eC (.int 1))) (pNo) (pAt (eB vLenX (aCons (eC (.str [97, 98, 99, 100])) (aNil)))))) [4]) (aNil))))) (sRet (eC .non)) (sNil)) (sRet (eM "str" vJoin (eC (.str [])) (aCons (eComp (iAnyF (eVar 3)) (.n 4) (tYesF) (e2 vIx (eC (.str [97, 98, 99, 100])) (eTI (e2 vIx (eVar 0) (eC (.int 1))) (aCons (eVar 4) (aNil)))) [4]) (aNil)))))))
def m_lowered : Fc := callF 5 0 b_lowered
-- outer_of: 0=words 1=inner 2=rows 3=own 4=row
def b_outer_of (n : Nat) : Fs := sSeq (sExpr (eCall m_need_two (aCons (eVar 0) (aCons (eVar 1) (aNil))))) (sSeq (sIf (tOr (tV (e2 vNe (e2 vMod (eCall m_length_in (aCons (eVar 0) (aNil))) (eCall m_length_in (aCons (eVar 1) (aNil)))) (eC (.int 0)))) (tV (e2 vLt (e2 vDiv (eCall m_length_in (aCons (eVar 0) (aNil))) (eCall m_length_in (aCons (eVar 1) (aNil)))) (eC (.int 2))))) (sRet (eC .non)) (sNil)) (sSeq (sSet (.f) n [] 2 (eComp (iAnyF (e2 vIx (eVar 0) (eC (.int 1)))) (.n 3) (tYesF) (eCall m_lowered (aCons (eVar 1) (aCons (eVar 3) (aNil)))) [3])) (sSeq (sIf (tOr (tV (e2 vIn (eC .non) (eVar 2))) (tV (e2 vNe (e2 vIx (eVar 0) (eC (.int 0))) (e2 vIx (eVar 1) (eC (.int 0)))))) (sRet (eC .non)) (sNil)) (sRet (eCall m_made_list (aCons (e2 vAdd (eC (.int 1)) (eB vMaxX (aCons (eComp2 (iAnyF (eVar 2)) (.n 4) (tYesF) (iAnyF (eVar 4)) (.n 3) (tYesF) (eM "str" vSIndex (eC (.str [97, 98, 99, 100])) (aCons (eVar 3) (aNil))) [4, 3] [3]) (aNil)))) (aCons (eVar 2) (aNil))))))))
def m_outer_of : Fc := callF 5 0 b_outer_of
-- split_over: 0=words 1=half 2=rows 3=inner 4=own 5=part
def b_split_over (n : Nat) : Fs := sSeq (sExpr (eCall m_need_list (aCons (eVar 0) (aNil)))) (sSeq (sSet (.f) n [] 1 (e2 vDiv (eCall m_length_in (aCons (eVar 0) (aNil))) (eC (.int 2)))) (sSeq (sIf (tOr (tV (e2 vNe (e2 vMulN (eC (.int 2)) (eVar 1)) (eCall m_length_in (aCons (eVar 0) (aNil))))) (tV (e2 vLt (eVar 1) (eC (.int 2))))) (sRet (eC .non)) (sNil)) (sSeq (sSet (.f) n [] 2 (eB vSortX (aCons (eDComp2 (iAnyF (e2 vIx (eVar 0) (eC (.int 1)))) (.n 4) (tYesF) (iAnyF (eTup (aCons (eSl (eVar 4) (pNo) (pAt (eVar 1))) (aCons (eSl (eVar 4) (pAt (eVar 1)) (pNo)) (aNil))))) (.n 5) (tYesF) (eVar 5) (eC (.bl true)) [4, 5] [5]) (aNil)))) (sSeq (sIf (tV (e2 vGt (eB vLenX (aCons (eVar 2) (aNil))) (eB vLenX (aCons (eC (.str [97, 98, 99, 100])) (aNil))))) (sRet (eC .non)) (sNil)) (sSeq (sSet (.f) n [] 3 (eCall m_made_list (aCons (e2 vIx (eVar 0) (eC (.int 0))) (aCons (eVar 2) (aNil))))) (sRet (eTup (aCons (eCall m_made_list (aCons (eB vLenX (aCons (eVar 2) (aNil))) (aCons (eComp (iAnyF (e2 vIx (eVar 0) (eC (.int 1)))) (.n 4) (tYesF) (eCall m_lowered (aCons (eVar 3) (aCons (eVar 4) (aNil)))) [4]) (aNil)))) (aCons (eVar 3) (aNil))))))))))
def m_split_over : Fc := callF 6 0 b_split_over
-- _law_same: 0=told 1=due 2=at
def b__law_same (rec : Fc) (n : Nat) : Fs := sSeq (sIf (tV (eB vIsi (aCons (eVar 1) (aCons (eC (.ty "tuple")) (aNil))))) (sSeq (sIf (tOr (tNot (tV (eB vIsi (aCons (eVar 0) (aCons (eC (.ty "tuple")) (aNil)))))) (tV (e2 vNe (eB vLenX (aCons (eVar 0) (aNil))) (eB vLenX (aCons (eVar 1) (aNil)))))) (sRet (eC (.bl false))) (sNil)) (sRet (eB vAll (aCons (eComp (iRng1F (aCons (eB vLenX (aCons (eVar 1) (aNil))) (aNil))) (.n 2) (tYesF) (eCall (rec) (aCons (e2 vIx (eVar 0) (eVar 2)) (aCons (e2 vIx (eVar 1) (eVar 2)) (aNil)))) [2]) (aNil))))) (sNil)) (sSeq (sIf (tV (e2 vIs (eVar 1) (eC .non))) (sRet (e2 vIs (eVar 0) (eC .non))) (sNil)) (sSeq (sIf (tV (eB vIsi (aCons (eVar 1) (aCons (eC (.ty "bool")) (aNil))))) (sRet (eIf (tV (eVar 1)) (e2 vIs (eVar 0) (eC (.bl true))) (e2 vIs (eVar 0) (eC (.bl false))))) (sNil)) (sSeq (sIf (tV (eB vIsi (aCons (eVar 1) (aCons (eC (.ty "int")) (aNil))))) (sRet (eAnd (eB vIsi (aCons (eVar 0) (aCons (eC (.ty "int")) (aNil)))) (eAnd (eNot (eB vIsi (aCons (eVar 0) (aCons (eC (.ty "bool")) (aNil))))) (e2 vEq (eB vInt (aCons (eVar 0) (aNil))) (eVar 1))))) (sNil)) (sRet (eAnd (eB vIsi (aCons (eVar 0) (aCons (eC (.ty "str")) (aNil)))) (e2 vEq (eB vStr (aCons (eVar 0) (aNil))) (eVar 1)))))))
def m__law_same : Nat → Fc
  | 0 => callF 3 0 fun _ => sBad
  | k + 1 => callF 3 0 (b__law_same (m__law_same k))
-- _law_roll: 0=cup 1=many 2=found 3=deep
def b__law_roll (n : Nat) : Fs := sSeq (sIf (tV (e2 vGt (e2 vIx (eVar 0) (eC (.int 0))) (eC (.int 0)))) (sSeq (sSet (.f) n [] 2 (e2 vMod (eB vInt (aCons (e2 vIx (eVar 0) (eC (.int 0))) (aNil))) (eVar 1))) (sSeq (sAsg (e2 vDiv (e2 vIx (eVar 0) (eC (.int 0))) (eVar 1)) (gSt oSet (eVar 0) (eC (.int 0)))) (sRet (eVar 2)))) (sNil)) (sSeq (sAsg (e2 vMod (eB vInt (aCons (e2 vAdd (e2 vMulN (e2 vIx (eVar 0) (eC (.int 1))) (eC (.int 31257))) (eC (.int 8267))) (aNil))) (eC (.int 2147483399))) (gSt oSet (eVar 0) (eC (.int 1)))) (sSeq (sSet (.f) n [] 3 (e2 vMod (eB vInt (aCons (e2 vMulN (e2 vIx (eVar 0) (eC (.int 1))) (e2 vAdd (e2 vIx (eVar 0) (eC (.int 1))) (eC (.int 535)))) (aNil))) (eC (.int 2147483563)))) (sRet (e2 vMod (eB vInt (aCons (e2 vDiv (eVar 3) (eC (.int 797))) (aNil))) (eVar 1)))))
def m__law_roll : Fc := callF 4 0 b__law_roll
-- _law_some: 0=cup 1=things
def b__law_some (n : Nat) : Fs := sRet (e2 vIx (eVar 1) (eCall m__law_roll (aCons (eVar 0) (aCons (eB vLenX (aCons (eVar 1) (aNil))) (aNil)))))
def m__law_some : Fc := callF 2 0 b__law_some
-- _law_list: 0=cup 1=letters 2=length 3=many 4=most 5=rows 6=head 7=turn 8=at 9=word 10=cut own: rows
def b__law_list (n : Nat) : Fs := sSeq (sPar [5, 6] (bCons (.c 0) n [] (eDic false) (bCons (.f) n [] (e2 vMulN (eC (.str [97])) (eVar 2)) (bNil)))) (sSeq (sFor (iRng1F (aCons (eVar 3) (aNil))) (.n 7) n (([] ++ []) ++ (([] ++ []) ++ (([] ++ []) ++ ((([] ++ []) ++ (([] ++ []) ++ [])) ++ ([] ++ []))))) (sSeq (sSet (.f) n [] 9 (eM "str" vJoin (eC (.str [])) (aCons (eComp (iRng1F (aCons (eVar 2) (aNil))) (.n 8) (tYesF) (e2 vIx (eC (.str [97, 98, 99, 100])) (eCall m__law_roll (aCons (eVar 0) (aCons (eVar 1) (aNil))))) [8]) (aNil)))) (sSeq (sSet (.f) n [] 10 (eCall m__law_roll (aCons (eVar 0) (aCons (eVar 2) (aNil))))) (sSeq (sSet (.f) n [] 9 (eSl (e2 vAdd (eSl (eVar 6) (pNo) (pAt (eVar 10))) (eVar 9)) (pNo) (pAt (eVar 2)))) (sSeq (sTup (bCons (.f) n [] (eCall m__law_some (aCons (eVar 0) (aCons (eLst (aCons (eVar 6) (aCons (eVar 9) (aNil)))) (aNil)))) (bCons (.f) n [] (eC (.bl true)) (bNil))) (gsCons (gN 6) (gsCons (gSt oSet (eVar 5) (eVar 9)) (gsNil)))) (sIf (tV (e2 vEq (eCall m__law_roll (aCons (eVar 0) (aCons (eC (.int 3)) (aNil)))) (eC (.int 0)))) (sFor (iRng1F (aCons (eVar 1) (aNil))) (.n 8) n [] (sAsg (eC (.bl true)) (gSt oSet (eVar 5) (e2 vAdd (eSl (eVar 9) (pNo) (pAt (e1 vNeg (eC (.int 1))))) (e2 vIx (eC (.str [97, 98, 99, 100])) (eVar 8)))))) (sNil))))))) (sRet (eTup (aCons (eVar 1) (aCons (eB vTuple (aCons (eSl (eB vSortX (aCons (eVar 5) (aNil))) (pNo) (pAt (eVar 4))) (aNil))) (aNil))))))
def m__law_list : Fc := callF 11 1 b__law_list
-- _law_right: 0=cup 1=letters 2=some 3=size 4=most 5=is_bad 6=names 7=at 8=rows 9=words 10=last 11=halves 12=told 13=due 14=more 15=is_over 16=inner 17=outer 18=own own: names
def b__law_right (n : Nat) : Fs := sSeq (sTup (bCons (.f) n [] (eCall m__law_list (aCons (eVar 0) (aCons (eVar 1) (aCons (eC (.int 2)) (aCons (eVar 3) (aCons (eVar 4) (aNil))))))) (bCons (.f) n [] (eCall m__law_list (aCons (eVar 0) (aCons (eVar 2) (aCons (eC (.int 2)) (aCons (eVar 3) (aCons (eVar 4) (aNil))))))) (bNil))) (gsCons (gN 17) (gsCons (gN 16) (gsNil)))) (sSeq (sSet (.f) n [] 5 (e2 vLt (eB vLenX (aCons (e2 vIx (eVar 16) (eC (.int 1))) (aNil))) (eVar 1))) (sSeq (sIf (tV (e2 vNe (eRef (mtOne "InvalidList") (eCall m_over_list (aCons (eVar 17) (aCons (eVar 16) (aNil))))) (eVar 5))) (sRet (eC (.bl false))) (sNil)) (sSeq (sIf (tV (eVar 5)) (sRet (eC (.bl true))) (sNil)) (sSeq (sSet (.c 0) n [] 6 (eDic false)) (sSeq (sFor (iRng1F (aCons (eVar 1) (aNil))) (.n 7) n [] (sAsg (e2 vIx (e2 vIx (eVar 16) (eC (.int 1))) (eVar 7)) (gSt oSet (eVar 6) (e2 vIx (eC (.str [97, 98, 99, 100])) (eVar 7))))) (sSeq (sSet (.f) n [] 8 (eComp (iAnyF (e2 vIx (eVar 17) (eC (.int 1)))) (.n 18) (tYesF) (e2 vAdd (e2 vIx (eVar 6) (e2 vIx (eVar 18) (eC (.int 0)))) (e2 vIx (eVar 6) (e2 vIx (eVar 18) (eC (.int 1))))) [18])) (sSeq (sSet (.f) n [] 9 (eCall m_over_list (aCons (eVar 17) (aCons (eVar 16) (aNil))))) (sSeq (sIf (tOr (tNot (tV (eCall (m__law_same 6) (aCons (eVar 9) (aCons (eTup (aCons (eVar 2) (aCons (eB vTuple (aCons (eB vSortSet (aCons (eVar 8) aNil)) (aNil))) (aNil)))) (aNil)))))) (tV (e2 vNe (eB vLenX (aCons (e2 vIx (eVar 9) (eC (.int 1))) (aNil))) (eB vLenX (aCons (e2 vIx (eVar 17) (eC (.int 1))) (aNil)))))) (sRet (eC (.bl false))) (sNil)) (sSeq (sSet (.f) n [] 10 (eB vMaxX (aCons (eComp (iAnyF (e2 vIx (eVar 17) (eC (.int 1)))) (.n 18) (tYesF) (eB vMaxX (aCons (eVar 18) (aNil))) [18]) (aNil)))) (sSeq (sIf (tNot (tV (eCall (m__law_same 6) (aCons (eCall m_outer_of (aCons (eVar 9) (aCons (eVar 16) (aNil)))) (aCons (eTup (aCons (e2 vAdd (eM "str" vSIndex (eC (.str [97, 98, 99, 100])) (aCons (eVar 10) (aNil))) (eC (.int 1))) (aCons (e2 vIx (eVar 17) (eC (.int 1))) (aNil)))) (aNil)))))) (sRet (eC (.bl false))) (sNil)) (sSeq (sSet (.f) n [] 11 (eB vSortSet (aCons (e2 vAdd (eComp (iAnyF (e2 vIx (eVar 9) (eC (.int 1)))) (.n 18) (tYesF) (eSl (eVar 18) (pNo) (pAt (eC (.int 2)))) [18]) (eComp (iAnyF (e2 vIx (eVar 9) (eC (.int 1)))) (.n 18) (tYesF) (eSl (eVar 18) (pAt (eC (.int 2))) (pNo)) [18])) aNil))) (sSeq (sSet (.f) n [] 12 (eCall m_split_over (aCons (eVar 9) (aNil)))) (sSeq (sIf (tV (e2 vNe (e2 vIs (eVar 12) (eC .non)) (e2 vGt (eB vLenX (aCons (eVar 11) (aNil))) (eC (.int 4))))) (sRet (eC (.bl false))) (sNil)) (sSeq (sIf (tV (e2 vIsN (eVar 12) (eC .non))) (sSeq (sSet (.f) n [] 13 (eB vTuple (aCons (eB vSortX (aCons (eComp (iAnyF (e2 vIx (eVar 9) (eC (.int 1)))) (.n 18) (tYesF) (e2 vAdd (e2 vIx (eC (.str [97, 98, 99, 100])) (eM "list" vLIndex (eVar 11) (aCons (eSl (eVar 18) (pNo) (pAt (eC (.int 2)))) (aNil)))) (e2 vIx (eC (.str [97, 98, 99, 100])) (eM "list" vLIndex (eVar 11) (aCons (eSl (eVar 18) (pAt (eC (.int 2))) (pNo)) (aNil))))) [18]) (aNil))) (aNil)))) (sIf (tOr (tNot (tV (eCall (m__law_same 6) (aCons (eVar 12) (aCons (eTup (aCons (eTup (aCons (eB vLenX (aCons (eVar 11) (aNil))) (aCons (eVar 13) (aNil)))) (aCons (eTup (aCons (eVar 2) (aCons (eB vTuple (aCons (eVar 11) (aNil))) (aNil)))) (aNil)))) (aNil)))))) (tV (e2 vNe (eCall m_over_list (aCons (e2 vIx (eVar 12) (eC (.int 0))) (aCons (e2 vIx (eVar 12) (eC (.int 1))) (aNil)))) (eVar 9)))) (sRet (eC (.bl false))) (sNil))) (sNil)) (sSeq (sSet (.f) n [] 14 (eCall m__law_list (aCons (eVar 0) (aCons (eVar 2) (aCons (eC (.int 4)) (aCons (eC (.int 3)) (aCons (eC (.int 6)) (aNil)))))))) (sSeq (sSet (.f) n [] 15 (e2 vEq (eComp (iAnyF (e2 vIx (eVar 14) (eC (.int 1)))) (.n 18) (tOr (tV (e2 vNotIn (eSl (eVar 18) (pNo) (pAt (eC (.int 2)))) (eSl (e2 vIx (eVar 16) (eC (.int 1))) (pNo) (pAt (eC (.int 4)))))) (tV (e2 vNotIn (eSl (eVar 18) (pAt (eC (.int 2))) (pNo)) (eSl (e2 vIx (eVar 16) (eC (.int 1))) (pNo) (pAt (eC (.int 4))))))) (eVar 18) [18]) (eLst (aNil)))) (sSeq (sSet (.f) n [] 12 (eCall m_outer_of (aCons (eVar 14) (aCons (eVar 16) (aNil))))) (sRet (eAnd (e2 vEq (e2 vIsN (eVar 12) (eC .non)) (eVar 15)) (eOr (e2 vIs (eVar 12) (eC .non)) (e2 vEq (eCall m_over_list (aCons (eVar 12) (aCons (eVar 16) (aNil)))) (eVar 14))))))))))))))))))))))
def m__law_right : Fc := callF 19 1 b__law_right
-- law: 0=script 1=cup 2=outer 3=inner 4=words 5=told 6=bads 7=letters 8=some 9=size 10=most 11=own own: cup
def b_law (n : Nat) : Fs := sSeq (sSet (.c 0) n [] 1 (eCall m__law_cup (aCons (eVar 0) (aNil)))) (sSeq (sTup (bCons (.f) n [] (eTup (aCons (eC (.int 2)) (aCons (eTup (aCons (eC (.str [97, 98])) (aCons (eC (.str [98, 98])) (aNil)))) (aNil)))) (bCons (.f) n [] (eTup (aCons (eC (.int 2)) (aCons (eTup (aCons (eC (.str [97, 98])) (aCons (eC (.str [98, 97])) (aNil)))) (aNil)))) (bNil))) (gsCons (gN 2) (gsCons (gN 3) (gsNil)))) (sSeq (sSet (.f) n [] 4 (eTup (aCons (eC (.int 2)) (aCons (eTup (aCons (eC (.str [97, 98, 98, 97])) (aCons (eC (.str [98, 97, 98, 97])) (aNil)))) (aNil))))) (sSeq (sSet (.f) n [] 5 (eTup (aCons (eCall m_over_list (aCons (eVar 2) (aCons (eVar 3) (aNil)))) (aCons (eCall m_outer_of (aCons (eVar 4) (aCons (eVar 3) (aNil)))) (aCons (eCall m_split_over (aCons (eVar 4) (aNil))) (aCons (eCall m_split_over (aCons (eTup (aCons (eC (.int 2)) (aCons (eTup (aCons (eC (.str [97, 98, 97, 98])) (aNil))) (aNil)))) (aNil))) (aCons (eCall m_outer_of (aCons (eTup (aCons (eC (.int 2)) (aCons (eTup (aCons (eC (.str [97, 97, 98, 98])) (aNil))) (aNil)))) (aCons (eVar 3) (aNil)))) (aCons (eCall m_split_over (aCons (eTup (aCons (eC (.int 2)) (aCons (eTup (aCons (eC (.str [97, 97, 98])) (aNil))) (aNil)))) (aNil))) (aNil))))))))) (sSeq (sIf (tNot (tV (eCall (m__law_same 6) (aCons (eVar 5) (aCons (eTup (aCons (eVar 4) (aCons (eVar 2) (aCons (eTup (aCons (eVar 2) (aCons (eVar 3) (aNil)))) (aCons (eTup (aCons (eTup (aCons (eC (.int 1)) (aCons (eTup (aCons (eC (.str [97, 97])) (aNil))) (aNil)))) (aCons (eTup (aCons (eC (.int 2)) (aCons (eTup (aCons (eC (.str [97, 98])) (aNil))) (aNil)))) (aNil)))) (aCons (eC .non) (aCons (eC .non) (aNil)))))))) (aNil)))))) (sRet (eC (.bl false))) (sNil)) (sSeq (sSet (.f) n [] 5 (eTup (aCons (eCall m_split_over (aCons (eTup (aCons (eC (.int 3)) (aCons (eTup (aCons (eC (.str [97, 97, 98, 98])) (aCons (eC (.str [97, 98, 97, 99])) (aCons (eC (.str [98, 99, 97, 97])) (aNil))))) (aNil)))) (aNil))) (aCons (eCall m_outer_of (aCons (eTup (aCons (eC (.int 2)) (aCons (eTup (aCons (eC (.str [97, 98, 98, 97])) (aNil))) (aNil)))) (aCons (eTup (aCons (eC (.int 3)) (aCons (eTup (aCons (eC (.str [97, 98])) (aCons (eC (.str [98, 97])) (aNil)))) (aNil)))) (aNil)))) (aCons (eCall m_outer_of (aCons (eTup (aCons (eC (.int 2)) (aCons (eTup (aCons (eC (.str [97, 98])) (aNil))) (aNil)))) (aCons (eVar 3) (aNil)))) (aNil)))))) (sSeq (sIf (tNot (tV (eCall (m__law_same 6) (aCons (e2 vAdd (eVar 5) (eTup (aCons (eCall m_outer_of (aCons (eTup (aCons (eC (.int 2)) (aCons (eTup (aCons (eC (.str [97, 98, 97, 98])) (aNil))) (aNil)))) (aCons (eTup (aCons (eC (.int 2)) (aCons (eTup (aCons (eC (.str [97, 97, 97, 98])) (aCons (eC (.str [97, 98, 97, 98])) (aNil)))) (aNil)))) (aNil)))) (aNil)))) (aCons (eTup (aCons (eC .non) (aCons (eC .non) (aCons (eC .non) (aCons (eC .non) (aNil)))))) (aNil)))))) (sRet (eC (.bl false))) (sNil)) (sSeq (sSet (.f) n [] 6 (eLst (aCons (eTup (aCons (eTup (aCons (eC (.int 3)) (aCons (eTup (aCons (eC (.str [97, 99])) (aNil))) (aNil)))) (aCons (eVar 3) (aNil)))) (aCons (eTup (aCons (eTup (aCons (eC (.int 2)) (aCons (eTup (aCons (eC (.str [97, 97, 98])) (aNil))) (aNil)))) (aCons (eVar 3) (aNil)))) (aCons (eTup (aCons (eVar 2) (aCons (eTup (aCons (eC (.int 2)) (aCons (eTup (aCons (eC (.str [97, 97, 98])) (aCons (eC (.str [97, 98, 98])) (aNil)))) (aNil)))) (aNil)))) (aCons (eTup (aCons (eTup (aCons (eC (.int 2)) (aCons (eTup (aCons (eC (.str [97, 98])) (aNil))) (aNil)))) (aCons (eTup (aCons (eC (.int 2)) (aCons (eTup (aCons (eC (.str [97, 98])) (aNil))) (aNil)))) (aNil)))) (aNil))))))) (sSeq (sIf (tV (e2 vNe (eComp (iAnyF (eVar 6)) (.n 11) (tNot (tV (eRef (mtOne "InvalidList") (eCall m_over_list (aCons (e2 vIx (eVar 11) (eC (.int 0))) (aCons (e2 vIx (eVar 11) (eC (.int 1))) (aNil))))))) (eVar 11) [11]) (eLst (aNil)))) (sRet (eC (.bl false))) (sNil)) (sSeq (sFor (iAnyF (eTup (aCons (eTup (aCons (eC (.int 1)) (aCons (eC (.int 2)) (aCons (eC (.int 2)) (aCons (eC (.int 3)) (aNil)))))) (aCons (eTup (aCons (eC (.int 2)) (aCons (eC (.int 2)) (aCons (eC (.int 3)) (aCons (eC (.int 4)) (aNil)))))) (aCons (eTup (aCons (eC (.int 3)) (aCons (eC (.int 3)) (aCons (eC (.int 4)) (aCons (eC (.int 6)) (aNil)))))) (aCons (eTup (aCons (eC (.int 4)) (aCons (eC (.int 4)) (aCons (eC (.int 5)) (aCons (eC (.int 9)) (aNil)))))) (aCons (eTup (aCons (eC (.int 2)) (aCons (eC (.int 4)) (aCons (eC (.int 4)) (aCons (eC (.int 6)) (aNil)))))) (aNil)))))))) (.t [7, 8, 9, 10]) n ([] ++ []) (sIf (tNot (tV (eCall m__law_right (aCons (eVar 1) (aCons (eVar 7) (aCons (eVar 8) (aCons (eVar 9) (aCons (eVar 10) (aNil))))))))) (sRet (eC (.bl false))) (sNil))) (sRet (eC (.bl true))))))))))))
def m_law : Fc := callF 12 1 b_law

end K77

namespace K77
open PySem PySem.Spec PyProof.Rows L2 Eng
theorem mul_okN {i j : Int} (h : mulOk i = true) : vMulN (.int i) (.int j) = some (.v (.int (i * j))) := mul_ok h
section
variable {st : Sto}
@[simp] theorem lenX_t (xs : List Val) : vLenX [.tup xs] = vLen [.tup xs] := rfl
@[simp] theorem lenX_l (xs : List Val) : vLenX [.lst xs] = vLen [.lst xs] := rfl
@[simp] theorem lenX_s (s : List Nat) : vLenX [.str s] = vLen [.str s] := rfl
@[simp] theorem sortX_d (kvs : List (Val × Val)) : vSortX [.dic false kvs] = vSort [.dic false kvs] := rfl
theorem is_whole_i (i lo hi : Int) : m_is_whole [.v (.int i), .v (.int lo), .v (.int hi)] st = .ok (.v (.bl (decide (lo ≤ i) && decide (i ≤ hi)))) st := by
  refine call_v ?_
  by_cases h : lo ≤ i <;> simp [b_is_whole, h]
theorem is_whole_s (s : List Nat) (lo hi : Int) : m_is_whole [.v (.str s), .v (.int lo), .v (.int hi)] st = .ok (.v (.bl false)) st := by
  refine call_v ?_
  simp [b_is_whole]
theorem is_tup_t (xs : List Val) (lo hi : Int) : m_is_tuple_of [.v (.tup xs), .v (.int lo), .v (.int hi)] st = .ok (.v (.bl (decide (lo ≤ xs.length) && decide ((xs.length : Int) ≤ hi)))) st := by
  refine call_v ?_
  by_cases h : lo ≤ xs.length <;> simp [b_is_tuple_of, h]
theorem is_tup_n {x : Val} (lo hi : Int) (h : isiV x "tuple" = some false) : m_is_tuple_of [.v x, .v (.int lo), .v (.int hi)] st = .ok (.v (.bl false)) st := by
  refine call_v ?_
  simp [b_is_tuple_of, h]
def okL (L : Nat) (l : List Nat) : Bool := l.all fun c => decide (c ∈ [97, 98, 99, 100].take L)
theorem cut_abcd (L : Nat) : cutL [97, 98, 99, 100] none (some (L : Int)) = [97, 98, 99, 100].take L := by
  unfold cutL
  rw [HT.sIx_none, HT.sIx_nat]
  simp only [List.drop_zero, Nat.sub_zero, List.length_cons, List.length_nil]
  by_cases h : L ≤ 4
  · rw [Nat.min_eq_left h]
  · rw [Nat.min_eq_right (by omega), List.take_of_length_le (by simp), List.take_of_length_le (by simp; omega)]
theorem fits_row_s (L : Nat) (l : List Nat) (lo hi : Int) (hl : l.length ≤ 1000000) (h1 : lo ≤ l.length) (h2 : (l.length : Int) ≤ hi) : m_fits_row [.v (.int L), .v (.str l), .v (.int lo), .v (.int hi)] st = .ok (.v (.bl (okL L l))) st := by
  refine call_v ?_
  refine stF ?_ (ret_v ?_)
  · simp [h1, h2]
  · refine (all_comp (fun x => match x with | .str [c] => decide (c ∈ [97, 98, 99, 100].take L) | _ => false) (any_str (s := l) (by simp)) (by simpa using hl) fun x hx => ?_).trans ?_
    · obtain ⟨c, hc, rfl⟩ := List.mem_map.mp hx
      exact ⟨_, rfl, by simp [cut_abcd]⟩
    · unfold okL; simp [List.all_map, Function.comp_def]
theorem cut1 {α : Type} (xs : List α) : cutL xs (some 1) none = xs.drop 1 := by
  unfold cutL
  rw [show HT.sIx xs.length 0 (some 1) = min 1 xs.length from HT.sIx_nat xs.length 0 1, HT.sIx_none]
  cases xs with
  | nil => rfl
  | cons x r => simp
def strP : Val → Bool
  | .prs [.str a, .str b] => decide (a < b)
  | _ => false
theorem is_rising_s {rows : List (List Nat)} (h : rows.Pairwise (· < ·)) (hl : rows.length ≤ 1000) : m_is_rising [.v (.tup (rows.map .str))] st = .ok (.v (.bl true)) st := by
  refine call_v (ret_v ?_)
  have hz : ∀ z ∈ zipQ true (rows.map Val.str) ((rows.map Val.str).drop 1), ∃ a b, z = .prs [.str a, .str b] ∧ a < b := fun z hz => by
    obtain ⟨i, hi, e⟩ := List.mem_iff_getElem.mp hz
    obtain ⟨x, y, h1, h2, rfl⟩ := zipQ_get (i := i) (by rw [List.getElem?_eq_getElem hi, e])
    rw [List.getElem?_drop, List.getElem?_map] at h2
    rw [List.getElem?_map] at h1
    cases e1 : rows[i]? with
    | none => rw [e1] at h1; cases h1
    | some a =>
      cases e2 : rows[1 + i]? with
      | none => rw [e2] at h2; cases h2
      | some b =>
        rw [e1] at h1; rw [e2] at h2
        cases h1; cases h2
        obtain ⟨p1, q1⟩ := List.getElem?_eq_some_iff.mp e1
        obtain ⟨p2, q2⟩ := List.getElem?_eq_some_iff.mp e2
        exact ⟨a, b, rfl, by rw [← q1, ← q2]; exact List.pairwise_iff_getElem.mp h i (1 + i) p1 p2 (by omega)⟩
  refine (all_comp strP (xs := zipQ true (rows.map Val.str) ((rows.map Val.str).drop 1)) ?_ ?_ fun z hm => ?_).trans ?_
  · simp [iZipA, zipKA, cut1]
  · rw [zipQ_len]; simp; omega
  · obtain ⟨a, b, rfl, _⟩ := hz z hm
    exact ⟨_, rfl, by simp [strP]⟩
  · rw [List.all_eq_true.mpr fun z hm => ?_]
    obtain ⟨a, b, rfl, hab⟩ := hz z hm
    simp [strP, hab]
def lw (L : Nat) (rows : List (List Nat)) : Val := .tup [.int L, .tup (rows.map .str)]
structure Good (L len : Nat) (rows : List (List Nat)) : Prop where
  l1 : 1 ≤ L
  l4 : L ≤ 4
  n2 : 2 ≤ len
  n4 : len ≤ 4
  ne : rows ≠ []
  r40 : rows.length ≤ 40
  len : ∀ r ∈ rows, r.length = len
  ok : ∀ r ∈ rows, okL L r = true
  up : rows.Pairwise (· < ·)
theorem at0 {α : Type} (x : α) (xs : List α) : atI (x :: xs) 0 = some x := atI_nat (j := 0) rfl
theorem at1 {α : Type} (x y : α) (xs : List α) : atI (x :: y :: xs) 1 = some y := atI_nat (j := 1) rfl
theorem fits_list_s {L len : Nat} {rows : List (List Nat)} (g : Good L len rows) : m_fits_list [.v (lw L rows)] st = .ok (.v (.bl true)) st := by
  have h1 : (1 : Int) ≤ L := by have := g.l1; omega
  have h4 : (L : Int) ≤ 4 := by have := g.l4; omega
  have hr1 : (1 : Int) ≤ rows.length := by have := List.length_pos_iff.mpr g.ne; omega
  have hr40 : (rows.length : Int) ≤ 40 := by have := g.r40; omega
  have hm : rows.length ≤ 1000000 := by have := g.r40; omega
  obtain ⟨r0, rs, e⟩ : ∃ r0 rs, rows = r0 :: rs := by
    cases rows with
    | nil => exact absurd rfl g.ne
    | cons a b => exact ⟨a, b, rfl⟩
  have hl0 : r0.length = len := g.len r0 (by rw [e]; simp)
  refine call_v ?_
  refine stF ?_ (stF ?_ (ret_v ?_))
  · simp [lw, is_tup_t, is_whole_i, at0, at1, h1, h4, hr1, hr40]
  · refine tn_v (b := true) ((all_comp (fun _ => true) (any_tup (xs := rows.map .str) (by simp [lw, at1])) (by simpa using hm) fun x hx => ?_).trans (by simp))
    obtain ⟨r, hr, rfl⟩ := List.mem_map.mp hx
    have e1 := g.len r hr
    have e2 := g.n2
    have e3 := g.n4
    refine ⟨_, rfl, ?_⟩
    simp [lw, at0, fits_row_s L r 2 4 (by omega) (by omega) (by omega), g.ok r hr]
  · refine ea_t (st1 := st) ((all_comp (fun _ => true) (any_tup (xs := rows.map .str) (by simp [lw, at1])) (by simpa using hm) fun x hx => ?_).trans (by simp)) ?_
    · obtain ⟨r, hr, rfl⟩ := List.mem_map.mp hx
      have e1 := g.len r hr
      refine ⟨_, rfl, ?_⟩
      simp [lw, e, at0, at1, okD, eqB, e1, hl0]
    · simp [lw, at1, is_rising_s g.up (by have := g.r40; omega)]
theorem length_in_s {L len : Nat} {rows : List (List Nat)} (g : Good L len rows) : m_length_in [.v (lw L rows)] st = .ok (.v (.int len)) st := by
  obtain ⟨r0, rs, e⟩ : ∃ r0 rs, rows = r0 :: rs := by
    cases rows with
    | nil => exact absurd rfl g.ne
    | cons a b => exact ⟨a, b, rfl⟩
  have hl0 : r0.length = len := g.len r0 (by rw [e]; simp)
  refine call_v (ret_v ?_)
  simp [lw, e, at0, at1, hl0]
def rot {α : Type} (b : List α) (f : Nat) : List α := b.drop f ++ b.take f
theorem cutD {α : Type} (xs : List α) (f : Nat) : cutL xs (some (f : Int)) none = xs.drop f := by
  unfold cutL
  rw [HT.sIx_nat, HT.sIx_none]
  by_cases h : f ≤ xs.length
  · rw [Nat.min_eq_left h, List.take_of_length_le (by simp)]
  · rw [Nat.min_eq_right (by omega), List.drop_of_length_le (by omega), List.drop_of_length_le (by omega)]; simp
theorem cutT {α : Type} (xs : List α) (f : Nat) : cutL xs none (some (f : Int)) = xs.take f := by
  unfold cutL
  rw [HT.sIx_nat, HT.sIx_none]
  simp only [List.drop_zero, Nat.sub_zero]
  by_cases h : f ≤ xs.length
  · rw [Nat.min_eq_left h]
  · rw [Nat.min_eq_right (by omega), List.take_of_length_le (by omega), List.take_of_length_le (by omega)]
theorem okL_lt {L : Nat} {b : List Nat} (h : okL L b = true) : ∀ c ∈ b, c < 1114112 := fun c hc => by
  unfold okL at h
  have := List.all_eq_true.mp h c hc
  have := List.mem_of_mem_take (of_decide_eq_true this)
  simp at this
  omega
theorem sok_of {l : List Nat} (h : ∀ c ∈ l, c < 1114112) (hl : l.length ≤ 1000000) : SOk l = true := by
  unfold SOk
  simp only [Bool.and_eq_true, List.all_eq_true, decide_eq_true_eq]
  exact ⟨hl, fun c hc => h c hc⟩
theorem in_str (p : List Nat) (rows : List (List Nat)) : inB (.str p) (.tup (rows.map .str)) = some (decide (p ∈ rows)) := by
  rw [s_inT, if_pos (by simp [flatA])]
  congr 1
  rw [Bool.eq_iff_iff]
  simp [eqB]
theorem rot_len {α : Type} (b : List α) (f : Nat) : (rot b f).length = b.length := by unfold rot; simp; omega
def C (a b : Int) : SO := .lst [.int a, .int b]
theorem mul_small {b : Int} (h0 : 0 ≤ b) (h1 : b < 4294967296) : mulOk b = true := by
  unfold mulOk
  simp
  omega
theorem asg_1 {fa : Fe} {a b v : Int} {rest : Sto} {env : Eng.Env} (he : env[0]? = some (some (.loc 0))) (h : fa env (C a b :: rest) = .ok (.v (.int v)) (C a b :: rest)) : sAsg fa (gSt oSet (eVar 0) (eC (.int 1))) env (C a b :: rest) = .nx env (C a v :: rest) := by
  unfold sAsg
  rw [h]
  simp [gSt, he, C, oSet, ixN]
theorem roll_s {a b many : Int} {rest : Sto} (ha : 0 ≤ a) (hb : 0 ≤ b) (hb2 : b < 4294967296) (hm : 1 ≤ many) (hm2 : many < 1000000) :
    ∃ (r a' b' : Int), 0 ≤ r ∧ r < many ∧ 0 ≤ a' ∧ 0 ≤ b' ∧ b' < 4294967296 ∧ m__law_roll [.loc 0, .v (.int many)] (C a b :: rest) = .ok (.v (.int r)) (C a' b' :: rest) := by
  by_cases h : 0 < a
  · refine ⟨a % many, a / many, b, Int.emod_nonneg _ (by omega), Int.emod_lt_of_pos _ (by omega), Int.ediv_nonneg ha (by omega), hb, hb2, ?_⟩
    have hm3 : 0 < many ∧ many < 1073741824 := by omega
    rw [show m__law_roll = callF 4 0 b__law_roll from rfl]
    · refine call_rt0 ?_ (by simp)
      refine seq_rt ((if_t (st1 := C a b :: rest) ?_).trans ?_)
      · simp [C, at0, h]
      · refine stV (x := .int (a % many)) ?_ ?_
        · simp [C, at0, hm3.1]
        · refine (seq_nx (env1 := [some (.loc 0), some (.v (.int many)), some (.v (.int (a % many))), none]) (st1 := C (a / many) b :: rest) ?_).trans (ret_v rfl)
          simp [sAsg, gSt, C, at0, hm3, oSet, ixN]
  · have hr : ∀ x : Int, 0 ≤ x % 2147483399 ∧ x % 2147483399 < 2147483399 := fun x => ⟨Int.emod_nonneg _ (by omega), Int.emod_lt_of_pos _ (by omega)⟩
    obtain ⟨v, hv⟩ : ∃ v, v = (b * 31257 + 8267) % 2147483399 := ⟨_, rfl⟩
    have hv1 := hr (b * 31257 + 8267)
    rw [← hv] at hv1
    obtain ⟨d, hd⟩ : ∃ d, d = (v * (v + 535)) % 2147483563 := ⟨_, rfl⟩
    refine ⟨(d / 797) % many, a, v, Int.emod_nonneg _ (by omega), Int.emod_lt_of_pos _ (by omega), ha, hv1.1, by omega, ?_⟩
    rw [show m__law_roll = callF 4 0 b__law_roll from rfl]
    · refine call_rt0 ?_ (by simp)
      have i0 : ∀ x y : Int, e2 vIx (eVar 0) (eC (.int 1)) [some (.loc 0), some (.v (.int many)), none, none] (C x y :: rest) = .ok (.v (.int y)) (C x y :: rest) := fun x y => by simp [C, at1]
      have hm3 : 0 < many := by omega
      refine stF ?_ ((seq_nx (env1 := [some (.loc 0), some (.v (.int many)), none, none]) (st1 := C a v :: rest) (asg_1 rfl ?_)).trans ?_)
      · simp [C, at0, h]
      · have m1 := e2_ok (o := vMulN) (fb := eC (.int 31257)) (i0 a b) rfl (mul_okN (mul_small hb hb2))
        have m2 := e2_ok (o := vAdd) (fb := eC (.int 8267)) m1 rfl rfl
        refine e2_ok (x := .int (b * 31257 + 8267)) (y := .int 2147483399) ?_ rfl (by simp [hv])
        rw [s_eB, ar_1 m2]
        rfl
      · have m1 := e2_ok (o := vAdd) (fb := eC (.int 535)) (i0 a v) rfl rfl
        have m2 := e2_ok (o := vMulN) (i0 a v) m1 (mul_okN (mul_small hv1.1 (by omega)))
        refine stV (x := .int d) ?_ (ret_v ?_)
        · refine e2_ok (x := .int (v * (v + 535))) (y := .int 2147483563) ?_ rfl (by simp [hd])
          show eB vInt _ [some (.loc 0), some (.v (.int many)), none, none] _ = _
          rw [s_eB, ar_1 m2]
          rfl
        · simp [hm3]
theorem some_s {a b : Int} {rest : Sto} {xs : List Val} (ha : 0 ≤ a) (hb : 0 ≤ b) (hb2 : b < 4294967296) (hx : xs ≠ []) (hl : xs.length < 1000000) (tg : Bool) :
    ∃ (x : Val) (a' b' : Int), x ∈ xs ∧ 0 ≤ a' ∧ 0 ≤ b' ∧ b' < 4294967296 ∧ m__law_some [.loc 0, .v (if tg = true then .tup xs else .lst xs)] (C a b :: rest) = .ok (.v x) (C a' b' :: rest) := by
  have hp := List.length_pos_iff.mpr hx
  obtain ⟨r, a', b', h1, h2, h3, h4, h5, h6⟩ := roll_s (many := xs.length) (rest := rest) ha hb hb2 (by omega) (by omega)
  have hr : r.toNat < xs.length := by omega
  refine ⟨xs[r.toNat], a', b', List.getElem_mem _, h3, h4, h5, ?_⟩
  rw [show m__law_some = callF 2 0 b__law_some from rfl]
  have e : atI xs r = some xs[r.toNat] := by
    have := atI_nat (List.getElem?_eq_getElem hr)
    rw [show ((r.toNat : Nat) : Int) = r by omega] at this
    exact this
  · refine call_rt0 ?_ (by simp)
    cases tg <;> exact ret_v (by simp [h6, e])
theorem rot_map {α β : Type} (f : α → β) (xs : List α) (k : Nat) : (rot xs k).map f = rot (xs.map f) k := by unfold rot; simp [List.map_drop, List.map_take]
theorem joinL_nil (ys : List (List Nat)) : joinL [] ys = ys.flatten := by
  cases ys with
  | nil => rfl
  | cons y r => simp [joinL]
theorem join_ok0 {ys : List (List Nat)} (h1 : ys.length ≤ 1000) (h2 : SOk ys.flatten = true) : vJoin (.str []) [.tup (ys.map .str)] = some (.v (.str ys.flatten)) ∧ vJoin (.str []) [.lst (ys.map .str)] = some (.v (.str ys.flatten)) := by
  constructor <;> simp [vJoin, Eng.strs_map, joinL_nil, h1, h2]
def sv (rows : List (List Nat)) : List Val := rows.map .str
theorem ix1 (L : Nat) (r : List (List Nat)) : vIx (lw L r) (.int 1) = some (.v (.tup (sv r))) := by simp [lw, at1, sv]
theorem sv_len (r : List (List Nat)) : (sv r).length = r.length := by simp [sv]
def Cup (rest st : Sto) : Prop := ∃ a b : Int, 0 ≤ a ∧ 0 ≤ b ∧ b < 4294967296 ∧ st = C a b :: rest
theorem Cup.roll {rest st : Sto} (h : Cup rest st) {many : Int} (h1 : 1 ≤ many) (h2 : many < 1000000) : ∃ (r : Nat) (st' : Sto), (r : Int) < many ∧ Cup rest st' ∧ m__law_roll [.loc 0, .v (.int many)] st = .ok (.v (.int r)) st' := by
  obtain ⟨a, b, ha, hb, hb2, rfl⟩ := h
  obtain ⟨r, a', b', h3, h4, h5, h6, h7, h8⟩ := roll_s (rest := rest) ha hb hb2 h1 h2
  exact ⟨r.toNat, _, by omega, ⟨a', b', h5, h6, h7, rfl⟩, by rw [show ((r.toNat : Nat) : Int) = r by omega]; exact h8⟩
theorem Cup.some {rest st : Sto} (h : Cup rest st) {xs : List Val} (hx : xs ≠ []) (hl : xs.length < 1000000) (tg : Bool) : ∃ (x : Val) (st' : Sto), x ∈ xs ∧ Cup rest st' ∧ m__law_some [.loc 0, .v (if tg = true then .tup xs else .lst xs)] st = .ok (.v x) st' := by
  obtain ⟨a, b, ha, hb, hb2, rfl⟩ := h
  obtain ⟨x, a', b', h3, h4, h5, h6, h7⟩ := some_s (rest := rest) ha hb hb2 hx hl tg
  exact ⟨x, _, h3, ⟨a', b', h4, h5, h6, rfl⟩, h7⟩
theorem at_abcd {L r : Nat} (h4 : L ≤ 4) (hr : r < L) : ∃ c, vIx (.str [97, 98, 99, 100]) (.int r) = some (.v (.str [c])) ∧ c ∈ [97, 98, 99, 100].take L := by
  have hlt : r < [97, 98, 99, 100].length := by simp; omega
  refine ⟨[97, 98, 99, 100][r], ?_, ?_⟩
  · rw [s_ixS, atI_nat (List.getElem?_eq_getElem hlt)]
    rfl
  · refine List.mem_iff_getElem.mpr ⟨r, by simp; omega, by simp⟩
structure Wd (L len : Nat) (w : List Nat) : Prop where
  len : w.length = len
  ok : okL L w = true
theorem okL_app {L : Nat} {a b : List Nat} : okL L (a ++ b) = (okL L a && okL L b) := by unfold okL; rw [List.all_append]
theorem okL_sub {L : Nat} {a b : List Nat} (h : ∀ c ∈ a, c ∈ b) (hb : okL L b = true) : okL L a = true := by
  unfold okL at *
  exact List.all_eq_true.mpr fun c hc => List.all_eq_true.mp hb c (h c hc)
theorem word_s {L len : Nat} (h1 : 1 ≤ L) (h4 : L ≤ 4) (n1 : 1 ≤ len) (n4 : len ≤ 4) {rest st : Sto} (hc : Cup rest st) {env : Eng.Env} (e0 : ∀ st z, eVar 0 ((wipeE env [8]).set 8 z) st = .ok (.loc 0) st) (e1 : ∀ st z, eVar 1 ((wipeE env [8]).set 8 z) st = .ok (.v (.int L)) st) (e2' : eVar 2 env st = .ok (.v (.int len)) st) :
    ∃ w st', Wd L len w ∧ Cup rest st' ∧ eM "str" vJoin (eC (.str [])) (aCons (eComp (iRng1F (aCons (eVar 2) aNil)) (.n 8) tYesF (e2 vIx (eC (.str [97, 98, 99, 100])) (eCall m__law_roll (aCons (eVar 0) (aCons (eVar 1) aNil)))) [8]) aNil) env st = .ok (.v (.str w)) st' := by
  obtain ⟨ys, st', k1, k2, k3, k4⟩ := comp_st (fi := iRng1F (aCons (eVar 2) aNil)) (p := .n 8) (fe := e2 vIx (eC (.str [97, 98, 99, 100])) (eCall m__law_roll (aCons (eVar 0) (aCons (eVar 1) aNil)))) (vs := [8]) (env := env) (st := st) (xs := rngI 0 len) (Cup rest) (fun y => ∃ c, y = .str [c] ∧ c ∈ [97, 98, 99, 100].take L)
    (by unfold iRng1F; rw [ar_1 e2']; simp [small]; omega) (by simp [rngI]; omega) hc (fun x hx s hs => by
      obtain ⟨r, s', r1, r2, r3⟩ := hs.roll (many := L) (by omega) (by omega)
      obtain ⟨c, c1, c2⟩ := at_abcd h4 (r := r) (by omega)
      refine ⟨_, rfl, .v (.str [c]), s', ?_, ⟨_, rfl, c, rfl, c2⟩, r2⟩
      have f := ec_ok (c := m__law_roll) (ar_c (e0 s (some (.v x))) (ar_1 (e1 s (some (.v x))))) r3
      unfold e2
      rw [s_eC, s_bind_ok, f]
      simp only [s_bind_ok, s_val_v, Option.bind_some, c1, s_outO])
  obtain ⟨cs, hcs, hok⟩ : ∃ cs : List Nat, ys = cs.map (fun c => .str [c]) ∧ okL L cs = true := by
    clear k1 k2
    induction ys with
    | nil => exact ⟨[], rfl, rfl⟩
    | cons y ys ih =>
      obtain ⟨c, rfl, hc⟩ := k3 y (by simp)
      obtain ⟨cs, rfl, ho⟩ := ih fun q hq => k3 q (by simp [hq])
      refine ⟨c :: cs, rfl, ?_⟩
      unfold okL at *
      rw [List.all_cons, ho]
      simpa using hc
  have hlen : cs.length = len := by
    rw [hcs, List.length_map] at k2
    simpa [rngI] using k2
  refine ⟨cs, st', ⟨hlen, hok⟩, k4, ?_⟩
  have hfl : (cs.map fun c => [c]).flatten = cs := by
    clear hcs hok hlen
    induction cs with
    | nil => rfl
    | cons c cs ih => simp [ih]
  have e := (join_ok0 (ys := cs.map fun c => [c]) (by simp; omega) (by rw [hfl]; exact sok_of (okL_lt hok) (by omega))).2
  rw [hfl, List.map_map] at e
  rw [s_eM, s_eC]
  simp only [s_bind_ok, s_val_v, s_rcv_str, if_true, s_aCons, k1, s_aNil, s_froz_fl, s_valsOf, s_valsOf0, Option.bind_some]
  rw [hcs]
  rw [show (cs.map fun c => Val.str [c]) = cs.map (Val.str ∘ fun c => [c]) from rfl, e]
  rfl
abbrev Dw (x0 : SO) (ws : List (List Nat)) : Sto := [x0, .dic false (dv ws)]
variable {x0 : SO}
theorem store_s {ws : List (List Nat)} {st : Sto} (hc : Cup (Dw x0 ws) st) {env : Eng.Env} {fi : Fe} {w : List Nat} (he : eVar 5 env st = .ok (.loc 2) st) (hi : fi env st = .ok (.v (.str w)) st) (hl : ws.length < 1000) :
    ∃ st', Cup (Dw x0 (addW ws w)) st' ∧ gSt oSet (eVar 5) fi (.v (.bl true)) env st = .nx env st' := by
  obtain ⟨a, b, ha, hb, hb2, rfl⟩ := hc
  refine ⟨C a b :: Dw x0 (addW ws w), ⟨a, b, ha, hb, hb2, rfl⟩, ?_⟩
  unfold gSt
  rw [he]
  simp only
  rw [hi]
  have e1 : (C a b :: Dw x0 ws)[2]? = some (.dic false (dv ws)) := rfl
  have e2 : oSet (.dic false (dv ws)) (.str w) (.bl true) = some (.dic false (dv (addW ws w))) := by
    show (if (Eng.keyIs false (.str w) && decide ((dv ws).length < 1000000)) = true then some (SO.dic false (dPut (dv ws) (.str w) (.bl true))) else none) = _
    rw [if_pos (by rw [dv_len]; simp [Eng.keyIs]; omega), dPut_dv]
  simp only [e1, s_val_v, e2]
  rfl
structure Ws (L len n : Nat) (ws : List (List Nat)) : Prop where
  wd : ∀ w ∈ ws, Wd L len w
  nd : ws.Nodup
  le : ws.length ≤ n
theorem Ws.add {L len n : Nat} {ws : List (List Nat)} (h : Ws L len n ws) {w : List Nat} (hw : Wd L len w) : Ws L len (n + 1) (addW ws w) := by
  refine ⟨fun q hq => ?_, addW_nodup h.nd, Nat.le_trans (addW_len _ _) (Nat.add_le_add_right h.le 1)⟩
  rcases addW_mem hq with q1 | rfl
  · exact h.wd q q1
  · exact hw
theorem cutm1 {α : Type} (xs : List α) (h : 1 ≤ xs.length) : cutL xs none (some (-1)) = xs.take (xs.length - 1) := by
  unfold cutL
  have e : HT.sIx xs.length xs.length (some (-1)) = xs.length - 1 := by
    show (if (-1 : Int) < 0 then ((-1 : Int) + (xs.length : Int)).toNat else min (-1 : Int).toNat xs.length) = _
    rw [if_pos (by decide)]
    omega
  rw [e, HT.sIx_none]
  simp
theorem key_s {L len : Nat} (h4 : L ≤ 4) {w : List Nat} (hw : Wd L len w) (n1 : 1 ≤ len) (n4 : len ≤ 4) {r : Nat} (hr : r < L) {env : Eng.Env} {st : Sto} (e9 : eVar 9 env st = .ok (.v (.str w)) st) (e8 : eVar 8 env st = .ok (.v (.int r)) st) :
    ∃ w3, Wd L len w3 ∧ e2 vAdd (eSl (eVar 9) pNo (pAt (e1 vNeg (eC (.int 1))))) (e2 vIx (eC (.str [97, 98, 99, 100])) (eVar 8)) env st = .ok (.v (.str w3)) st := by
  obtain ⟨c, c1, c2⟩ := at_abcd h4 hr
  have hl := hw.len
  have ok1 : okL L (w.take (len - 1)) = true := okL_sub (fun c hc => List.mem_of_mem_take hc) hw.ok
  have ok2 : okL L [c] = true := by unfold okL; simpa using c2
  have okA : okL L (w.take (len - 1) ++ [c]) = true := by rw [okL_app, ok1, ok2]; rfl
  refine ⟨w.take (len - 1) ++ [c], ⟨by simp [hl]; omega, okA⟩, ?_⟩
  refine e2_ok (x := .str (w.take (len - 1))) (y := .str [c]) ?_ (e2_ok (x := .str [97, 98, 99, 100]) (y := .int r) rfl e8 c1) ?_
  · rw [s_eSl, e9]
    simp [vNeg, cutm1 w (by omega), hl]
  · rw [s_addS, if_pos (sok_of (okL_lt okA) (by simp [hl]; omega))]
def more (n : Nat) : Fs := sFor (iRng1F (aCons (eVar 1) aNil)) (.n 8) n [] (sAsg (eC (.bl true)) (gSt oSet (eVar 5) (e2 vAdd (eSl (eVar 9) pNo (pAt (e1 vNeg (eC (.int 1))))) (e2 vIx (eC (.str [97, 98, 99, 100])) (eVar 8)))))
theorem more_s {L len : Nat} (h4 : L ≤ 4) {w : List Nat} (hw : Wd L len w) (n1 : 1 ≤ len) (n4 : len ≤ 4) {ws : List (List Nat)} {N n : Nat} (hws : Ws L len N ws) (hne : ws ≠ []) (hN : N ≤ 100) {st : Sto} (hc : Cup (Dw x0 ws) st) {z0 z2 z3 z4 z6 z7 z8 z10 : Option SV} :
    ∃ ws' st' z8', Ws L len (N + 4) ws' ∧ ws' ≠ [] ∧ Cup (Dw x0 ws') st' ∧ more n [z0, some (.v (.int L)), z2, z3, z4, some (.loc 2), z6, z7, z8, some (.v (.str w)), z10] st = .nx [z0, some (.v (.int L)), z2, z3, z4, some (.loc 2), z6, z7, z8', some (.v (.str w)), z10] st' := by
  have key := for_inv (p := .n 8) (n := n) (B := []) (fi := iRng1F (aCons (eVar 1) aNil)) (body := sAsg (eC (.bl true)) (gSt oSet (eVar 5) (e2 vAdd (eSl (eVar 9) pNo (pAt (e1 vNeg (eC (.int 1))))) (e2 vIx (eC (.str [97, 98, 99, 100])) (eVar 8))))) (xs := rngI 0 L)
    (env := [z0, some (.v (.int L)), z2, z3, z4, some (.loc 2), z6, z7, z8, some (.v (.str w)), z10]) (st := st) (st1 := st)
    (fun i env s => ∃ z8 ws', env = [z0, some (.v (.int L)), z2, z3, z4, some (.loc 2), z6, z7, z8, some (.v (.str w)), z10] ∧ Ws L len (N + i) ws' ∧ ws' ≠ [] ∧ Cup (Dw x0 ws') s) (by simp [iRng1F, small]; omega) ⟨z8, ws, rfl, hws, hne, hc⟩ (fun i x env s hx hI => by
      obtain ⟨z8, ws', rfl, q1, q2, q3⟩ := hI
      have hlt : i < L := by
        have := (List.getElem?_eq_some_iff.mp hx).1
        simpa [rngI] using this
      have ex : x = .int (i : Int) := by
        unfold rngI at hx
        rw [List.getElem?_map, List.getElem?_range hlt] at hx
        have := Option.some.inj hx
        rw [← this]; simp
      subst ex
      refine ⟨_, rfl, ?_⟩
      obtain ⟨w3, k1, k2⟩ := key_s h4 hw n1 n4 hlt (env := [z0, some (.v (.int L)), z2, z3, z4, some (.loc 2), z6, z7, some (.v (.int i)), some (.v (.str w)), z10]) (st := s) rfl rfl
      obtain ⟨s', c1, c2⟩ := store_s q3 (env := [z0, some (.v (.int L)), z2, z3, z4, some (.loc 2), z6, z7, some (.v (.int i)), some (.v (.str w)), z10]) rfl k2 (by have := q1.le; omega)
      refine ⟨_, s', ?_, some (.v (.int i)), addW ws' w3, rfl, q1.add k1, addW_pos _ _, c1⟩
      show sAsg _ _ [z0, some (.v (.int L)), z2, z3, z4, some (.loc 2), z6, z7, some (.v (.int i)), some (.v (.str w)), z10] s = _
      unfold sAsg
      rw [s_eC]
      simp only [s_toS, s_froz_v, c2])
  obtain ⟨env', st', h1, z8', ws', rfl, q1, q2, q3⟩ := key
  refine ⟨ws', st', z8', ⟨q1.wd, q1.nd, ?_⟩, q2, q3, h1⟩
  have := q1.le
  have e : (rngI 0 L).length = L := by simp [rngI]
  omega
def turnB (n : Nat) : Fs := sSeq (sSet (.f) n [] 9 (eM "str" vJoin (eC (.str [])) (aCons (eComp (iRng1F (aCons (eVar 2) (aNil))) (.n 8) (tYesF) (e2 vIx (eC (.str [97, 98, 99, 100])) (eCall m__law_roll (aCons (eVar 0) (aCons (eVar 1) (aNil))))) [8]) (aNil)))) (sSeq (sSet (.f) n [] 10 (eCall m__law_roll (aCons (eVar 0) (aCons (eVar 2) (aNil))))) (sSeq (sSet (.f) n [] 9 (eSl (e2 vAdd (eSl (eVar 6) (pNo) (pAt (eVar 10))) (eVar 9)) (pNo) (pAt (eVar 2)))) (sSeq (sTup (bCons (.f) n [] (eCall m__law_some (aCons (eVar 0) (aCons (eLst (aCons (eVar 6) (aCons (eVar 9) (aNil)))) (aNil)))) (bCons (.f) n [] (eC (.bl true)) (bNil))) (gsCons (gN 6) (gsCons (gSt oSet (eVar 5) (eVar 9)) (gsNil)))) (sIf (tV (e2 vEq (eCall m__law_roll (aCons (eVar 0) (aCons (eC (.int 3)) (aNil)))) (eC (.int 0)))) (more n) (sNil)))))
theorem turn_s {L len : Nat} (h1 : 1 ≤ L) (h4 : L ≤ 4) (n1 : 1 ≤ len) (n4 : len ≤ 4) {h : List Nat} (hh : Wd L len h) {ws : List (List Nat)} {N n : Nat} (hws : Ws L len N ws) (hN : N ≤ 90) {st : Sto} (hc : Cup (Dw x0 ws) st) {z3 z4 z7 z8 z9 z10 : Option SV} :
    ∃ ws' st' h' z8' z9' z10', Ws L len (N + 5) ws' ∧ ws' ≠ [] ∧ Wd L len h' ∧ Cup (Dw x0 ws') st' ∧ turnB n [some (.loc 0), some (.v (.int L)), some (.v (.int len)), z3, z4, some (.loc 2), some (.v (.str h)), z7, z8, z9, z10] st
      = .nx [some (.loc 0), some (.v (.int L)), some (.v (.int len)), z3, z4, some (.loc 2), some (.v (.str h')), z7, z8', z9', z10'] st' := by
  obtain ⟨w, s1, w1, c1, e1⟩ := word_s h1 h4 n1 n4 hc (env := [some (.loc 0), some (.v (.int L)), some (.v (.int len)), z3, z4, some (.loc 2), some (.v (.str h)), z7, z8, z9, z10]) (fun _ _ => rfl) (fun _ _ => rfl) rfl
  obtain ⟨r, s2, r1, c2, e2'⟩ := c1.roll (many := len) (by omega) (by omega)
  have hhl := hh.len
  have hwl := w1.len
  have okA : okL L (h.take r ++ w) = true := by rw [okL_app, okL_sub (fun c hc => List.mem_of_mem_take hc) hh.ok, w1.ok]; rfl
  have w2 : Wd L len ((h.take r ++ w).take len) := ⟨by simp [hhl, hwl], okL_sub (fun c hc => List.mem_of_mem_take hc) okA⟩
  obtain ⟨x, s3, x1, c3, e3⟩ := c2.some (xs := [.str h, .str ((h.take r ++ w).take len)]) (by simp) (by simp) false
  obtain ⟨h', hx, hh'⟩ : ∃ h', x = .str h' ∧ Wd L len h' := by
    rcases List.mem_cons.mp x1 with rfl | x1
    · exact ⟨h, rfl, hh⟩
    · have : x = .str ((h.take r ++ w).take len) := by simpa using x1
      exact ⟨_, this, w2⟩
  subst hx
  obtain ⟨s4, c4, e4⟩ := store_s c3 (env := [some (.loc 0), some (.v (.int L)), some (.v (.int len)), z3, z4, some (.loc 2), some (.v (.str h')), z7, z8, some (.v (.str ((h.take r ++ w).take len))), some (.v (.int r))]) (fi := eVar 9) rfl rfl (by have := hws.le; omega)
  obtain ⟨r5, s5, _, c5, e5⟩ := c4.roll (many := 3) (by decide) (by decide)
  have chain : ∀ {env' : Eng.Env} {st' : Sto}, sIf (tV (e2 vEq (eCall m__law_roll (aCons (eVar 0) (aCons (eC (.int 3)) (aNil)))) (eC (.int 0)))) (more n) (sNil) [some (.loc 0), some (.v (.int L)), some (.v (.int len)), z3, z4, some (.loc 2), some (.v (.str h')), z7, z8, some (.v (.str ((h.take r ++ w).take len))), some (.v (.int r))] s4 = .nx env' st' →
      turnB n [some (.loc 0), some (.v (.int L)), some (.v (.int len)), z3, z4, some (.loc 2), some (.v (.str h)), z7, z8, z9, z10] st = .nx env' st' := fun {env' st'} hk => by
    refine (seq_nx (set_v e1)).trans ((seq_nx (set_v (ec_ok (ar_c (z1 := .loc 0) rfl (ar_1 (z1 := .v (.int len)) rfl)) e2'))).trans (stV (x := .str ((h.take r ++ w).take len)) ?_ ((seq_nx (tup_nx (env1 := [some (.loc 0), some (.v (.int L)), some (.v (.int len)), z3, z4, some (.loc 2), some (.v (.str h)), z7, z8, some (.v (.str ((h.take r ++ w).take len))), some (.v (.int r))]) (st1 := s3) (zs := [.v (.str h'), .v (.bl true)]) ?_ ?_)).trans hk)))
    · have a1 : e2 vAdd (eSl (eVar 6) pNo (pAt (eVar 10))) (eVar 9) [some (.loc 0), some (.v (.int L)), some (.v (.int len)), z3, z4, some (.loc 2), some (.v (.str h)), z7, z8, some (.v (.str w)), some (.v (.int r))] s2 = .ok (.v (.str (h.take r ++ w))) s2 := by
        refine e2_ok (x := .str (h.take r)) (y := .str w) ?_ rfl ?_
        · simp [cutT]
        · rw [s_addS, if_pos (sok_of (okL_lt okA) (by simp [hhl, hwl]; omega))]
      show eSl _ _ _ [some (.loc 0), some (.v (.int L)), some (.v (.int len)), z3, z4, some (.loc 2), some (.v (.str h)), z7, z8, some (.v (.str w)), some (.v (.int r))] s2 = _
      rw [s_eSl, a1]
      simp [cutT]
    · refine bc_v (ec_ok (ar_c (z1 := .loc 0) rfl (ar_1 (z1 := .fl [.str h, .str ((h.take r ++ w).take len)]) ?_)) e3) (bc_v rfl rfl)
      simp
    · rw [s_gsCons, s_gN]
      simp only [s_andThen_nx]
      rw [s_gsCons]
      refine (congrArg (fun q => Rs.andThen q _) e4).trans ?_
      rfl
  by_cases hr5 : r5 = 0
  · subst hr5
    obtain ⟨ws', st', z8', q1, q2, q3, q4⟩ := more_s (n := n) (z0 := some (.loc 0)) (z2 := some (.v (.int len))) (z3 := z3) (z4 := z4) (z6 := some (.v (.str h'))) (z7 := z7) (z8 := z8) (z10 := some (.v (.int r))) h4 w2 n1 n4 (hws.add w2) (addW_pos _ _) (by omega) c5
    refine ⟨ws', st', h', z8', _, _, ⟨q1.wd, q1.nd, by have := q1.le; omega⟩, q2, hh', q3, chain ((if_t (st1 := s5) ?_).trans q4)⟩
    have f := ec_ok (c := m__law_roll) (env := [some (.loc 0), some (.v (.int L)), some (.v (.int len)), z3, z4, some (.loc 2), some (.v (.str h')), z7, z8, some (.v (.str ((h.take r ++ w).take len))), some (.v (.int r))]) (ar_c (fa := eVar 0) (z1 := .loc 0) rfl (ar_1 (fa := eC (.int 3)) (z1 := .v (.int 3)) rfl)) e5
    rw [s_tV, s_e2, f]
    rfl
  · refine ⟨addW ws ((h.take r ++ w).take len), s5, h', z8, _, _, ⟨(hws.add w2).wd, (hws.add w2).nd, by have := (hws.add w2).le; omega⟩, addW_pos _ _, hh', c5, chain ((if_f (st1 := s5) ?_).trans rfl)⟩
    have f := ec_ok (c := m__law_roll) (env := [some (.loc 0), some (.v (.int L)), some (.v (.int len)), z3, z4, some (.loc 2), some (.v (.str h')), z7, z8, some (.v (.str ((h.take r ++ w).take len))), some (.v (.int r))]) (ar_c (fa := eVar 0) (z1 := .loc 0) rfl (ar_1 (fa := eC (.int 3)) (z1 := .v (.int 3)) rfl)) e5
    rw [s_tV, s_e2, f]
    simp [okD, eqB, hr5]
theorem strict {xs : List (List Nat)} (h : xs.Nodup) : (sortS xs).Pairwise (· < ·) := by
  have h1 := sortS_pair xs
  have h2 : (sortS xs).Nodup := (sortS_perm xs).nodup_iff.mpr h
  unfold List.Nodup at h2
  refine (h1.and h2).imp fun {a b} q => ?_
  obtain ⟨q1, q2⟩ := q
  unfold leS at q1
  have q3 : ¬ b < a := by simpa using q1
  exact Classical.byContradiction fun z => q2 (leS_anti a b (by unfold leS; simpa using q3) (by unfold leS; simpa using z))
theorem rep97 (n : Nat) : (List.replicate n [97]).flatten = List.replicate n 97 := by
  induction n with
  | zero => rfl
  | succ n ih => rw [List.replicate_succ, List.flatten_cons, ih]; rfl
theorem mul97 {n : Nat} (h : n ≤ 100) : vMulN (.str [97]) (.int n) = some (.v (.str (List.replicate n 97))) := by
  have so : SOk (List.replicate n 97) = true := sok_of (fun c hc => by have := (List.mem_replicate.mp hc).2; omega) (by simp; omega)
  show (if (decide (0 ≤ (n : Int)) && decide ((n : Int) ≤ 1000) && decide ([97].length ≤ 1000) && SOk (List.replicate (n : Int).toNat [97]).flatten) = true then some (SV.v (.str (List.replicate (n : Int).toNat [97]).flatten)) else none) = _
  rw [Int.toNat_natCast, rep97, so, decide_eq_true (by omega), decide_eq_true (by omega)]
  rfl
theorem law_list_s {L len : Nat} (h1 : 1 ≤ L) (h4 : L ≤ 4) (n2 : 2 ≤ len) (n4 : len ≤ 4) {many most : Nat} (m1 : 1 ≤ many) (m2 : many ≤ 12) (k1 : 1 ≤ most) (k2 : most ≤ 40) {st : Sto} (hc : Cup [x0] st) :
    ∃ rows st', Good L len rows ∧ rows.length ≤ most ∧ Cup [x0] st' ∧ m__law_list [.loc 0, .v (.int L), .v (.int len), .v (.int many), .v (.int most)] st = .ok (.v (lw L rows)) st' := by
  obtain ⟨a, b, ha, hb, hb2, rfl⟩ := hc
  have hA : okL L (List.replicate len 97) = true := by
    unfold okL
    refine List.all_eq_true.mpr fun c hc => ?_
    have : c = 97 := (List.mem_replicate.mp hc).2
    subst this
    obtain ⟨l, rfl⟩ : ∃ l, L = l + 1 := ⟨L - 1, by omega⟩
    simp
  have key := for_inv (p := .n 7) (n := 2) (B := (([] ++ []) ++ (([] ++ []) ++ (([] ++ []) ++ ((([] ++ []) ++ (([] ++ []) ++ [])) ++ ([] ++ [])))))) (fi := iRng1F (aCons (eVar 3) aNil)) (body := turnB 2) (xs := rngI 0 many)
    (env := [some (.loc 0), some (.v (.int L)), some (.v (.int len)), some (.v (.int many)), some (.v (.int most)), some (.loc 2), some (.v (.str (List.replicate len 97))), none, none, none, none]) (st := C a b :: Dw x0 []) (st1 := C a b :: Dw x0 [])
    (fun i env s => ∃ h ws z7 z8 z9 z10, env = [some (.loc 0), some (.v (.int L)), some (.v (.int len)), some (.v (.int many)), some (.v (.int most)), some (.loc 2), some (.v (.str h)), z7, z8, z9, z10] ∧ Wd L len h ∧ Ws L len (5 * i) ws ∧ (0 < i → ws ≠ []) ∧ Cup (Dw x0 ws) s ∧ i ≤ many)
    (by simp [iRng1F, small]; omega) ⟨_, [], _, _, _, _, rfl, ⟨by simp, hA⟩, ⟨(fun w hw => by cases hw), List.nodup_nil, Nat.zero_le _⟩, fun h => absurd h (Nat.lt_irrefl 0), ⟨a, b, ha, hb, hb2, rfl⟩, Nat.zero_le _⟩ (fun i x env s hx hI => by
      obtain ⟨h, ws, z7, z8, z9, z10, rfl, q1, q2, q3, q4, q5⟩ := hI
      have hlt : i < many := by
        have := (List.getElem?_eq_some_iff.mp hx).1
        simpa [rngI] using this
      obtain ⟨ws', st', h', z8', z9', z10', p1, p2, p3, p4, p5⟩ := turn_s h1 h4 (by omega) n4 q1 q2 (n := 2) (by omega) q4 (z3 := some (.v (.int many))) (z4 := some (.v (.int most))) (z7 := some (.v x)) (z8 := z8) (z9 := z9) (z10 := z10)
      exact ⟨_, rfl, _, _, p5, h', ws', some (.v x), z8', z9', z10', rfl, p3, ⟨p1.wd, p1.nd, by have := p1.le; omega⟩, fun _ => p2, p4, hlt⟩)
  obtain ⟨env', st', e1, h, ws, z7, z8, z9, z10, rfl, q1, q2, q3, q4, _⟩ := key
  have em : (rngI 0 many).length = many := by simp [rngI]
  rw [em] at q2 q3
  obtain ⟨a', b', ha', hb', hb2', rfl⟩ := q4
  have hne := q3 (by omega)
  have hle := q2.le
  have hsl : (sortS ws).length = ws.length := (sortS_perm ws).length_eq
  have hpos := List.length_pos_iff.mpr hne
  refine ⟨(sortS ws).take most, [C a' b', x0], ?_, by simp; omega, ⟨a', b', ha', hb', hb2', rfl⟩, ?_⟩
  · refine ⟨h1, h4, n2, n4, fun e => ?_, by simp; omega, fun r hr => ?_, fun r hr => ?_, (strict q2.nd).sublist (List.take_sublist _ _)⟩
    · have := congrArg List.length e
      rw [List.length_take, hsl] at this
      simp only [List.length_nil] at this
      omega
    · exact (q2.wd r ((sortS_perm ws).mem_iff.mp (List.mem_of_mem_take hr))).len
    · exact (q2.wd r ((sortS_perm ws).mem_iff.mp (List.mem_of_mem_take hr))).ok
  · rw [show m__law_list = callF 11 1 b__law_list from rfl]
    rw [call_rt (z := .v (lw L ((sortS ws).take most))) (z' := .v (lw L ((sortS ws).take most))) (st' := C a' b' :: Dw x0 ws) ?_ rfl]
    · rfl
    · refine (seq_nx (env1 := [some (.loc 0), some (.v (.int L)), some (.v (.int len)), some (.v (.int many)), some (.v (.int most)), some (.loc 2), some (.v (.str (List.replicate len 97))), none, none, none, none]) (st1 := C a b :: Dw x0 []) ?_).trans ((seq_nx e1).trans (ret_v ?_))
      · have hM : e2 vMulN (eC (.str [97])) (eVar 2) [some (.loc 0), some (.v (.int L)), some (.v (.int len)), some (.v (.int many)), some (.v (.int most)), none, none, none, none, none, none] (C a b :: Dw x0 []) = .ok (.v (.str (List.replicate len 97))) (C a b :: Dw x0 []) :=
          e2_ok (x := .str [97]) (y := .int len) rfl rfl (mul97 (by omega))
        have hB := bc_c (n := 2) (j := 0) (fa := eDic false) (env := [some (.loc 0), some (.v (.int L)), some (.v (.int len)), some (.v (.int many)), some (.v (.int most)), none, none, none, none, none, none]) (st := [C a b, x0, .dead]) (z := .fd false []) rfl (by rfl) (bc_v (n := 2) hM (by rfl : bNil _ _ = .ok [] _ _))
        show sPar [5, 6] _ [some (.loc 0), some (.v (.int L)), some (.v (.int len)), some (.v (.int many)), some (.v (.int most)), none, none, none, none, none, none] [C a b, x0, .dead] = _
        rw [s_sPar]
        refine (congrArg (fun q => Rb.toS q _) hB).trans ?_
        rfl
      · have e6 : eB vSortX (aCons (eVar 5) aNil) [some (.loc 0), some (.v (.int L)), some (.v (.int len)), some (.v (.int many)), some (.v (.int most)), some (.loc 2), some (.v (.str h)), z7, z8, z9, z10] (C a' b' :: Dw x0 ws) = .ok (.fl (sv (sortS ws))) (C a' b' :: Dw x0 ws) := by
          rw [s_eB, ar_1 (z1 := .loc 2) rfl]
          show outO ((some [Val.dic false (dv ws)]).bind vSort) _ = _
          rw [Option.bind_some, sort_dv (by omega)]
          rfl
        have e7 : eB vTuple (aCons (eSl (eB vSortX (aCons (eVar 5) aNil)) pNo (pAt (eVar 4))) aNil) [some (.loc 0), some (.v (.int L)), some (.v (.int len)), some (.v (.int many)), some (.v (.int most)), some (.loc 2), some (.v (.str h)), z7, z8, z9, z10] (C a' b' :: Dw x0 ws) = .ok (.v (.tup (sv ((sortS ws).take most)))) (C a' b' :: Dw x0 ws) := by
          rw [s_eB, ar_1 (z1 := .fl (sv ((sortS ws).take most)))]
          · rfl
          · rw [s_eSl, e6]
            simp [cutT, sv]
        rw [s_eTup, ar_c (z1 := .v (.int L)) rfl (ar_1 e7)]
        rfl
theorem cup_s (ns : List Int) (hl : ns.length ≤ 63) {st : Sto} : ∃ a b : Int, 0 ≤ a ∧ 0 ≤ b ∧ b < 4294967296 ∧ m__law_cup [.v (.seq (ns.map .int))] st = .ok (.fl [.int a, .int b]) st := by
  obtain ⟨c, hc0, hc⟩ : ∃ c : Int, 0 ≤ c ∧ eB vAbs (aCons (e2 vIx (e2 vAdd (eB vList (aCons (eVar 0) aNil)) (eLst (aCons (eC (.int 0)) aNil))) (eC (.int 0))) aNil) [some (.v (.seq (ns.map .int))), none] st = .ok (.v (.int c)) st := by
    have e1 : e2 vAdd (eB vList (aCons (eVar 0) aNil)) (eLst (aCons (eC (.int 0)) aNil)) [some (.v (.seq (ns.map .int))), none] st = .ok (.fl (ns.map .int ++ [.int 0])) st := by
      refine e2_g (x := .lst (ns.map .int)) (y := .lst [.int 0]) (za := .fl (ns.map .int)) (zb := .fl [.int 0]) (by simp) (by simp) rfl rfl ?_
      rw [s_addL, if_pos (by simp; omega)]
    obtain ⟨x, hx⟩ : ∃ x : Int, L2.atI (ns.map Val.int ++ [.int 0]) 0 = some (.int x) := by
      cases ns with
      | nil => exact ⟨0, rfl⟩
      | cons y r => exact ⟨y, at0 _ _⟩
    have e2' := e2_g (o := vIx) (fb := eC (.int 0)) (x := .lst (ns.map .int ++ [.int 0])) (y := .int 0) (z := .v (.int x)) e1 rfl rfl rfl (by rw [s_ixL, hx]; rfl)
    refine ⟨if x < 0 then -x else x, by split <;> omega, ?_⟩
    rw [s_eB, ar_1 e2']
    rfl
  have hb := Int.emod_nonneg (c * 603 + 5241) (b := 2077503101) (by decide)
  have hb2 := Int.emod_lt_of_pos (c * 603 + 5241) (b := 2077503101) (by decide)
  refine ⟨if (10 ^ 18 : Int) ≤ c then c / 273 else 0, (c * 603 + 5241) % 2077503101 + 399, ?_, by omega, by omega, ?_⟩
  · split
    · exact Int.ediv_nonneg hc0 (by decide)
    · exact Int.le_refl 0
  · refine call_fl (stV hc (ret_v ?_))
    have t1 : tV (e2 vGe (eVar 1) (e2 vPow (eC (.int 10)) (eC (.int 18)))) [some (.v (.seq (ns.map .int))), some (.v (.int c))] st = .ok (decide ((10 ^ 18 : Int) ≤ c)) st :=
      tv_v (e2_ok (x := .int c) (y := .int (10 ^ 18)) rfl (e2_ok (x := .int 10) (y := .int 18) rfl rfl (by rfl)) rfl)
    have t2 : eIf (tV (e2 vGe (eVar 1) (e2 vPow (eC (.int 10)) (eC (.int 18))))) (e2 vDiv (eVar 1) (eC (.int 273))) (eC (.int 0)) [some (.v (.seq (ns.map .int))), some (.v (.int c))] st = .ok (.v (.int (if (10 ^ 18 : Int) ≤ c then c / 273 else 0))) st := by
      rw [s_eIf, t1, s_bind_ok]
      by_cases h : (10 ^ 18 : Int) ≤ c
      · rw [if_pos h, if_pos (decide_eq_true h)]
        exact e2_ok (x := .int c) (y := .int 273) rfl rfl rfl
      · rw [if_neg h, if_neg (by rw [decide_eq_false h]; decide)]
        rfl
    have m1 : e2 vMulN (eVar 1) (eC (.int 603)) [some (.v (.seq (ns.map .int))), some (.v (.int c))] st = .ok (.v (.int (c * 603))) st := by
      refine e2_ok (x := .int c) (y := .int 603) rfl rfl ?_
      show (if (mulOk c || mulOk 603) = true then some (SV.v (Val.int (c * 603))) else none) = _
      rw [mul_small (b := 603) (by decide) (by decide), Bool.or_true, if_pos rfl]
    have m2 := e2_ok (o := vAdd) (fb := eC (.int 5241)) m1 rfl rfl
    have m3 : eB vInt (aCons (e2 vAdd (e2 vMulN (eVar 1) (eC (.int 603))) (eC (.int 5241))) aNil) [some (.v (.seq (ns.map .int))), some (.v (.int c))] st = .ok (.v (.int (c * 603 + 5241))) st := by
      rw [s_eB, ar_1 m2]; rfl
    have m4 := e2_ok (o := vMod) (fb := eC (.int 2077503101)) (z := .v (.int ((c * 603 + 5241) % 2077503101))) m3 rfl (by rw [s_mod, if_pos (by decide)])
    have m5 := e2_ok (o := vAdd) (fb := eC (.int 399)) m4 rfl rfl
    show eLst _ [some (.v (.seq (ns.map .int))), some (.v (.int c))] st = _
    rw [s_eLst, ar_c t2 (ar_1 m5)]
    rfl
end
end K77

namespace K77
open PySem PySem.Spec PyProof.Rows L2 Eng
theorem cutM {α : Type} (xs : List α) (f n : Nat) : cutL xs (some (f : Int)) (some ((f : Int) + (n : Int))) = (xs.drop f).take n := by
  rw [show (f : Int) + (n : Int) = ((f + n : Nat) : Int) by omega]
  unfold cutL
  rw [HT.sIx_nat, HT.sIx_nat]
  by_cases h : f ≤ xs.length
  · rw [Nat.min_eq_left h]
    by_cases h2 : f + n ≤ xs.length
    · rw [Nat.min_eq_left h2, Nat.add_sub_cancel_left]
    · rw [Nat.min_eq_right (by omega), List.take_of_length_le (by simp), List.take_of_length_le (by simp; omega)]
  · rw [show min f xs.length = xs.length by omega, List.drop_of_length_le (Nat.le_refl _), List.drop_of_length_le (by omega)]; simp
theorem rng_len {n len : Nat} (h : n ≤ 24) : rngLen 0 n len ≤ 24 := by
  unfold rngLen
  split
  · have h3 : ((n : Int) - 0 - 1) / (len : Int) ≤ 23 := Int.le_trans (Int.ediv_le_self _ (by omega)) (by omega)
    omega
  · omega
def pcs (len : Nat) (b : List Nat) : List (List Nat) := (List.range (rngLen 0 b.length len)).map fun k => (b.drop (k * len)).take len
theorem flat_drop {len : Nat} : ∀ (ws : List (List Nat)) (k : Nat), (∀ w ∈ ws, w.length = len) → ws.flatten.drop (k * len) = (ws.drop k).flatten
  | ws, 0, _ => by simp
  | [], k + 1, _ => by simp
  | w :: ws, k + 1, h => by
    have hw := h w (by simp)
    have ih := flat_drop ws k fun q hq => h q (by simp [hq])
    rw [List.flatten_cons, List.drop_succ_cons, ← ih, Nat.succ_mul, Nat.add_comm, ← hw, List.drop_append]
    simp
theorem flat_len {len : Nat} : ∀ (ws : List (List Nat)), (∀ w ∈ ws, w.length = len) → ws.flatten.length = ws.length * len
  | [], _ => by simp
  | w :: ws, h => by
    rw [List.flatten_cons, List.length_append, flat_len ws fun q hq => h q (by simp [hq]), h w (by simp), List.length_cons, Nat.succ_mul]
    omega
theorem rngLen_mul {len T : Nat} (h : 1 ≤ len) : rngLen 0 ((T * len : Nat) : Int) len = T := by
  unfold rngLen
  by_cases hT : T = 0
  · subst hT; simp
  · have hp : 0 < T * len := Nat.mul_pos (by omega) h
    rw [if_pos (by omega)]
    have e : ((T * len : Nat) : Int) - 0 - 1 = (len : Int) * ((T : Int) - 1) + ((len : Int) - 1) := by
      rw [Int.natCast_mul, Int.mul_sub, Int.mul_one, Int.mul_comm (T : Int)]
      omega
    rw [e, Int.mul_add_ediv_left _ _ (by omega), Int.ediv_eq_zero_of_lt (by omega) (by omega)]
    omega
theorem pcs_flat {len : Nat} (h : 1 ≤ len) (ws : List (List Nat)) (hw : ∀ w ∈ ws, w.length = len) : pcs len ws.flatten = ws := by
  unfold pcs
  rw [flat_len ws hw, rngLen_mul h]
  apply List.ext_getElem
  · simp
  · intro i h1 h2
    rw [List.getElem_map, List.getElem_range, flat_drop ws i hw, List.drop_eq_getElem_cons h2, List.flatten_cons, ← hw ws[i] (List.getElem_mem _), List.take_left']
    rfl
theorem compSeq_a {α : Type} {p : Pat} {t : Ft} {fe : Fe} {env0 : Eng.Env} {st : Sto} (v : α → Val) (c : α → Bool) (g : α → Val) : ∀ (xs : List α) (acc : List Val), (∀ x ∈ xs, ∃ env, bindP p (v x) env0 = some env ∧ t env st = .ok (c x) st ∧ (c x = true → ∃ z, fe env st = .ok z st ∧ z.froz = .v (g x))) →
    compSeq p t fe env0 (xs.map v) acc st = .ok (acc ++ (xs.filter c).map g) st
  | [], acc, _ => by simp [compSeq]
  | x :: xs, acc, h => by
    obtain ⟨env, h1, h2, h3⟩ := h x List.mem_cons_self
    have ih := fun acc => compSeq_a v c g xs acc fun y hy => h y (List.mem_cons_of_mem _ hy)
    rw [List.map_cons]
    unfold compSeq
    rw [h1]
    simp only [h2, s_bind_ok]
    cases e : c x with
    | false =>
      simp only [Bool.false_eq_true, if_false]
      rw [ih, List.filter_cons_of_neg (by simp [e])]
    | true =>
      obtain ⟨z, h4, h5⟩ := h3 e
      simp only [if_true, h4, s_bind_ok, h5]
      rw [ih, List.filter_cons_of_pos e]
      simp
theorem comp_a {α : Type} {fi : Fi} {p : Pat} {t : Ft} {fe : Fe} {is : List Nat} {env : Eng.Env} {st : Sto} {xs : List α} (v : α → Val) (c : α → Bool) (g : α → Val) (hf : fi env st = .ok (.seq (xs.map v)) st) (hl : xs.length ≤ 1000000)
    (h : ∀ x ∈ xs, ∃ env', bindP p (v x) (wipeE env is) = some env' ∧ t env' st = .ok (c x) st ∧ (c x = true → ∃ z, fe env' st = .ok z st ∧ z.froz = .v (g x))) : eComp fi p t fe is env st = .ok (.fl ((xs.filter c).map g)) st := by
  unfold eComp
  rw [hf]
  simp only [s_bind_ok, List.length_map, hl, if_true]
  rw [compSeq_a v c g xs [] h]
  simp
theorem compA {α : Type} {fi : Fi} {p : Pat} {fe : Fe} {is : List Nat} {env : Eng.Env} {st : Sto} {xs : List α} (v : α → Val) (g : α → Val) (hf : fi env st = .ok (.seq (xs.map v)) st) (hl : xs.length ≤ 1000000)
    (h : ∀ x ∈ xs, ∃ env', bindP p (v x) (wipeE env is) = some env' ∧ ∃ z, fe env' st = .ok z st ∧ z.froz = .v (g x)) : eComp fi p tYesF fe is env st = .ok (.fl (xs.map g)) st := by
  rw [comp_a v (fun _ => true) g hf hl fun x hx => ?_]
  · rw [List.filter_eq_self.mpr fun _ _ => rfl]
  · obtain ⟨env', h1, h2⟩ := h x hx
    exact ⟨env', h1, rfl, fun _ => h2⟩
theorem blsA {α : Type} (g : α → Bool) : ∀ xs : List α, blsOf (xs.map fun x => .bl (g x)) = some (xs.map g)
  | [] => rfl
  | x :: xs => by simp only [List.map_cons, blsOf, blsA g xs]
theorem allA {α : Type} {fi : Fi} {p : Pat} {fe : Fe} {is : List Nat} {env : Eng.Env} {st : Sto} {xs : List α} (v : α → Val) (g : α → Bool) (hf : fi env st = .ok (.seq (xs.map v)) st) (hl : xs.length ≤ 1000000)
    (h : ∀ x ∈ xs, ∃ env', bindP p (v x) (wipeE env is) = some env' ∧ fe env' st = .ok (.v (.bl (g x))) st) : eB vAll (aCons (eComp fi p tYesF fe is) aNil) env st = .ok (.v (.bl (xs.all g))) st := by
  have e := compA (p := p) (fe := fe) (is := is) v (fun x => .bl (g x)) hf hl fun x hx => let ⟨env', h1, h2⟩ := h x hx; ⟨env', h1, _, h2, rfl⟩
  rw [s_eB, s_aCons, e]
  simp only [s_bind_ok, s_aNil, s_froz_fl, s_valsOf, s_val_v, s_valsOf0, Option.bind_some, s_all, blsA, Option.map_some, s_outO]
  simp [Function.comp_def]
theorem eV {env : Eng.Env} {i : Nat} {z : SV} {st : Sto} (h : env[i]? = some (some z)) : eVar i env st = .ok z st := by unfold eVar; rw [h]
theorem gs {env : Eng.Env} {i j : Nat} {z : Option SV} {y : Option (Option SV)} (hij : j ≠ i) (h : env[i]? = y) : (env.set j z)[i]? = y := by rw [List.getElem?_set_ne hij]; exact h
theorem gss {env : Eng.Env} {i : Nat} {z : Option SV} (h : i < env.length) : (env.set i z)[i]? = some z := List.getElem?_set_self h
mutual
def pd : Val → Nat → Bool
  | .non, k => decide (0 < k)
  | .bl _, k => decide (0 < k)
  | .int _, k => decide (0 < k)
  | .str _, k => decide (0 < k)
  | .tup xs, k => match k with
    | 0 => false
    | k + 1 => decide (xs.length ≤ 1000000) && pds xs k
  | .lst _, _ => false
  | .dic _ _, _ => false
  | .glb _, _ => false
  | .ty _, _ => false
  | .seq _, _ => false
  | .exn _ _, _ => false
  | .prs _, _ => false
def pds : List Val → Nat → Bool
  | [], _ => true
  | x :: xs, k => pd x k && pds xs k
end
section
variable {st : Sto}
/-! ### pieces -/
theorem flat_pcs {len : Nat} (h : 1 ≤ len) : ∀ (n : Nat) (b : List Nat), b.length = n * len → ∃ ws : List (List Nat), ws.length = n ∧ (∀ w ∈ ws, w.length = len) ∧ b = ws.flatten
  | 0, b, hb => ⟨[], rfl, by simp, by
    rw [Nat.zero_mul] at hb
    exact List.eq_nil_of_length_eq_zero hb⟩
  | n + 1, b, hb => by
    rw [Nat.succ_mul] at hb
    obtain ⟨ws, h1, h2, h3⟩ := flat_pcs h n (b.drop len) (by rw [List.length_drop]; omega)
    refine ⟨b.take len :: ws, by simp [h1], fun w hw => ?_, ?_⟩
    · rcases List.mem_cons.mp hw with rfl | hw
      · rw [List.length_take]; omega
      · exact h2 w hw
    · rw [List.flatten_cons, ← h3, List.take_append_drop]
/-- the slice of a piece -/
theorem piece_e {env : Eng.Env} {fj : Fe} {i k len q : Nat} {s : List Nat} (hk : k < env.length) (hi : k ≠ i) (ei : env[i]? = some (some (.v (.str s)))) (hj : ∀ z, fj ((wipeE env [k]).set k z) st = .ok (.v (.int (len : Nat))) st) :
    eSl (eVar i) (pAt (eVar k)) (pAt (e2 vAdd (eVar k) fj)) ((wipeE env [k]).set k (some (.v (.int (0 + (q : Int) * (len : Nat)))))) st = .ok (.v (.str ((s.drop (q * len)).take len))) st := by
  have f1 : eVar i ((wipeE env [k]).set k (some (.v (.int (0 + (q : Int) * (len : Nat)))))) st = .ok (.v (.str s)) st := eV (gs hi (gs hi ei))
  have f3 : eVar k ((wipeE env [k]).set k (some (.v (.int (0 + (q : Int) * (len : Nat)))))) st = .ok (.v (.int (0 + (q : Int) * (len : Nat)))) st := eV (gss (by simpa [wipeE] using hk))
  have f4 := e2_ok (o := vAdd) (z := .v (.int (0 + (q : Int) * (len : Nat) + (len : Nat)))) f3 (hj _) rfl
  rw [s_eSl, f1]
  simp only [s_bind_ok, s_pAt, f3, s_pInt, f4, s_val_v, Option.bind_some, s_slS, s_outO]
  rw [show (0 : Int) + (q : Int) * ((len : Nat) : Int) = ((q * len : Nat) : Int) by simp, cutM]
theorem rng3_e {env : Eng.Env} {fl fj : Fe} {len n : Nat} (hn : n ≤ 24) (h1 : 1 ≤ len) (h2 : len ≤ 16) (hL : fl env st = .ok (.v (.int (n : Nat))) st) (hj : fj env st = .ok (.v (.int (len : Nat))) st) :
    iRng3F (aCons (eC (.int 0)) (aCons fl (aCons fj aNil))) env st = .ok (.seq ((List.range (rngLen 0 n len)).map fun q : Nat => .int (0 + (q : Int) * (len : Nat)))) st := by
  unfold iRng3F
  rw [ar_c (fa := eC (.int 0)) (z1 := .v (.int 0)) rfl (ar_c hL (ar_1 hj))]
  simp [small, rngC]
  omega
theorem pcs_comp {env : Eng.Env} {fl fj : Fe} {i k len : Nat} {s : List Nat} (hs : s.length ≤ 24) (h1 : 1 ≤ len) (h2 : len ≤ 16) (hL : fl env st = .ok (.v (.int (s.length : Nat))) st) (hj0 : fj env st = .ok (.v (.int (len : Nat))) st) (hk : k < env.length) (hi : k ≠ i) (ei : env[i]? = some (some (.v (.str s)))) (hj : ∀ z, fj ((wipeE env [k]).set k z) st = .ok (.v (.int (len : Nat))) st) :
    eComp (iRng3F (aCons (eC (.int 0)) (aCons fl (aCons fj aNil)))) (.n k) tYesF (eSl (eVar i) (pAt (eVar k)) (pAt (e2 vAdd (eVar k) fj))) [k] env st = .ok (.fl (sv (pcs len s))) st := by
  have hn : rngLen 0 s.length len ≤ 24 := rng_len hs
  rw [compA (xs := List.range (rngLen 0 s.length len)) (fun q : Nat => .int (0 + (q : Int) * (len : Nat))) (fun q => .str ((s.drop (q * len)).take len)) (rng3_e hs h1 h2 hL hj0) (by rw [List.length_range]; omega) fun q _ => ⟨_, rfl, _, piece_e (q := q) hk hi ei hj, rfl⟩]
  unfold sv pcs
  rw [List.map_map]
  rfl
/-- the places of the pieces that are not on a list -/
theorem bad_comp {env : Eng.Env} {fl fj fw : Fe} {i k len : Nat} {s : List Nat} {ws : List (List Nat)} (hs : s.length ≤ 24) (h1 : 1 ≤ len) (h2 : len ≤ 16) (hL : fl env st = .ok (.v (.int (s.length : Nat))) st) (hj0 : fj env st = .ok (.v (.int (len : Nat))) st) (hk : k < env.length) (hi : k ≠ i) (ei : env[i]? = some (some (.v (.str s)))) (hj : ∀ z, fj ((wipeE env [k]).set k z) st = .ok (.v (.int (len : Nat))) st) (hw : ∀ z, fw ((wipeE env [k]).set k z) st = .ok (.v (.tup (sv ws))) st) :
    tV (e2 vEq (eComp (iRng3F (aCons (eC (.int 0)) (aCons fl (aCons fj aNil)))) (.n k) (tV (e2 vNotIn (eSl (eVar i) (pAt (eVar k)) (pAt (e2 vAdd (eVar k) fj))) fw)) (eVar k) [k]) (eLst aNil)) env st = .ok (decide (∀ p ∈ pcs len s, p ∈ ws)) st := by
  have hn : rngLen 0 s.length len ≤ 24 := rng_len hs
  have hc := comp_a (st := st) (xs := List.range (rngLen 0 s.length len)) (fun q : Nat => .int (0 + (q : Int) * (len : Nat))) (fun q => !decide ((s.drop (q * len)).take len ∈ ws)) (fun q : Nat => .int (0 + (q : Int) * (len : Nat))) (rng3_e hs h1 h2 hL hj0) (by rw [List.length_range]; omega) (p := .n k) (t := tV (e2 vNotIn (eSl (eVar i) (pAt (eVar k)) (pAt (e2 vAdd (eVar k) fj))) fw)) (fe := eVar k) (is := [k]) fun q _ => ⟨_, rfl, tv_v (e2_ok (z := .v (.bl (!decide ((s.drop (q * len)).take len ∈ ws)))) (piece_e (q := q) hk hi ei hj) (hw _) (by
    unfold vNotIn
    rw [show Eng.inB (.str ((s.drop (q * len)).take len)) (.tup (sv ws)) = some (decide ((s.drop (q * len)).take len ∈ ws)) from in_str _ ws]
    rfl)), fun _ => ⟨_, eV (gss (by simpa [wipeE] using hk)), rfl⟩⟩
  have ee : ∀ ys : List Nat, vEq (.lst (ys.map fun q : Nat => Val.int (0 + (q : Int) * (len : Nat)))) (.lst []) = some (.v (.bl (decide (ys = [])))) := fun ys => by
    have h1 : okD (.lst (ys.map fun q : Nat => Val.int (0 + (q : Int) * (len : Nat)))) 32 = true := by
      show okDs _ 31 = true
      induction ys with
      | nil => rfl
      | cons y ys ih => show (true && okDs _ 31) = true; rw [ih]; rfl
    unfold vEq
    rw [h1]
    cases ys <;> rfl
  rw [tv_v (e2_g hc (by rfl : eLst aNil env st = .ok (.fl []) st) rfl rfl (ee _))]
  congr 1
  refine decide_eq_decide.mpr ?_
  rw [List.filter_eq_nil_iff]
  unfold pcs
  constructor
  · intro h p hp
    obtain ⟨q, hq, rfl⟩ := List.mem_map.mp hp
    have := h q hq
    simpa using this
  · intro h q hq
    simpa using h _ (List.mem_map.mpr ⟨q, hq, rfl⟩)
/-! ### joined texts -/
theorem join_e {fc : Fe} {env : Eng.Env} {ys : List (List Nat)} (h : fc env st = .ok (.fl (ys.map .str)) st) (h1 : ys.length ≤ 1000) (h2 : SOk ys.flatten = true) : eM "str" vJoin (eC (.str [])) (aCons fc aNil) env st = .ok (.v (.str ys.flatten)) st := by
  have e := (join_ok0 h1 h2).2
  rw [s_eM, s_eC]
  simp only [s_bind_ok, s_val_v, s_rcv_str, if_true, s_aCons, h, s_aNil, s_froz_fl, s_valsOf, s_valsOf0, Option.bind_some]
  rw [e]
  rfl
end
end K77

namespace K77
open PySem PySem.Spec PyProof.Rows L2 Eng
/-! ### texts without any twice, in order -/
def T (ws : List (List Nat)) : List (List Nat) := sortS (ddS ws)
theorem mem_T {ws : List (List Nat)} {w : List Nat} : w ∈ T ws ↔ w ∈ ws := (sortS_perm _).mem_iff.trans mem_dd
theorem T_of {a b : List (List Nat)} (ha : a.Nodup) (m : ∀ x, x ∈ a ↔ x ∈ b) : sortS a = T b := by
  have p : a.Perm (ddS b) := (List.perm_ext_iff_of_nodup ha (dd_nodup b)).mpr fun x => (m x).trans mem_dd.symm
  exact sortS_uniq ((sortS_perm a).trans p) (sortS_pair a)
theorem T_congr {a b : List (List Nat)} (m : ∀ x, x ∈ a ↔ x ∈ b) : T a = T b := T_of (dd_nodup a) fun x => mem_dd.trans (m x)
theorem up_nodup {a : List (List Nat)} (h : a.Pairwise (· < ·)) : a.Nodup := h.imp fun {x y} q e => by
  subst e
  exact absurd q (by simp [List.lt_irrefl])
theorem T_nodup (a : List (List Nat)) : (T a).Nodup := (sortS_perm _).nodup_iff.mpr (dd_nodup a)
theorem T_strict (a : List (List Nat)) : (T a).Pairwise (· < ·) := strict (dd_nodup a)
theorem leS_of {a b : List Nat} (h : a < b) : leS a b = true := by
  unfold leS
  simp only [Bool.not_eq_true', decide_eq_false_iff_not]
  exact fun q => absurd (List.lt_trans h q) (List.lt_irrefl a)
theorem T_up {a : List (List Nat)} (h : a.Pairwise (· < ·)) : T a = a := by
  have e := T_of (up_nodup h) fun x => Iff.rfl
  rw [← e]
  exact (sortS_uniq (List.Perm.refl a) (h.imp leS_of)).symm
theorem T_len_le (a : List (List Nat)) : (T a).length ≤ a.length := by
  unfold T
  rw [(sortS_perm _).length_eq]
  have : ∀ (ys l : List (List Nat)), (ys.foldl addD l).length ≤ l.length + ys.length := by
    intro ys
    induction ys with
    | nil => intro l; exact Nat.le_refl _
    | cons y ys ih =>
      intro l
      have h1 := ih (addD l y)
      have h2 : (addD l y).length ≤ l.length + 1 := by unfold addD; split <;> simp
      simp only [List.foldl_cons, List.length_cons]
      omega
  have := this a []
  simpa [ddS] using this
theorem T_nil {a : List (List Nat)} (h : T a = []) : a = [] := by
  cases a with
  | nil => rfl
  | cons x a =>
    have : x ∈ T (x :: a) := mem_T.mpr (by simp)
    rw [h] at this
    cases this
theorem T_ne {a : List (List Nat)} (h : a ≠ []) : T a ≠ [] := fun e => h (T_nil e)
theorem good_T {X len : Nat} {ws : List (List Nat)} (h1 : 1 ≤ X) (h4 : X ≤ 4) (n2 : 2 ≤ len) (n4 : len ≤ 4) (ne : ws ≠ []) (hl : (T ws).length ≤ 40) (hlen : ∀ w ∈ ws, w.length = len) (hok : ∀ w ∈ ws, okL X w = true) : Good X len (T ws) :=
  ⟨h1, h4, n2, n4, T_ne ne, hl, fun w hw => hlen w (mem_T.mp hw), fun w hw => hok w (mem_T.mp hw), T_strict ws⟩
theorem okL_mono {X Y : Nat} (h : X ≤ Y) {w : List Nat} (hw : okL X w = true) : okL Y w = true := by
  unfold okL at *
  rw [List.all_eq_true] at *
  intro c hc
  have := hw c hc
  simp only [decide_eq_true_eq] at *
  exact (List.take_sublist_take_left h).mem this
section
variable {st : Sto}
/-! ### made_list -/
theorem dc_strs {env0 : Eng.Env} {i : Nat} : ∀ (ws acc : List (List Nat)), i < env0.length → dcSeq (.n i) tYesF (eVar i) (eC (.bl true)) env0 (sv ws) (dv acc) st = .ok (dv (ws.foldl addW acc)) st
  | [], acc, _ => rfl
  | w :: ws, acc, hi => by
    have ih := dc_strs (env0 := env0) (i := i) ws (addW acc w) hi
    have hv : eVar i (env0.set i (some (.v (.str w)))) st = .ok (.v (.str w)) st := eV (gss hi)
    have hp : dPut (dv acc) (.str w) (.bl true) = dv (addW acc w) := dPut_dv ..
    show dcSeq (.n i) tYesF (eVar i) (eC (.bl true)) env0 (.str w :: sv ws) (dv acc) st = _
    unfold dcSeq
    show ((tYesF (env0.set i (some (.v (.str w)))) st).bind _) = _
    simp only [tYesF, s_bind_ok, if_true, hv, s_eC, s_froz_v]
    rw [if_pos (show (keyOf (.str w)).isSome = true from rfl), hp]
    exact ih
theorem foldW : ∀ (ws acc : List (List Nat)), acc.Nodup → (ws.foldl addW acc).Nodup ∧ ∀ x, x ∈ ws.foldl addW acc ↔ x ∈ acc ∨ x ∈ ws
  | [], acc, h => ⟨h, fun x => by simp⟩
  | w :: ws, acc, h => by
    obtain ⟨h1, h2⟩ := foldW ws (addW acc w) (addW_nodup h)
    refine ⟨h1, fun x => ?_⟩
    rw [List.foldl_cons, h2 x, List.mem_cons]
    have : x ∈ addW acc w ↔ x ∈ acc ∨ x = w := by
      unfold addW
      split
      · rename_i hw
        exact ⟨.inl, fun q => q.elim id fun e => e ▸ hw⟩
      · rw [List.mem_append, List.mem_singleton]
    rw [this]
    exact or_assoc
theorem sort_foldW (ws : List (List Nat)) : sortS (ws.foldl addW []) = T ws := by
  obtain ⟨h1, h2⟩ := foldW ws [] List.nodup_nil
  exact T_of h1 fun x => (h2 x).trans (by simp)
inductive Row (ws : List (List Nat)) : Val → Prop
  | lst : Row ws (.lst (sv ws))
  | tup : Row ws (.tup (sv ws))
theorem made_s {X len : Nat} {ws : List (List Nat)} {x : Val} (hx : Row ws x) (g : Good X len (T ws)) (hl : ws.length ≤ 1000) : m_made_list [.v (.int (X : Nat)), .v x] st = .ok (.v (lw X (T ws))) st := by
  have h40 : (ws.foldl addW []).length < 64 := by
    have e := (sortS_perm (ws.foldl addW [])).length_eq
    rw [sort_foldW] at e
    have := g.r40
    omega
  refine call_v (N := 4) (body := b_made_list) ?_
  have hd : eDComp (iAnyF (eVar 1)) (.n 3) (tYesF) (eVar 3) (eC (.bl true)) [3] [some (.v (.int (X : Nat))), some (.v x), none, none] st = .ok (.fd false (dv (ws.foldl addW []))) st := by
    unfold eDComp
    rw [show iAnyF (eVar 1) [some (.v (.int (X : Nat))), some (.v x), none, none] st = .ok (.seq (sv ws)) st from by cases hx <;> rfl, s_bind_ok]
    show (if (sv ws).length ≤ 1000000 then _ else _) = _
    rw [if_pos (by rw [sv_len]; omega)]
    have := dc_strs (st := st) (env0 := wipeE [some (.v (.int (X : Nat))), some (.v x), none, none] [3]) (i := 3) ws [] (by simp [wipeE])
    show Eng.Rv.freshD (dcSeq _ _ _ _ _ _ (dv []) st) = _
    rw [this]
    rfl
  have e2' : eTup (aCons (eVar 0) (aCons (eB vTuple (aCons (eB vSortX (aCons (eDComp (iAnyF (eVar 1)) (.n 3) (tYesF) (eVar 3) (eC (.bl true)) [3]) (aNil))) (aNil))) (aNil))) [some (.v (.int (X : Nat))), some (.v x), none, none] st = .ok (.v (lw X (T ws))) st := by
    have hs : eB vSortX (aCons (eDComp (iAnyF (eVar 1)) (.n 3) (tYesF) (eVar 3) (eC (.bl true)) [3]) (aNil)) [some (.v (.int (X : Nat))), some (.v x), none, none] st = .ok (.fl (sv (T ws))) st := by
      rw [s_eB, ar_1 hd]
      show outO ((some [Val.dic false (dv (ws.foldl addW []))]).bind vSort) _ = _
      rw [Option.bind_some, sort_dv h40, sort_foldW]
      rfl
    have ht : eB vTuple (aCons (eB vSortX (aCons (eDComp (iAnyF (eVar 1)) (.n 3) (tYesF) (eVar 3) (eC (.bl true)) [3]) (aNil))) (aNil)) [some (.v (.int (X : Nat))), some (.v x), none, none] st = .ok (.v (.tup (sv (T ws)))) st := by
      rw [s_eB, ar_1 hs]
      rfl
    rw [s_eTup, ar_c (z1 := .v (.int (X : Nat))) rfl (ar_1 ht)]
    rfl
  refine (seq_nx (set_v e2')).trans ((seq_nx (env1 := [some (.v (.int (X : Nat))), some (.v x), some (.v (lw X (T ws))), none]) (st1 := st) ((if_f (st1 := st) ?_).trans rfl)).trans (ret_v rfl))
  exact tn_v (b := true) (ec_1 rfl (fits_list_s g))
theorem okDs_sv (n : Nat) : ∀ ws : List (List Nat), okDs (sv ws) n = true
  | [] => by simp [sv, okDs]
  | w :: ws => by
    have := okDs_sv n ws
    unfold sv at *
    rw [List.map_cons]
    simp [okDs, okD, this]
theorem eqBs_sv : ∀ a b : List (List Nat), eqBs (sv a) (sv b) = decide (a = b)
  | [], [] => by simp [sv, eqBs]
  | [], y :: b => by simp [sv, eqBs]
  | x :: a, [] => by simp [sv, eqBs]
  | x :: a, y :: b => by
    show ((x == y) && eqBs (sv a) (sv b)) = _
    rw [eqBs_sv a b, Bool.eq_iff_iff]
    simp only [Bool.and_eq_true, beq_iff_eq, decide_eq_true_eq, List.cons.injEq]
theorem ne_sv (a b : List (List Nat)) : vNe (.lst (sv a)) (.lst (sv b)) = some (.v (.bl (!decide (a = b)))) := by
  rw [s_ne, if_pos (by
    show (okDs (sv a) 31 && okDs (sv b) 31) = true
    rw [okDs_sv, okDs_sv]
    rfl)]
  show some (SV.v (.bl (!eqBs (sv a) (sv b)))) = _
  rw [eqBs_sv]
theorem ne_lw (X Y : Nat) (a b : List (List Nat)) : vNe (lw X a) (lw Y b) = some (.v (.bl (!decide (X = Y ∧ a = b)))) := by
  rw [s_ne, if_pos (by
    show ((okD (.int X) 31 && (okDs (sv a) 30 && true)) && (okD (.int Y) 31 && (okDs (sv b) 30 && true))) = true
    rw [okDs_sv, okDs_sv]
    rfl)]
  show some (SV.v (.bl (!(((X : Int) == (Y : Int)) && (eqBs (sv a) (sv b) && true))))) = _
  rw [eqBs_sv, Bool.and_true]
  have : ((X : Int) == (Y : Int)) = decide (X = Y) := by
    rw [Bool.eq_iff_iff, beq_iff_eq, decide_eq_true_eq]
    omega
  rw [this, Bool.decide_and]
theorem ne_nil (ws : List (List Nat)) : vNe (.lst (sv ws)) (.lst []) = some (.v (.bl (!decide (ws = [])))) := ne_sv ws []
end
end K77

namespace K77
open PySem PySem.Spec PyProof.Rows L2 Eng
/-! ### the inner list: any words of two letters; letters stand for its first ones -/
theorem Good.nd {S : Nat} {W : List (List Nat)} (g : Good S 2 W) : W.Nodup := up_nodup g.up
/-- the word that a letter stands for -/
def wd (W : List (List Nat)) (c : Nat) : List Nat := W.getD (c - 97) []
def lift (W : List (List Nat)) (w : List Nat) : List Nat := (w.map (wd W)).flatten
/-- the letter of a word -/
def lt (W : List (List Nat)) (p : List Nat) : Nat := 97 + W.idxOf p
theorem abcd_c {L : Nat} {w : List Nat} (h : okL L w = true) {c : Nat} (hc : c ∈ w) : ∃ i, i < 4 ∧ i < L ∧ c = 97 + i := by
  unfold okL at h
  have h1 := of_decide_eq_true (List.all_eq_true.mp h c hc)
  obtain ⟨i, hi, e⟩ := List.mem_iff_getElem.mp h1
  have hl : i < 4 ∧ i < L := by
    rw [List.length_take] at hi
    simp at hi
    omega
  refine ⟨i, hl.1, hl.2, ?_⟩
  rw [List.getElem_take] at e
  have : i = 0 ∨ i = 1 ∨ i = 2 ∨ i = 3 := by omega
  rcases this with rfl | rfl | rfl | rfl <;> exact e.symm
theorem abcd_mem {L i : Nat} (h : i < 4) (hL : i < L) : 97 + i ∈ [97, 98, 99, 100].take L := by
  refine List.mem_iff_getElem.mpr ⟨i, by simp; omega, ?_⟩
  rw [List.getElem_take]
  have : i = 0 ∨ i = 1 ∨ i = 2 ∨ i = 3 := by omega
  rcases this with rfl | rfl | rfl | rfl <;> rfl
theorem not_abcd {L i : Nat} (hL : L ≤ i) : 97 + i ∉ [97, 98, 99, 100].take L := fun h => by
  obtain ⟨j, hj, e⟩ := List.mem_iff_getElem.mp h
  have hl : j < 4 ∧ j < L := by
    rw [List.length_take] at hj
    simp at hj
    omega
  rw [List.getElem_take] at e
  have : j = 0 ∨ j = 1 ∨ j = 2 ∨ j = 3 := by omega
  rcases this with rfl | rfl | rfl | rfl <;> (simp at e; omega)
section
variable {S L : Nat} {W : List (List Nat)}
theorem wd_get (g : Good S 2 W) {i : Nat} (h : i < W.length) : ∃ p, W[i]? = some p ∧ wd W (97 + i) = p ∧ p ∈ W := by
  have hi : i < W.length := h
  refine ⟨W[i], List.getElem?_eq_getElem hi, ?_, List.getElem_mem _⟩
  unfold wd
  rw [Nat.add_sub_cancel_left, List.getD_eq_getElem?_getD, List.getElem?_eq_getElem hi]
  rfl
theorem wd_mem (g : Good S 2 W) (hL : L ≤ W.length) (hw : okL L w = true) {c : Nat} (hc : c ∈ w) : wd W c ∈ W := by
  obtain ⟨i, _, h1, rfl⟩ := abcd_c hw hc
  obtain ⟨p, _, e, m⟩ := wd_get g (Nat.lt_of_lt_of_le h1 hL)
  rw [e]; exact m
theorem lt_wd (g : Good S 2 W) {i : Nat} (h : i < W.length) : lt W (wd W (97 + i)) = 97 + i := by
  obtain ⟨p, h1, e, m⟩ := wd_get g h
  obtain ⟨hi, hp⟩ := List.getElem?_eq_some_iff.mp h1
  unfold lt
  rw [e, ← hp, List.Nodup.idxOf_getElem g.nd]
theorem idx_take (g : Good S 2 W) {p : List Nat} {n : Nat} (h : p ∈ W.take n) : W.idxOf p < n := by
  obtain ⟨i, hi, e⟩ := List.mem_iff_getElem.mp h
  rw [List.length_take] at hi
  have hi2 : i < W.length := by omega
  have e2 : W[i] = p := by rw [← e, List.getElem_take]
  rw [← e2, List.Nodup.idxOf_getElem g.nd]
  omega
theorem wd_lt (g : Good S 2 W) {p : List Nat} (h : p ∈ W.take 4) : wd W (lt W p) = p ∧ W.idxOf p < 4 := by
  have hi : W.idxOf p < W.length := List.idxOf_lt_length_iff.mpr (List.mem_of_mem_take h)
  refine ⟨?_, idx_take g h⟩
  unfold wd lt
  rw [Nat.add_sub_cancel_left, List.getD_eq_getElem?_getD, List.getElem?_eq_getElem hi, List.getElem_idxOf hi]
  rfl
theorem lift_len (g : Good S 2 W) (hL : L ≤ W.length) {w : List Nat} (hw : okL L w = true) : (lift W w).length = w.length * 2 := by
  unfold lift
  rw [flat_len (len := 2), List.length_map]
  intro p hp
  obtain ⟨c, hc, rfl⟩ := List.mem_map.mp hp
  exact g.len _ (wd_mem g hL hw hc)
theorem lift_ok (g : Good S 2 W) (hL : L ≤ W.length) {w : List Nat} (hw : okL L w = true) : okL S (lift W w) = true := by
  unfold lift okL
  refine List.all_eq_true.mpr fun c hc => ?_
  obtain ⟨p, hp, hc⟩ := List.mem_flatten.mp hc
  obtain ⟨d, hd, rfl⟩ := List.mem_map.mp hp
  exact List.all_eq_true.mp (g.ok _ (wd_mem g hL hw hd)) c hc
theorem lift_app (a b : List Nat) : lift W (a ++ b) = lift W a ++ lift W b := by unfold lift; rw [List.map_append, List.flatten_append]
theorem lift_inj (g : Good S 2 W) (hL : L ≤ W.length) : ∀ {a b : List Nat}, okL L a = true → okL L b = true → lift W a = lift W b → a = b
  | [], [], _, _, _ => rfl
  | [], c :: b, _, hb, e => by
    have h1 := lift_len g hL hb
    rw [← e] at h1
    simp [lift] at h1
  | c :: a, [], ha, _, e => by
    have h1 := lift_len g hL ha
    rw [e] at h1
    simp [lift] at h1
  | c :: a, d :: b, ha, hb, e => by
    have e : wd W c ++ lift W a = wd W d ++ lift W b := e
    have hc := wd_mem g hL ha (c := c) (by simp)
    have hd := wd_mem g hL hb (c := d) (by simp)
    obtain ⟨e1, e2⟩ := List.append_inj e (by rw [g.len _ hc, g.len _ hd])
    obtain ⟨i, _, h1, rfl⟩ := abcd_c ha (c := c) (by simp)
    obtain ⟨j, _, h2, rfl⟩ := abcd_c hb (c := d) (by simp)
    have : 97 + i = 97 + j := by rw [← lt_wd g (Nat.lt_of_lt_of_le h1 hL), ← lt_wd g (Nat.lt_of_lt_of_le h2 hL), e1]
    rw [this, lift_inj g hL (okL_sub (fun x hx => List.mem_cons_of_mem _ hx) ha) (okL_sub (fun x hx => List.mem_cons_of_mem _ hx) hb) e2]
theorem pcs_lift2 (g : Good S 2 W) (hL : L ≤ W.length) {w : List Nat} (hw : okL L w = true) : pcs 2 (lift W w) = w.map (wd W) := by
  unfold lift
  refine pcs_flat (by omega) _ fun p hp => ?_
  obtain ⟨c, hc, rfl⟩ := List.mem_map.mp hp
  exact g.len _ (wd_mem g hL hw hc)
end
end K77

namespace K77
open PySem PySem.Spec PyProof.Rows L2 Eng
section
variable {st : Sto} {S L : Nat} {W : List (List Nat)}
/-! ### lifted -/
theorem sidx {i : Nat} (h : i < 4) : vSIndex (.str [97, 98, 99, 100]) [.str [97 + i]] = some (.v (.int (i : Nat))) := by
  have : i = 0 ∨ i = 1 ∨ i = 2 ∨ i = 3 := by omega
  rcases this with rfl | rfl | rfl | rfl <;> rfl
theorem abcd_ix {i : Nat} (h : i < 4) : vIx (.str [97, 98, 99, 100]) (.int (i : Nat)) = some (.v (.str [97 + i])) := by
  have : i = 0 ∨ i = 1 ∨ i = 2 ∨ i = 3 := by omega
  rcases this with rfl | rfl | rfl | rfl <;> rfl
theorem lift_sok (g : Good S 2 W) (hL : L ≤ W.length) {w : List Nat} (hw : okL L w = true) (hl : w.length ≤ 1000) : SOk (lift W w) = true :=
  sok_of (okL_lt (lift_ok g hL hw)) (by rw [lift_len g hL hw]; omega)
/-- the word of a letter -/
theorem ch_e (g : Good S 2 W) {i : Nat} (h : i < 4) (h5 : i < W.length) {fw fc : Fe} {env : Eng.Env} (hw : fw env st = .ok (.v (.tup (sv W))) st) (hc : fc env st = .ok (.v (.str [97 + i])) st) : e2 vIx fw (eM "str" vSIndex (eC (.str [97, 98, 99, 100])) (aCons fc aNil)) env st = .ok (.v (.str (wd W (97 + i)))) st := by
  obtain ⟨p, h1, e, _⟩ := wd_get g h5
  refine e2_ok (x := .tup (sv W)) (y := .int (i : Nat)) hw ?_ ?_
  · rw [s_eM, s_eC]
    simp only [s_bind_ok, s_val_v, s_rcv_str, if_true, s_aCons, hc, s_aNil, s_froz_v, s_valsOf, s_valsOf0, Option.bind_some]
    rw [sidx h]
    rfl
  · rw [s_ixT, atI_nat (v := .str p) (by unfold sv; rw [List.getElem?_map, h1]; rfl), e]
    rfl
theorem lift_e (g : Good S 2 W) (hL : L ≤ W.length) {w : List Nat} (hw : okL L w = true) (hl : w.length ≤ 100) {fi : Fi} {fw : Fe} {k : Nat} {env : Eng.Env} (hk : k < env.length) (hi : fi env st = .ok (.seq (w.map fun c => .str [c])) st) (hfw : ∀ z, fw ((wipeE env [k]).set k z) st = .ok (.v (.tup (sv W))) st) :
    eM "str" vJoin (eC (.str [])) (aCons (eComp fi (.n k) tYesF (e2 vIx fw (eM "str" vSIndex (eC (.str [97, 98, 99, 100])) (aCons (eVar k) aNil))) [k]) aNil) env st = .ok (.v (.str (lift W w))) st := by
  have hc := compA (st := st) (xs := w) (fun c => .str [c]) (fun c => .str (wd W c)) hi (by omega) (p := .n k) (fe := e2 vIx fw (eM "str" vSIndex (eC (.str [97, 98, 99, 100])) (aCons (eVar k) aNil))) (is := [k]) fun c hc => by
    obtain ⟨i, h4, h5, rfl⟩ := abcd_c hw hc
    exact ⟨_, rfl, _, ch_e g h4 (Nat.lt_of_lt_of_le h5 hL) (hfw _) (eV (gss (by simpa [wipeE] using hk))), rfl⟩
  rw [show (w.map fun c => Val.str (wd W c)) = (w.map (wd W)).map .str from by rw [List.map_map]; rfl] at hc
  exact join_e hc (by rw [List.length_map]; omega) (lift_sok g hL hw (by omega))
theorem lifted_s (g : Good S 2 W) (hL : L ≤ W.length) {w : List Nat} (hw : okL L w = true) (hl : w.length ≤ 100) : m_lifted [.v (lw S W), .v (.str w)] st = .ok (.v (.str (lift W w))) st := by
  refine call_v (ret_v ?_)
  exact lift_e (k := 2) g hL hw hl (by simp) (any_str (by rfl)) fun z => e2_ok (x := lw S W) (y := .int 1) rfl rfl (ix1 S W)
/-! ### lowered -/
theorem idx_s {p : List Nat} : ∀ {W : List (List Nat)} {k : Nat}, p ∈ W → findV (.str p) (W.map .str) k = some (k + W.idxOf p)
  | [], _, h => by cases h
  | q :: W, k, h => by
    show (if (q == p) = true then some k else findV (.str p) (W.map .str) (k + 1)) = _
    by_cases e : q = p
    · subst e
      rw [if_pos (by simp), List.idxOf_cons_self]
      rfl
    · have hm : p ∈ W := by
        rcases List.mem_cons.mp h with z | z
        · exact absurd z.symm e
        · exact z
      rw [if_neg (by simpa using e), idx_s hm]
      have : (q == p) = false := by simpa using e
      rw [List.idxOf_cons, this]
      simp only [cond_false]
      congr 1
      omega
theorem tidx {p : List Nat} (h : p ∈ W) : vTIndex (.tup (sv W)) [.str p] = some (.v (.int (W.idxOf p : Nat))) := by
  show (match strsOf (W.map Val.str) with | some ys => (findV (.str p) (W.map .str) 0).map fun k : Nat => SV.v (.int (k : Nat)) | none => none) = _
  rw [Eng.strs_map]
  show (findV (.str p) (W.map .str) 0).map _ = _
  rw [idx_s h, Nat.zero_add]
  rfl
/-- the letter of a word -/
theorem low_e (g : Good S 2 W) {p : List Nat} (h : p ∈ W.take 4) {fw fp : Fe} {env : Eng.Env} (hw : fw env st = .ok (.v (.tup (sv W))) st) (hp : fp env st = .ok (.v (.str p)) st) : e2 vIx (eC (.str [97, 98, 99, 100])) (eTI fw (aCons fp aNil)) env st = .ok (.v (.str [lt W p])) st := by
  refine e2_ok (x := .str [97, 98, 99, 100]) (y := .int (W.idxOf p : Nat)) rfl ?_ (abcd_ix (wd_lt g h).2)
  unfold eTI
  rw [hw, s_bind_ok]
  simp only [s_aCons, hp, s_bind_ok, s_aNil, s_froz_v, s_valsOf, s_valsOf0, s_val_v, Option.bind_some]
  rw [tidx (List.mem_of_mem_take h)]
  rfl
theorem flat_one {α β : Type} (f : α → β) : ∀ xs : List α, (xs.map fun x => [f x]).flatten = xs.map f
  | [] => rfl
  | x :: xs => by rw [List.map_cons, List.flatten_cons, flat_one f xs]; rfl
/-- the string of the letters of words -/
theorem lows_e (g : Good S 2 W) {ps : List (List Nat)} (h : ∀ p ∈ ps, p ∈ W.take 4) (hl : ps.length ≤ 100) {fi : Fi} {fw : Fe} {k : Nat} {env : Eng.Env} (hk : k < env.length) (hi : fi env st = .ok (.seq (sv ps)) st) (hfw : ∀ z, fw ((wipeE env [k]).set k z) st = .ok (.v (.tup (sv W))) st) :
    eM "str" vJoin (eC (.str [])) (aCons (eComp fi (.n k) tYesF (e2 vIx (eC (.str [97, 98, 99, 100])) (eTI fw (aCons (eVar k) aNil))) [k]) aNil) env st = .ok (.v (.str (ps.map (lt W)))) st := by
  have hc := compA (st := st) (xs := ps) (fun p => .str p) (fun p => .str [lt W p]) hi (by omega) (p := .n k) (fe := e2 vIx (eC (.str [97, 98, 99, 100])) (eTI fw (aCons (eVar k) aNil))) (is := [k]) fun p hp => ⟨_, rfl, _, low_e g (h p hp) (hfw _) (eV (gss (by simpa [wipeE] using hk))), rfl⟩
  rw [show (ps.map fun p => Val.str [lt W p]) = (ps.map fun p => [lt W p]).map .str from by rw [List.map_map]; rfl] at hc
  have := join_e hc (by rw [List.length_map]; omega) (by
    rw [flat_one]
    refine sok_of (fun c hc => ?_) (by rw [List.length_map]; omega)
    obtain ⟨p, hp, rfl⟩ := List.mem_map.mp hc
    have := (wd_lt g (h p hp)).2
    unfold lt
    omega)
  rw [flat_one] at this
  exact this
theorem pieces_in_s {x : List Nat} (hl : x.length ≤ 24) (hx : ∀ c ∈ x, c < 1114112) {len : Nat} (h1 : 1 ≤ len) (h2 : len ≤ 16) : m_pieces_in [.v (.str x), .v (.int (len : Nat)), .v (.int 0)] st = .ok (.v (.tup (sv (pcs len x)))) st := by
  have t : m_turned [.v (.str x), .v (.int 0)] st = .ok (.v (.str x)) st := by
    refine call_v (ret_v ?_)
    refine e2_ok (x := .str (x.drop 0)) (y := .str (x.take 0)) ?_ ?_ ?_
    · have := cutD x 0
      simp at this
      simp [this]
    · have := cutT x 0
      simp at this
      simp [this]
    · rw [s_addS]
      simp
      exact sok_of hx (by omega)
  refine call_v (N := 5) (body := b_pieces_in) ((seq_nx (set_v (ec_ok (ar_c (z1 := .v (.str x)) rfl (ar_1 (z1 := .v (.int 0)) rfl)) t))).trans (ret_v ?_))
  show eB vTuple _ [some (.v (.str x)), some (.v (.int (len : Nat))), some (.v (.int 0)), some (.v (.str x)), none] st = _
  rw [s_eB, ar_1 (pcs_comp (i := 3) (k := 4) hl h1 h2 (by
    rw [s_eB, ar_1 (z1 := .v (.str x)) rfl]
    rfl) rfl (by simp) (by decide) rfl fun z => rfl)]
  rfl
/-- what lowered gives -/
def low (W : List (List Nat)) (x : List Nat) : Val := if x.length % 2 = 0 ∧ ∀ p ∈ pcs 2 x, p ∈ W.take 4 then .str ((pcs 2 x).map (lt W)) else .non
theorem pcs_le {len : Nat} {x : List Nat} (h : x.length ≤ 24) : (pcs len x).length ≤ 24 := by unfold pcs; rw [List.length_map, List.length_range]; exact rng_len h
theorem lowered_s (g : Good S 2 W) {x : List Nat} (hl : x.length ≤ 24) (hx : ∀ c ∈ x, c < 1114112) : m_lowered [.v (lw S W), .v (.str x)] st = .ok (.v (low W x)) st := by
  have hp := pcs_le (len := 2) hl
  refine call_v (N := 5) (body := b_lowered) ((seq_nx (set_v (ec_ok (ar_1 (z1 := .v (lw S W)) rfl) (length_in_s g)))).trans ?_)
  have t1 : tV (e2 vNe (e2 vMod (eB vLenX (aCons (eVar 1) (aNil))) (eVar 2)) (eC (.int 0))) [some (.v (lw S W)), some (.v (.str x)), some (.v (.int (2 : Nat))), none, none] st = .ok (!decide (x.length % 2 = 0)) st := by
    have e1 : e2 vMod (eB vLenX (aCons (eVar 1) (aNil))) (eVar 2) [some (.v (lw S W)), some (.v (.str x)), some (.v (.int (2 : Nat))), none, none] st = .ok (.v (.int ((x.length % 2 : Nat) : Int))) st := by
      refine e2_ok (x := .int (x.length : Nat)) (y := .int 2) (by rw [s_eB, ar_1 (z1 := .v (.str x)) rfl]; rfl) rfl ?_
      rw [s_mod, if_pos (by decide)]
      rfl
    refine tv_v (e2_ok e1 (y := .int 0) rfl ?_)
    rw [s_ne]
    show some (SV.v (Val.bl (!(((x.length % 2 : Nat) : Int) == 0)))) = _
    congr 4
    rw [Bool.eq_iff_iff, beq_iff_eq, decide_eq_true_eq]
    omega
  by_cases h2 : x.length % 2 = 0
  · rw [decide_eq_true h2] at t1
    refine (seq_nx ((if_f t1).trans rfl)).trans ((seq_nx (set_v (ec_ok (ar_c (z1 := .v (.str x)) rfl (ar_c (z1 := .v (.int (2 : Nat))) rfl (ar_1 (z1 := .v (.int 0)) rfl))) (pieces_in_s hl hx (by omega) (by omega))))).trans ?_)
    have t2 : tNot (tV (eB vAll (aCons (eComp (iAnyF (eVar 3)) (.n 4) (tYesF) (e2 vIn (eVar 4) (eSl (e2 vIx (eVar 0) (eC (.int 1))) (pNo) (pAt (eB vLenX (aCons (eC (.str [97, 98, 99, 100])) (aNil)))))) [4]) (aNil)))) [some (.v (lw S W)), some (.v (.str x)), some (.v (.int (2 : Nat))), some (.v (.tup (sv (pcs 2 x)))), none] st = .ok (!(pcs 2 x).all fun p => decide (p ∈ W.take 4)) st := by
      refine tn_v (allA (xs := pcs 2 x) (fun p => .str p) (fun p => decide (p ∈ W.take 4)) (any_tup rfl) (by omega) fun p _ => ⟨[some (.v (lw S W)), some (.v (.str x)), some (.v (.int (2 : Nat))), some (.v (.tup (sv (pcs 2 x)))), some (.v (.str p))], rfl, ?_⟩)
      refine e2_ok (x := .str p) (y := .tup (sv (W.take 4))) rfl ?_ ?_
      · rw [s_eSl, e2_ok (x := lw S W) (y := .int 1) (z := .v (.tup (sv W))) rfl rfl (ix1 S W), s_bind_ok]
        have : cutL (sv W) none (some (4 : Int)) = sv (W.take 4) := by
          have := cutT (sv W) 4
          rw [show ((4 : Nat) : Int) = 4 from rfl] at this
          rw [this]
          unfold sv
          rw [List.map_take]
        show outO (some (SV.v (Val.tup (cutL (sv W) none (some (4 : Int)))))) st = _
        rw [this]
        rfl
      · unfold vIn
        rw [show Eng.inB (.str p) (.tup (sv (W.take 4))) = some (decide (p ∈ W.take 4)) from in_str p (W.take 4)]
        rfl
    show sSeq _ _ [some (.v (lw S W)), some (.v (.str x)), some (.v (.int (2 : Nat))), some (.v (.tup (sv (pcs 2 x)))), none] st = _
    by_cases h3 : ∀ p ∈ pcs 2 x, p ∈ W.take 4
    · rw [List.all_eq_true.mpr fun p hp => decide_eq_true (h3 p hp)] at t2
      refine (seq_nx ((if_f t2).trans rfl)).trans (ret_v ?_)
      unfold low
      rw [if_pos ⟨h2, h3⟩]
      exact lows_e (k := 4) g h3 (by omega) (by simp) (any_tup rfl) fun z => e2_ok (x := lw S W) (y := .int 1) rfl rfl (ix1 S W)
    · have : ((pcs 2 x).all fun p => decide (p ∈ W.take 4)) = false := by
        rw [Bool.eq_false_iff]
        exact fun h => h3 fun p hp => of_decide_eq_true (List.all_eq_true.mp h p hp)
      rw [this] at t2
      unfold sSeq
      rw [if_t t2]
      unfold low
      rw [if_neg fun h => h3 h.2]
      rfl
  · rw [decide_eq_false h2] at t1
    show sSeq _ _ [some (.v (lw S W)), some (.v (.str x)), some (.v (.int (2 : Nat))), none, none] st = _
    unfold sSeq
    rw [if_t t1]
    unfold low
    rw [if_neg fun h => h2 h.1]
    rfl
end
end K77

namespace K77
open PySem PySem.Spec PyProof.Rows L2 Eng
section
variable {st : Sto} {X Y len len2 : Nat} {r r1 r2 : List (List Nat)} {env : Eng.Env}
def exL : Ex := ⟨"InvalidList", none⟩
theorem call_x {N : Nat} {body : Nat → Fs} {zs : List SV} {st : Sto} {e : Ex} {env : Eng.Env} (h : body st.length (zs.map some ++ List.replicate (N - zs.length) none) st = .exc e env st) : callF N 0 body zs st = .exc e st := by
  unfold callF
  simp only [List.replicate_zero, List.append_nil]
  rw [h]
  simp
theorem seq_x {f g : Fs} {env env' : Eng.Env} {e : Ex} (h : f env st = .exc e env' st) : sSeq f g env st = .exc e env' st := by unfold sSeq; rw [h]; rfl
theorem if_t {t : Ft} {f g : Fs} {env : Eng.Env} (h : t env st = .ok true st) : sIf t f g env st = f env st := by unfold sIf; rw [h]; rfl
theorem ex_n {fa : Fe} {env : Eng.Env} {z : SV} (h : fa env st = .ok z st) : sExpr fa env st = .nx env st := by unfold sExpr; rw [h]; rfl
theorem ex_x {fa : Fe} {env : Eng.Env} {e : Ex} (h : fa env st = .exc e st) : sExpr fa env st = .exc e env st := by unfold sExpr; rw [h]; rfl
theorem ix0 {env : Eng.Env} {i : Nat} (h : env[i]? = some (some (.v (lw X r)))) : e2 vIx (eVar i) (eC (.int 0)) env st = .ok (.v (.int (X : Nat))) st := by
  refine e2_ok (x := lw X r) (y := .int 0) (eV h) rfl ?_
  show (atI [Val.int (X : Nat), Val.tup (sv r)] 0).map SV.v = _
  rw [at0]; rfl
theorem row1 {env : Eng.Env} {i : Nat} (h : env[i]? = some (some (.v (lw X r)))) : e2 vIx (eVar i) (eC (.int 1)) env st = .ok (.v (.tup (sv r))) st := e2_ok (x := lw X r) (y := .int 1) (eV h) rfl (ix1 X r)
theorem len1 {env : Eng.Env} {i : Nat} (h : env[i]? = some (some (.v (lw X r)))) : eB vLenX (aCons (e2 vIx (eVar i) (eC (.int 1))) aNil) env st = .ok (.v (.int (r.length : Nat))) st := by
  rw [s_eB, ar_1 (row1 h)]
  show outO (some (SV.v (Val.int ((sv r).length : Nat)))) st = _
  rw [sv_len]
  rfl
theorem need_list_s (g : Good X len r) : m_need_list [.v (lw X r)] st = .ok (.v .non) st := by
  refine call_nx (env := [some (.v (lw X r))]) ((if_f (st1 := st) ?_).trans rfl)
  exact tn_v (b := true) (ec_1 rfl (fits_list_s g))
theorem ne_int (a b : Nat) : vNe (.int (a : Nat)) (.int (b : Nat)) = some (.v (.bl (!decide (a = b)))) := by
  rw [s_ne, if_pos (by simp [okD])]
  show some (SV.v (.bl (!((a : Int) == (b : Int))))) = _
  have : ((a : Int) == (b : Int)) = decide (a = b) := by
    rw [Bool.eq_iff_iff, beq_iff_eq, decide_eq_true_eq]
    omega
  rw [this]
theorem need_two_s (g1 : Good X len r1) (g2 : Good Y len2 r2) : m_need_two [.v (lw X r1), .v (lw Y r2)] st = .ok (.v .non) st :=
  call_nx (env := [some (.v (lw X r1)), some (.v (lw Y r2))]) ((seq_nx (env1 := [some (.v (lw X r1)), some (.v (lw Y r2))]) (st1 := st) (ex_n (ec_1 (fa := eVar 0) rfl (need_list_s g1)))).trans (ex_n (ec_1 (fa := eVar 1) rfl (need_list_s g2))))
theorem set_fl {n i : Nat} {fa : Fe} {env : Eng.Env} {xs : List Val} (h : fa env st = .ok (.fl xs) st) : sSet .f n [] i fa env st = .nx (env.set i (some (.v (.lst xs)))) st := set_f h rfl fun _ e => by cases e
theorem vMul_n (a b : Nat) (h : a < 4294967296) : vMulN (.int (a : Nat)) (.int (b : Nat)) = some (.v (.int ((a * b : Nat) : Int))) := by
  rw [mul_okN (mul_small (by omega) (by omega))]
  push_cast
  rfl
theorem need_two_e {l : List (Option SV)} (g1 : Good X len r1) (g2 : Good Y len2 r2) : sExpr (eCall m_need_two (aCons (eVar 0) (aCons (eVar 1) aNil))) (some (.v (lw X r1)) :: some (.v (lw Y r2)) :: l) st = .nx (some (.v (lw X r1)) :: some (.v (lw Y r2)) :: l) st :=
  ex_n (ec_ok (ar_c (z1 := .v (lw X r1)) rfl (ar_1 (z1 := .v (lw Y r2)) rfl)) (need_two_s g1 g2))
theorem cuts_e {env : Eng.Env} {i k : Nat} {fe : Fe} (f : List Nat → List Nat) (hi : env[i]? = some (some (.v (lw X r)))) (h40 : r.length ≤ 1000) (hf : ∀ w ∈ r, fe ((wipeE env [k]).set k (some (.v (.str w)))) st = .ok (.v (.str (f w))) st) :
    eComp (iAnyF (e2 vIx (eVar i) (eC (.int 1)))) (.n k) tYesF fe [k] env st = .ok (.fl (sv (r.map f))) st := by
  rw [compA (xs := r) (fun w => .str w) (fun w => .str (f w)) (any_tup (row1 hi)) (by omega) fun w hw => ⟨_, rfl, _, hf w hw, rfl⟩]
  unfold sv
  rw [List.map_map]
  rfl
theorem take_e {env : Eng.Env} {k n : Nat} {fn : Fe} {w : List Nat} (hk : eVar k env st = .ok (.v (.str w)) st) (hn : fn env st = .ok (.v (.int (n : Nat))) st) : eSl (eVar k) pNo (pAt fn) env st = .ok (.v (.str (w.take n))) st := by
  rw [s_eSl, hk]
  simp only [s_bind_ok, s_pAt, hn, s_pInt, s_val_v, Option.bind_some, s_outO, pNo]
  show outO (some (SV.v (Val.str (cutL w none (some (n : Int)))))) st = _
  rw [cutT]
  rfl
theorem drop_e {env : Eng.Env} {k n : Nat} {fn : Fe} {w : List Nat} (hk : eVar k env st = .ok (.v (.str w)) st) (hn : fn env st = .ok (.v (.int (n : Nat))) st) : eSl (eVar k) (pAt fn) pNo env st = .ok (.v (.str (w.drop n))) st := by
  rw [s_eSl, hk]
  simp only [s_bind_ok, s_pAt, hn, s_pInt, s_val_v, Option.bind_some, s_outO, pNo]
  show outO (some (SV.v (Val.str (cutL w (some (n : Int)) none)))) st = _
  rw [cutD]
  rfl
theorem takes_e {env : Eng.Env} {i k n : Nat} {fn : Fe} (hi : env[i]? = some (some (.v (lw X r)))) (h40 : r.length ≤ 1000) (hk : k < env.length) (hn : ∀ z, fn ((wipeE env [k]).set k z) st = .ok (.v (.int (n : Nat))) st) :
    eComp (iAnyF (e2 vIx (eVar i) (eC (.int 1)))) (.n k) tYesF (eSl (eVar k) pNo (pAt fn)) [k] env st = .ok (.fl (sv (r.map (List.take n)))) st :=
  cuts_e _ hi h40 fun w _ => take_e (eV (gss (by simpa [wipeE] using hk))) (hn _)
theorem drops_e {env : Eng.Env} {i k n : Nat} {fn : Fe} (hi : env[i]? = some (some (.v (lw X r)))) (h40 : r.length ≤ 1000) (hk : k < env.length) (hn : ∀ z, fn ((wipeE env [k]).set k z) st = .ok (.v (.int (n : Nat))) st) :
    eComp (iAnyF (e2 vIx (eVar i) (eC (.int 1)))) (.n k) tYesF (eSl (eVar k) (pAt fn) pNo) [k] env st = .ok (.fl (sv (r.map (List.drop n)))) st :=
  cuts_e _ hi h40 fun w _ => drop_e (eV (gss (by simpa [wipeE] using hk))) (hn _)
theorem cut_good {n : Nat} {f : List Nat → List Nat} (g : Good X len r) (n2 : 2 ≤ n) (n4 : n ≤ 4) (hl : ∀ w ∈ r, (f w).length = n) (hs : ∀ w ∈ r, ∀ c ∈ f w, c ∈ w) : Good X n (T (r.map f)) := by
  refine good_T g.l1 g.l4 n2 n4 (by simp [g.ne]) (Nat.le_trans (T_len_le _) (by rw [List.length_map]; exact g.r40)) (fun w h => ?_) fun w h => ?_
  · obtain ⟨q, hq, rfl⟩ := List.mem_map.mp h
    exact hl q hq
  · obtain ⟨q, hq, rfl⟩ := List.mem_map.mp h
    exact okL_sub (hs q hq) (g.ok q hq)
theorem take_good {n : Nat} (g : Good X len r) (n2 : 2 ≤ n) (nl : n ≤ len) : Good X n (T (r.map (List.take n))) := by
  have := g.n4
  exact cut_good g n2 (by omega) (fun w hw => by rw [List.length_take, g.len w hw]; omega) fun w _ c hc => List.mem_of_mem_take hc
theorem drop_good {n k : Nat} (g : Good X len r) (n2 : 2 ≤ n) (e : k + n = len) : Good X n (T (r.map (List.drop k))) := by
  have := g.n4
  exact cut_good g n2 (by omega) (fun w hw => by rw [List.length_drop, g.len w hw]; omega) fun w _ c hc => List.mem_of_mem_drop hc
theorem eq_int (a b : Nat) : vEq (.int (a : Nat)) (.int (b : Nat)) = some (.v (.bl (decide (a = b)))) := by
  rw [s_eq, if_pos (by simp [okD])]
  show some (SV.v (.bl ((a : Int) == (b : Int)))) = _
  have : ((a : Int) == (b : Int)) = decide (a = b) := by
    rw [Bool.eq_iff_iff, beq_iff_eq, decide_eq_true_eq]
    omega
  rw [this]
theorem need_e {l : List (Option SV)} (g : Good X len r) : sExpr (eCall m_need_list (aCons (eVar 0) aNil)) (some (.v (lw X r)) :: l) st = .nx (some (.v (lw X r)) :: l) st :=
  ex_n (ec_1 (fa := eVar 0) rfl (need_list_s g))
theorem pds_get : ∀ {xs : List Val} {k i : Nat} {x : Val}, pds xs k = true → xs[i]? = some x → pd x k = true
  | [], _, _, _, _, e => by simp at e
  | y :: ys, k, 0, x, h, e => by
    simp only [pds, Bool.and_eq_true] at h
    simp at e
    exact e ▸ h.1
  | y :: ys, k, i + 1, x, h, e => by
    simp only [pds, Bool.and_eq_true] at h
    exact pds_get h.2 (by simpa using e)
theorem same_s : ∀ (k : Nat) (x : Val), pd x k = true → m__law_same k [.v x, .v x] st = .ok (.v (.bl true)) st
  | 0, x, h => by cases x <;> simp [pd] at h
  | k + 1, .non, h => by
    refine call_v (stF (by simp) (stT (by simp) (ret_v (by simp))))
  | k + 1, .bl b, h => by
    refine call_v (stF (by simp) (stF (by simp) (stT (by simp) (ret_v (by cases b <;> simp)))))
  | k + 1, .int i, h => by
    refine call_v (stF (by simp) (stF (by simp) (stF (by simp) (stT (by simp) (ret_v (by simp [okD, eqB]))))))
  | k + 1, .str s, h => by
    refine call_v (stF (by simp) (stF (by simp) (stF (by simp) (stF (by simp) (ret_v (by simp [okD, eqB]))))))
  | k + 1, .tup xs, h => by
    have h2 : xs.length ≤ 1000000 ∧ pds xs k = true := by simpa [pd] using h
    refine call_v (stT (by simp) (stF (by simp [okD, eqB]) (ret_v ?_)))
    refine (all_comp (fun _ => true) (xs := rngI 0 xs.length) ?_ ?_ fun x hx => ?_).trans (by simp)
    · simp [iRng1F, small]; omega
    · simp [rngI]; omega
    · obtain ⟨j, hj, rfl⟩ := List.mem_map.mp hx
      have hj2 : j < xs.length := by simpa using hj
      have e : atI xs (0 + (j : Int)) = some xs[j] := by
        rw [Int.zero_add]
        exact atI_nat (List.getElem?_eq_getElem hj2)
      refine ⟨_, rfl, ?_⟩
      refine ec_ok (ar_c (z1 := .v xs[j]) ?_ (ar_1 (z1 := .v xs[j]) ?_)) (same_s k xs[j] (pds_get h2.2 (List.getElem?_eq_getElem hj2)))
      · refine e2_ok (x := .tup xs) (y := .int (0 + j)) rfl rfl ?_
        simp only [s_ixT, e, Option.map_some]
      · refine e2_ok (x := .tup xs) (y := .int (0 + j)) rfl rfl ?_
        simp only [s_ixT, e, Option.map_some]
theorem same_e {fa fb : Fe} {env : Eng.Env} {x : Val} (ha : fa env st = .ok (.v x) st) (hb : fb env st = .ok (.v x) st) (hx : pd x 6 = true) : tNot (tV (eCall (m__law_same 6) (aCons fa (aCons fb aNil)))) env st = .ok false st := by
  unfold Eng.tNot
  rw [tv_v (ec_ok (ar_c ha (ar_1 hb)) (same_s 6 x hx)), s_bind_ok]
  rfl

theorem pds_sv {n : Nat} : ∀ ws : List (List Nat), pds (sv ws) (n + 1) = true
  | [] => by simp [sv, pds]
  | w :: ws => by
    have := pds_sv (n := n) ws
    show (pd (.str w) (n + 1) && pds (sv ws) (n + 1)) = true
    rw [this]
    simp [pd]
theorem pd_lw (X : Nat) (ws : List (List Nat)) (h : ws.length ≤ 1000) (n : Nat) : pd (lw X ws) (n + 3) = true := by
  show (decide ([Val.int X, Val.tup (sv ws)].length ≤ 1000000) && (pd (.int X) (n + 2) && ((decide ((sv ws).length ≤ 1000000) && pds (sv ws) (n + 1)) && true))) = true
  have hl : (sv ws).length ≤ 1000000 := by rw [sv_len]; omega
  rw [pds_sv, decide_eq_true hl]
  simp [pd]
theorem pds_c {x : Val} {xs : List Val} {k : Nat} (h1 : pd x k = true) (h2 : pds xs k = true) : pds (x :: xs) k = true := by
  show (pd x k && pds xs k) = true
  rw [h1, h2]
  rfl
theorem pd_t {xs : List Val} {k : Nat} (h1 : xs.length ≤ 1000) (h2 : pds xs k = true) : pd (.tup xs) (k + 1) = true := by
  show (decide (xs.length ≤ 1000000) && pds xs k) = true
  rw [h2, decide_eq_true (by omega)]
  rfl
theorem ar_st {fa : Fe} {fr : Eng.Env → Sto → Rv (List SV)} {z1 : SV} {zs : List SV} {st1 st2 : Sto} (h1 : fa env st = .ok z1 st1) (h2 : fr env st1 = .ok zs st2) : aCons fa fr env st = .ok (z1.froz :: zs) st2 := by
  rw [s_aCons, h1, s_bind_ok, h2, s_bind_ok]
theorem tup2 {fa fb : Fe} {x y : Val} (ha : fa env st = .ok (.v x) st) (hb : fb env st = .ok (.v y) st) : eTup (aCons fa (aCons fb aNil)) env st = .ok (.v (.tup [x, y])) st := by
  rw [s_eTup, ar_c ha (ar_1 hb)]
  rfl
theorem ref_ok {fe : Fe} {z : SV} (h : fe env st = .ok z st) : eRef (mtOne "InvalidList") fe env st = .ok (.v (.bl false)) st := by unfold eRef; rw [h]
theorem ref_x {fe : Fe} (h : fe env st = .exc exL st) : eRef (mtOne "InvalidList") fe env st = .ok (.v (.bl true)) st := by
  unfold eRef
  rw [h]
  rfl
theorem lenset_e {fa : Fe} {x : Val} {ws : List (List Nat)} (hx : Row ws x) (h : fa env st = .ok (.v x) st) (hl : ws.length < 1000) : eB vLenSet (aCons fa aNil) env st = .ok (.v (.int ((T ws).length : Nat))) st := by
  rw [s_eB, ar_1 h]
  have e : txts x = some ws := by cases hx <;> exact Eng.strs_map ws
  have e2 : vLenSet [x] = some (.v (.int ((T ws).length : Nat))) := by
    show (match txts x with | some ys => if ys.length < 1000 then some (SV.v (.int (ddS ys).length)) else none | none => none) = _
    rw [e]
    show (if ws.length < 1000 then some (SV.v (.int (ddS ws).length)) else none) = _
    rw [if_pos hl, show (T ws).length = (ddS ws).length from (sortS_perm (ddS ws)).length_eq]
  show outO ((valsOf st [SV.v x]).bind vLenSet) st = _
  simp only [s_valsOf, s_val_v, s_valsOf0, Option.bind_some, e2]
  rfl
theorem eq_sv (a b : List (List Nat)) : vEq (.lst (sv a)) (.lst (sv b)) = some (.v (.bl (decide (a = b)))) := by
  rw [s_eq, if_pos (by
    show (okDs (sv a) 31 && okDs (sv b) 31) = true
    rw [okDs_sv, okDs_sv]
    rfl)]
  show some (SV.v (.bl (eqBs (sv a) (sv b)))) = _
  rw [eqBs_sv]
def cat2 : Val → Val → Val
  | .str a, .str b => .str (a ++ b)
  | _, _ => .non
end
end K77

namespace K77
open PySem PySem.Spec PyProof.Rows L2 Eng
section
variable {st : Sto} {S L : Nat} {W rows ws : List (List Nat)} {env : Eng.Env}
/-! ### over_list -/
def ovr (W rows : List (List Nat)) : List (List Nat) := T (rows.map (lift W))
theorem ovr_good (go : Good L 2 rows) (g : Good S 2 W) (hL : L ≤ W.length) : Good S 4 (ovr W rows) := by
  refine good_T g.l1 g.l4 (by omega) (by omega) (by simp [go.ne]) (Nat.le_trans (T_len_le _) (by rw [List.length_map]; exact go.r40)) (fun w h => ?_) fun w h => ?_
  · obtain ⟨q, hq, rfl⟩ := List.mem_map.mp h
    rw [lift_len g hL (go.ok q hq), go.len q hq]
  · obtain ⟨q, hq, rfl⟩ := List.mem_map.mp h
    exact lift_ok g hL (go.ok q hq)
theorem ovr_len (go : Good L 2 rows) (g : Good S 2 W) (hL : L ≤ W.length) : (ovr W rows).length = rows.length := by
  have nd : (rows.map (lift W)).Nodup := by
    have h1 := up_nodup go.up
    unfold List.Nodup at h1 ⊢
    rw [List.pairwise_map]
    exact h1.imp_of_mem fun {a b} ha hb hab e => hab (lift_inj g hL (go.ok a ha) (go.ok b hb) e)
  unfold ovr
  rw [← T_of nd fun x => Iff.rfl, (sortS_perm _).length_eq, List.length_map]
theorem over_t (go : Good L 2 rows) (g : Good S 2 W) (l : List (Option SV)) : tOr (tV (e2 vGt (e2 vMulN (eCall m_length_in (aCons (eVar 0) (aNil))) (eCall m_length_in (aCons (eVar 1) (aNil)))) (eC (.int 4)))) (tV (e2 vGt (e2 vIx (eVar 0) (eC (.int 0))) (eB vLenX (aCons (e2 vIx (eVar 1) (eC (.int 1))) (aNil))))) (some (.v (lw L rows)) :: some (.v (lw S W)) :: l) st = .ok (decide (W.length < L)) st := by
  have t1 : tV (e2 vGt (e2 vMulN (eCall m_length_in (aCons (eVar 0) (aNil))) (eCall m_length_in (aCons (eVar 1) (aNil)))) (eC (.int 4))) (some (.v (lw L rows)) :: some (.v (lw S W)) :: l) st = .ok false st := by
    refine tv_v (e2_ok (x := .int ((2 * 2 : Nat) : Int)) (y := .int 4) (e2_ok (x := .int (2 : Nat)) (y := .int (2 : Nat)) (ec_1 rfl (length_in_s go)) (ec_1 rfl (length_in_s g)) (vMul_n 2 2 (by omega))) rfl rfl)
  have t2 : tV (e2 vGt (e2 vIx (eVar 0) (eC (.int 0))) (eB vLenX (aCons (e2 vIx (eVar 1) (eC (.int 1))) (aNil)))) (some (.v (lw L rows)) :: some (.v (lw S W)) :: l) st = .ok (decide (W.length < L)) st := by
    refine tv_v (e2_ok (x := .int (L : Nat)) (y := .int (W.length : Nat)) (ix0 (i := 0) rfl) (len1 (i := 1) rfl) ?_)
    rw [s_gt]
    congr 3
    rw [decide_eq_decide]
    omega
  unfold Eng.tOr
  rw [t1, s_bind_ok]
  exact t2
theorem need_over_s (go : Good L 2 rows) (g : Good S 2 W) (hL : L ≤ W.length) : m_need_over [.v (lw L rows), .v (lw S W)] st = .ok (.v .non) st := by
  have t := over_t (st := st) go g []
  rw [decide_eq_false (by omega)] at t
  exact call_nx (env := [some (.v (lw L rows)), some (.v (lw S W))]) ((seq_nx (need_two_e (l := []) go g)).trans ((if_f t).trans rfl))
theorem need_over_x (go : Good L 2 rows) (g : Good S 2 W) (hL : ¬ L ≤ W.length) : m_need_over [.v (lw L rows), .v (lw S W)] st = .exc exL st := by
  have t := over_t (st := st) go g []
  rw [decide_eq_true (by omega)] at t
  exact call_x (N := 2) (body := b_need_over) ((seq_nx (need_two_e (l := []) go g)).trans ((if_t t).trans rfl))
theorem over_s (go : Good L 2 rows) (g : Good S 2 W) (hL : L ≤ W.length) : m_over_list [.v (lw L rows), .v (lw S W)] st = .ok (.v (lw S (ovr W rows))) st := by
  have h40 := go.r40
  have c := cuts_e (st := st) (env := [some (.v (lw L rows)), some (.v (lw S W)), none]) (i := 0) (k := 2) (fe := eCall m_lifted (aCons (eVar 1) (aCons (eVar 2) (aNil)))) (lift W) rfl (by omega) fun w hw =>
    ec_ok (ar_c (z1 := .v (lw S W)) rfl (ar_1 (z1 := .v (.str w)) rfl)) (lifted_s g hL (go.ok w hw) (by rw [go.len w hw]; omega))
  exact call_v (N := 3) (body := b_over_list) ((seq_nx (ex_n (ec_ok (ar_c (z1 := .v (lw L rows)) rfl (ar_1 (z1 := .v (lw S W)) rfl)) (need_over_s go g hL)))).trans (ret_v (ec_ok (ar_c (ix0 (i := 1) rfl) (ar_1 c)) (made_s .lst (ovr_good go g hL) (by rw [List.length_map]; omega)))))
theorem over_x (go : Good L 2 rows) (g : Good S 2 W) (hL : ¬ L ≤ W.length) : m_over_list [.v (lw L rows), .v (lw S W)] st = .exc exL st :=
  call_x (N := 3) (body := b_over_list) (seq_x (ex_x (ec_ok (ar_c (z1 := .v (lw L rows)) rfl (ar_1 (z1 := .v (lw S W)) rfl)) (need_over_x go g hL))))
/-! ### words taken apart -/
theorem pcs4 {x : List Nat} (h : x.length = 4) : pcs 2 x = [x.take 2, x.drop 2] := by
  have e : x = [x.take 2, x.drop 2].flatten := by simp
  have := pcs_flat (len := 2) (by omega) [x.take 2, x.drop 2] (by
    intro w hw
    simp only [List.mem_cons, List.not_mem_nil, or_false] at hw
    rcases hw with rfl | rfl
    · rw [List.length_take]; omega
    · rw [List.length_drop]; omega)
  rw [← e] at this
  exact this
/-- a word falls into words of the list that letters are -/
def fall (W : List (List Nat)) (x : List Nat) : Prop := x.take 2 ∈ W.take 4 ∧ x.drop 2 ∈ W.take 4
instance (W : List (List Nat)) (x : List Nat) : Decidable (fall W x) := inferInstanceAs (Decidable (_ ∧ _))
def lowW (W : List (List Nat)) (x : List Nat) : List Nat := [lt W (x.take 2), lt W (x.drop 2)]
theorem low4 {x : List Nat} (h : x.length = 4) : low W x = if fall W x then .str (lowW W x) else .non := by
  unfold low
  rw [pcs4 h, h]
  by_cases c : fall W x
  · rw [if_pos c, if_pos ⟨rfl, by simpa [fall] using c⟩]
    rfl
  · rw [if_neg c, if_neg]
    rintro ⟨_, h2⟩
    exact c (by simpa [fall] using h2)
theorem lift_low (g : Good S 2 W) {x : List Nat} (h : fall W x) : lift W (lowW W x) = x := by
  unfold lift lowW
  simp only [List.map_cons, List.map_nil, (wd_lt g h.1).1, (wd_lt g h.2).1, List.flatten_cons, List.flatten_nil, List.append_nil, List.take_append_drop]
theorem low_ok (g : Good S 2 W) {x : List Nat} (h : fall W x) {M : Nat} (hM : W.length ≤ M ∨ 4 ≤ M) : okL M (lowW W x) = true := by
  have a1 := (wd_lt g h.1).2
  have a2 := (wd_lt g h.2).2
  have b1 : W.idxOf (x.take 2) < W.length := List.idxOf_lt_length_iff.mpr (List.mem_of_mem_take h.1)
  have b2 : W.idxOf (x.drop 2) < W.length := List.idxOf_lt_length_iff.mpr (List.mem_of_mem_take h.2)
  unfold okL lowW lt
  simp only [List.all_cons, List.all_nil, Bool.and_true, Bool.and_eq_true, decide_eq_true_eq]
  exact ⟨abcd_mem a1 (by omega), abcd_mem a2 (by omega)⟩
theorem low_lift (g : Good S 2 W) (hL : L ≤ W.length) {w : List Nat} (hw : okL L w = true) (h2 : w.length = 2) : fall W (lift W w) ∧ lowW W (lift W w) = w := by
  obtain ⟨a, b, rfl⟩ : ∃ a b, w = [a, b] := by
    match w, h2 with
    | [a, b], _ => exact ⟨a, b, rfl⟩
  obtain ⟨i, i4, iL, rfl⟩ := abcd_c hw (c := a) (by simp)
  obtain ⟨j, j4, jL, rfl⟩ := abcd_c hw (c := b) (by simp)
  obtain ⟨p, p1, p2, p3⟩ := wd_get g (i := i) (by omega)
  obtain ⟨q, q1, q2, q3⟩ := wd_get g (i := j) (by omega)
  have e : lift W [97 + i, 97 + j] = p ++ q := by
    unfold lift
    simp [p2, q2]
  have lp := g.len p p3
  have et : (p ++ q).take 2 = p := by rw [← lp, List.take_left]
  have ed : (p ++ q).drop 2 = q := by rw [← lp, List.drop_left]
  have mt : ∀ {k : Nat} {r : List Nat}, k < 4 → W[k]? = some r → r ∈ W.take 4 := fun {k r} hk hr => List.mem_of_getElem? (i := k) (by rw [List.getElem?_take, if_pos hk]; exact hr)
  have l1 := lt_wd g (i := i) (by omega)
  have l2 := lt_wd g (i := j) (by omega)
  rw [p2] at l1
  rw [q2] at l2
  unfold fall lowW
  rw [e, et, ed, l1, l2]
  exact ⟨⟨mt i4 p1, mt j4 q1⟩, rfl⟩
end
end K77

namespace K77
open PySem PySem.Spec PyProof.Rows L2 Eng
section
variable {st : Sto} {S L : Nat} {W rows ws : List (List Nat)} {env : Eng.Env}
/-! ### outer_of -/
theorem okDs_all {α : Type} (f : α → Val) (n : Nat) : ∀ ps : List α, (∀ a ∈ ps, okD (f a) n = true) → okDs (ps.map f) n = true
  | [], _ => by simp [okDs]
  | p :: ps, h => by
    rw [List.map_cons]
    simp [okDs, h p (by simp), okDs_all f n ps fun a ha => h a (by simp [ha])]
theorem none_in (g : Good S 4 ws) : vIn .non (.lst (ws.map (low W))) = some (.v (.bl (!decide (∀ x ∈ ws, fall W x)))) := by
  have hl : ∀ x ∈ ws, low W x = if fall W x then .str (lowW W x) else .non := fun x hx => low4 (g.len x hx)
  have hk : okDs (ws.map (low W)) 31 = true := okDs_all _ _ _ fun x hx => by
    rw [hl x hx]
    split <;> simp [okD]
  have hb : (ws.map (low W)).any (fun y => eqB y .non) = !decide (∀ x ∈ ws, fall W x) := by
    rw [Bool.eq_iff_iff, List.any_eq_true, Bool.not_eq_true', decide_eq_false_iff_not]
    constructor
    · rintro ⟨y, hy, e⟩ hall
      obtain ⟨x, hx, rfl⟩ := List.mem_map.mp hy
      rw [hl x hx, if_pos (hall x hx)] at e
      simp [eqB] at e
    · intro h
      apply Classical.byContradiction
      intro c
      refine h fun x hx => ?_
      apply Classical.byContradiction
      intro nf
      refine c ⟨low W x, List.mem_map.mpr ⟨x, hx, rfl⟩, ?_⟩
      rw [hl x hx, if_neg nf]
      rfl
  unfold vIn
  have : Eng.inB .non (.lst (ws.map (low W))) = some ((ws.map (low W)).any fun y => eqB y .non) := by
    show (if (okD .non 32 && okDs (ws.map (low W)) 31) = true then some ((ws.map (low W)).any fun y => eqB y .non) else none) = _
    rw [hk]
    rfl
  rw [this, hb]
  rfl
/-- how far the letters go -/
def topL (xs : List (List Nat)) : Nat := (xs.flatMap fun w => w.map fun c => c - 96).foldl max 0
theorem foldl_max : ∀ (ns : List Nat) (a : Nat), (∀ n ∈ ns, n ≤ ns.foldl max a) ∧ a ≤ ns.foldl max a ∧ (ns.foldl max a = a ∨ ns.foldl max a ∈ ns)
  | [], a => ⟨fun n h => (by cases h), Nat.le_refl _, .inl rfl⟩
  | n :: ns, a => by
    obtain ⟨h1, h2, h3⟩ := foldl_max ns (max a n)
    rw [List.foldl_cons]
    refine ⟨fun m hm => ?_, by omega, ?_⟩
    · rcases List.mem_cons.mp hm with rfl | hm
      · omega
      · exact h1 m hm
    · rcases h3 with h3 | h3
      · rw [h3]
        rcases Nat.le_total a n with h | h
        · exact .inr (by rw [Nat.max_eq_right h]; exact List.mem_cons_self)
        · exact .inl (Nat.max_eq_left h)
      · exact .inr (List.mem_cons_of_mem _ h3)
theorem topL_spec {xs : List (List Nat)} (hne : ∃ w ∈ xs, w ≠ []) (h : ∀ w ∈ xs, ∀ c ∈ w, ∃ i, i < 4 ∧ c = 97 + i) : 1 ≤ topL xs ∧ topL xs ≤ 4 ∧ (∀ w ∈ xs, okL (topL xs) w = true) ∧ ∃ w ∈ xs, ∃ c ∈ w, c = 96 + topL xs := by
  obtain ⟨h1, _, h3⟩ := foldl_max (xs.flatMap fun w => w.map fun c => c - 96) 0
  have hin : ∀ w ∈ xs, ∀ c ∈ w, c - 96 ≤ topL xs := fun w hw c hc => h1 _ (List.mem_flatMap.mpr ⟨w, hw, List.mem_map.mpr ⟨c, hc, rfl⟩⟩)
  obtain ⟨w0, hw0, hn0⟩ := hne
  obtain ⟨c0, hc0⟩ := List.exists_mem_of_ne_nil _ hn0
  obtain ⟨i0, _, e0⟩ := h w0 hw0 c0 hc0
  have p1 : 1 ≤ topL xs := by have := hin w0 hw0 c0 hc0; omega
  have ex : ∃ w ∈ xs, ∃ c ∈ w, c = 96 + topL xs := by
    rcases h3 with h3 | h3
    · have : topL xs = 0 := h3
      omega
    · obtain ⟨w, hw, hm⟩ := List.mem_flatMap.mp h3
      obtain ⟨c, hc, e⟩ := List.mem_map.mp hm
      obtain ⟨i, _, rfl⟩ := h w hw c hc
      refine ⟨w, hw, _, hc, ?_⟩
      have : topL xs = 97 + i - 96 := e.symm
      omega
  obtain ⟨w1, hw1, c1, hc1, e1⟩ := ex
  obtain ⟨i1, hi1, e2⟩ := h w1 hw1 c1 hc1
  refine ⟨p1, by omega, fun w hw => ?_, ⟨w1, hw1, c1, hc1, e1⟩⟩
  unfold okL
  refine List.all_eq_true.mpr fun c hc => decide_eq_true ?_
  obtain ⟨i, hi, rfl⟩ := h w hw c hc
  have := hin w hw _ hc
  exact abcd_mem hi (by omega)
theorem low_let (g : Good S 2 W) {x : List Nat} (h : fall W x) : ∀ c ∈ lowW W x, ∃ i, i < 4 ∧ i < W.length ∧ c = 97 + i := by
  have a1 := (wd_lt g h.1).2
  have a2 := (wd_lt g h.2).2
  have b1 : W.idxOf (x.take 2) < W.length := List.idxOf_lt_length_iff.mpr (List.mem_of_mem_take h.1)
  have b2 : W.idxOf (x.drop 2) < W.length := List.idxOf_lt_length_iff.mpr (List.mem_of_mem_take h.2)
  intro c hc
  unfold lowW lt at hc
  simp only [List.mem_cons, List.not_mem_nil, or_false] at hc
  rcases hc with rfl | rfl
  · exact ⟨_, a1, b1, rfl⟩
  · exact ⟨_, a2, b2, rfl⟩
def lows (W ws : List (List Nat)) : List (List Nat) := ws.map (lowW W)
theorem lows_top (g : Good S 2 W) (gw : Good S 4 ws) (h : ∀ x ∈ ws, fall W x) : Good (topL (lows W ws)) 2 (T (lows W ws)) ∧ topL (lows W ws) ≤ W.length ∧ ∃ w ∈ lows W ws, ∃ c ∈ w, c = 96 + topL (lows W ws) := by
  obtain ⟨x0, hx0⟩ := List.exists_mem_of_ne_nil _ gw.ne
  obtain ⟨t1, t2, t3, w1, hw1, c1, hc1, e1⟩ := topL_spec (xs := lows W ws) ⟨lowW W x0, List.mem_map.mpr ⟨x0, hx0, rfl⟩, by simp [lowW]⟩ fun w hw c hc => by
    obtain ⟨x, hx, rfl⟩ := List.mem_map.mp hw
    obtain ⟨i, h4, _, e⟩ := low_let g (h x hx) c hc
    exact ⟨i, h4, e⟩
  refine ⟨good_T t1 t2 (by omega) (by omega) (by unfold lows; simp [gw.ne]) (Nat.le_trans (T_len_le _) (by unfold lows; rw [List.length_map]; exact gw.r40)) (fun w hw => ?_) t3, ?_, w1, hw1, c1, hc1, e1⟩
  · obtain ⟨x, hx, rfl⟩ := List.mem_map.mp hw
    rfl
  · obtain ⟨x, hx, rfl⟩ := List.mem_map.mp hw1
    obtain ⟨i, _, hW, e⟩ := low_let g (h x hx) c1 hc1
    omega
theorem sidx_c {c : Nat} (h : ∃ i, i < 4 ∧ c = 97 + i) : vSIndex (.str [97, 98, 99, 100]) [.str [c]] = some (.v (.int ((c - 97 : Nat) : Int))) := by
  obtain ⟨i, hi, rfl⟩ := h
  rw [sidx hi, Nat.add_sub_cancel_left]
theorem sidx_e {k : Nat} {c : Nat} (hk : env[k]? = some (some (.v (.str [c])))) (h : ∃ i, i < 4 ∧ c = 97 + i) : eM "str" vSIndex (eC (.str [97, 98, 99, 100])) (aCons (eVar k) aNil) env st = .ok (.v (.int ((c - 97 : Nat) : Int))) st := by
  rw [s_eM, s_eC]
  simp only [s_bind_ok, s_val_v, s_rcv_str, if_true, s_aCons, eV hk, s_aNil, s_froz_v, s_valsOf, s_valsOf0, Option.bind_some]
  rw [sidx_c h]
  rfl
end
end K77

namespace K77
open PySem PySem.Spec PyProof.Rows L2 Eng
section
variable {st : Sto} {S L : Nat} {W rows ws : List (List Nat)} {env : Eng.Env}
def letsOf : Val → List Val
  | .str w => w.map fun c => .str [c]
  | _ => []
def ixOf : Val → Val → Val
  | _, .str [c] => .int ((c - 97 : Nat) : Int)
  | _, _ => .non
def ixs (xs : List (List Nat)) : List Int := xs.flatMap fun w => w.map fun c => ((c - 97 : Nat) : Int)
theorem ixs_eq (xs : List (List Nat)) : (sv xs).flatMap (fun x => (letsOf x).map (ixOf x)) = (ixs xs).map .int := by
  unfold sv ixs
  rw [List.flatMap_map, List.map_flatMap]
  congr 1
  funext w
  show ((w.map fun c => Val.str [c]).map _) = _
  rw [List.map_map, List.map_map]
  rfl
theorem max_ints {is : List Int} {m : Int} (hm : m ∈ is) (hle : ∀ i ∈ is, i ≤ m) : vMaxX [.lst (is.map .int)] = some (.v (.int m)) := by
  have hne : is ≠ [] := fun e => by rw [e] at hm; cases hm
  have h1 : vMaxS [.lst (is.map .int)] = none := by
    obtain ⟨a, r, rfl⟩ := List.exists_cons_of_ne_nil hne
    rfl
  obtain ⟨k, k1, k2, k3⟩ := maxL_some hne
  have hk : k = m := Int.le_antisymm (hle k k2) (k3 m hm)
  unfold vMaxX
  rw [h1]
  show ((intsOf (is.map .int)).bind maxL).map (fun m => SV.v (.int m)) = _
  rw [Eng.ints_map, Option.bind_some, k1, hk]
  rfl
theorem top_e {xs : List (List Nat)} (h2 : env[2]? = some (some (.v (.lst (sv xs))))) (hn : env.length = 5) (hw : ∀ w ∈ xs, w.length = 2) (hl : xs.length ≤ 40) (hc : ∀ w ∈ xs, ∀ c ∈ w, ∃ i, i < 4 ∧ c = 97 + i) (h1 : 1 ≤ topL xs) (hok : ∀ w ∈ xs, okL (topL xs) w = true) (hx : ∃ w ∈ xs, ∃ c ∈ w, c = 96 + topL xs) :
    e2 vAdd (eC (.int 1)) (eB vMaxX (aCons (eComp2 (iAnyF (eVar 2)) (.n 4) (tYesF) (iAnyF (eVar 4)) (.n 3) (tYesF) (eM "str" vSIndex (eC (.str [97, 98, 99, 100])) (aCons (eVar 3) (aNil))) [4, 3] [3]) (aNil))) env st = .ok (.v (.int (topL xs : Nat))) st := by
  have hlen : ((sv xs).flatMap fun x => (letsOf x).map (ixOf x)).length ≤ 1000000 := by
    rw [ixs_eq, List.length_map]
    unfold ixs
    rw [List.length_flatMap]
    have : ∀ ys : List (List Nat), (∀ w ∈ ys, w.length = 2) → (ys.map fun w => (w.map fun c => ((c - 97 : Nat) : Int)).length).sum = 2 * ys.length := by
      intro ys
      induction ys with
      | nil => intro _; rfl
      | cons y ys ih =>
        intro h
        rw [List.map_cons, List.sum_cons, ih fun w hw => h w (by simp [hw]), List.length_map, h y (by simp), List.length_cons]
        omega
    rw [this xs hw]
    omega
  have c := comp2_map (st := st) (env := env) (fi := iAnyF (eVar 2)) (fi1 := iAnyF (eVar 4)) (p := .n 4) (p1 := .n 3) (fe := eM "str" vSIndex (eC (.str [97, 98, 99, 100])) (aCons (eVar 3) (aNil))) (vs := [4, 3]) (vs1 := [3]) (xs := sv xs) letsOf ixOf (any_lst (eV h2)) hlen fun x hx' => by
    obtain ⟨w, hw', rfl⟩ := List.mem_map.mp hx'
    refine ⟨_, rfl, any_str (eV (gss (by simp [wipeE, hn]))), fun y hy => ?_⟩
    obtain ⟨c, hcw, rfl⟩ := List.mem_map.mp hy
    exact ⟨_, rfl, _, sidx_e (k := 3) (gss (by simp [wipeE, hn])) (hc w hw' c hcw), rfl⟩
  rw [ixs_eq] at c
  obtain ⟨w1, hw1, c1, hc1, e1⟩ := hx
  have hm := max_ints (is := ixs xs) (m := ((topL xs - 1 : Nat) : Int)) (List.mem_flatMap.mpr ⟨w1, hw1, List.mem_map.mpr ⟨c1, hc1, by congr 1; omega⟩⟩) fun i hi => by
    obtain ⟨w, hw', hi⟩ := List.mem_flatMap.mp hi
    obtain ⟨c, hcw, rfl⟩ := List.mem_map.mp hi
    obtain ⟨k, hk, rfl⟩ := hc w hw' c hcw
    have hin := List.all_eq_true.mp (hok w hw') _ hcw
    have : k < topL xs := by
      apply Classical.byContradiction
      intro q
      exact not_abcd (L := topL xs) (i := k) (by omega) (of_decide_eq_true hin)
    omega
  have e2' : eB vMaxX (aCons (eComp2 (iAnyF (eVar 2)) (.n 4) (tYesF) (iAnyF (eVar 4)) (.n 3) (tYesF) (eM "str" vSIndex (eC (.str [97, 98, 99, 100])) (aCons (eVar 3) (aNil))) [4, 3] [3]) (aNil)) env st = .ok (.v (.int ((topL xs - 1 : Nat) : Int))) st := by
    rw [s_eB, ar_1 c]
    show outO ((some [Val.lst ((ixs xs).map .int)]).bind vMaxX) st = _
    rw [Option.bind_some, hm]
    rfl
  refine e2_ok (x := .int 1) (y := .int ((topL xs - 1 : Nat) : Int)) rfl e2' ?_
  rw [s_add]
  congr 3
  omega
theorem outer_go (gw : Good S 4 ws) (g : Good S 2 W) : b_outer_of st.length [some (.v (lw S ws)), some (.v (lw S W)), none, none, none] st = (if ∀ x ∈ ws, fall W x then .rt (.v (lw (topL (lows W ws)) (T (lows W ws)))) st else .rt (.v .non) st) := by
  have h40 := gw.r40
  have t1 : tOr (tV (e2 vNe (e2 vMod (eCall m_length_in (aCons (eVar 0) (aNil))) (eCall m_length_in (aCons (eVar 1) (aNil)))) (eC (.int 0)))) (tV (e2 vLt (e2 vDiv (eCall m_length_in (aCons (eVar 0) (aNil))) (eCall m_length_in (aCons (eVar 1) (aNil)))) (eC (.int 2)))) [some (.v (lw S ws)), some (.v (lw S W)), none, none, none] st = .ok false st := by
    have a1 : tV (e2 vNe (e2 vMod (eCall m_length_in (aCons (eVar 0) (aNil))) (eCall m_length_in (aCons (eVar 1) (aNil)))) (eC (.int 0))) [some (.v (lw S ws)), some (.v (lw S W)), none, none, none] st = .ok false st :=
      tv_v (e2_ok (x := .int ((0 : Nat) : Int)) (y := .int ((0 : Nat) : Int)) (e2_ok (x := .int (4 : Nat)) (y := .int (2 : Nat)) (ec_1 rfl (length_in_s gw)) (ec_1 rfl (length_in_s g)) (by rw [s_mod, if_pos (by decide)]; rfl)) rfl rfl)
    have a2 : tV (e2 vLt (e2 vDiv (eCall m_length_in (aCons (eVar 0) (aNil))) (eCall m_length_in (aCons (eVar 1) (aNil)))) (eC (.int 2))) [some (.v (lw S ws)), some (.v (lw S W)), none, none, none] st = .ok false st :=
      tv_v (e2_ok (x := .int 2) (y := .int 2) (e2_ok (x := .int (4 : Nat)) (y := .int (2 : Nat)) (ec_1 rfl (length_in_s gw)) (ec_1 rfl (length_in_s g)) (by rw [s_div]; rfl)) rfl rfl)
    unfold Eng.tOr
    rw [a1, s_bind_ok]
    exact a2
  have c := compA (st := st) (env := [some (.v (lw S ws)), some (.v (lw S W)), none, none, none]) (xs := ws) (fun w => .str w) (low W) (p := .n 3) (fe := eCall m_lowered (aCons (eVar 1) (aCons (eVar 3) (aNil)))) (is := [3]) (fi := iAnyF (e2 vIx (eVar 0) (eC (.int 1)))) (any_tup (row1 (i := 0) rfl)) (by omega) fun w hw =>
    ⟨_, rfl, _, ec_ok (ar_c (z1 := .v (lw S W)) rfl (ar_1 (z1 := .v (.str w)) rfl)) (lowered_s g (by rw [gw.len w hw]; omega) (okL_lt (gw.ok w hw))), rfl⟩
  have t2 : tOr (tV (e2 vIn (eC .non) (eVar 2))) (tV (e2 vNe (e2 vIx (eVar 0) (eC (.int 0))) (e2 vIx (eVar 1) (eC (.int 0))))) [some (.v (lw S ws)), some (.v (lw S W)), some (.v (.lst (ws.map (low W)))), none, none] st = .ok (!decide (∀ x ∈ ws, fall W x)) st := by
    have a1 := tv_v (st := st) (e2_ok (o := vIn) (fa := eC .non) (fb := eVar 2) (env := [some (.v (lw S ws)), some (.v (lw S W)), some (.v (.lst (ws.map (low W)))), none, none]) rfl rfl (none_in gw))
    have a2 : tV (e2 vNe (e2 vIx (eVar 0) (eC (.int 0))) (e2 vIx (eVar 1) (eC (.int 0)))) [some (.v (lw S ws)), some (.v (lw S W)), some (.v (.lst (ws.map (low W)))), none, none] st = .ok false st := by
      have := tv_v (st := st) (e2_ok (o := vNe) (ix0 (i := 0) (r := ws) (X := S) (env := [some (.v (lw S ws)), some (.v (lw S W)), some (.v (.lst (ws.map (low W)))), none, none]) rfl) (ix0 (i := 1) (r := W) (X := S) rfl) (ne_int S S))
      rw [this]
      simp
    unfold Eng.tOr
    rw [a1, s_bind_ok]
    by_cases h : ∀ x ∈ ws, fall W x
    · rw [decide_eq_true h]
      exact a2
    · rw [decide_eq_false h]
      rfl
  refine (seq_nx (need_two_e (l := [none, none, none]) gw g)).trans ((seq_nx (env1 := [some (.v (lw S ws)), some (.v (lw S W)), none, none, none]) (st1 := st) ((if_f t1).trans rfl)).trans ((seq_nx (set_fl c)).trans ?_))
  show sSeq _ _ [some (.v (lw S ws)), some (.v (lw S W)), some (.v (.lst (ws.map (low W)))), none, none] st = _
  by_cases h : ∀ x ∈ ws, fall W x
  · rw [if_pos h]
    rw [decide_eq_true h] at t2
    refine (seq_nx ((if_f t2).trans rfl)).trans (ret_v ?_)
    have em : ws.map (low W) = sv (lows W ws) := by
      unfold sv lows
      rw [List.map_map]
      exact List.map_congr_left fun x hx => by rw [low4 (gw.len x hx), if_pos (h x hx)]; rfl
    rw [em]
    obtain ⟨gg, _, hx⟩ := lows_top g gw h
    have hlw : ∀ w ∈ lows W ws, w.length = 2 := fun w hw => by
      obtain ⟨x, _, rfl⟩ := List.mem_map.mp hw
      rfl
    have hll : (lows W ws).length ≤ 40 := by unfold lows; rw [List.length_map]; exact h40
    have tp := top_e (st := st) (env := [some (.v (lw S ws)), some (.v (lw S W)), some (.v (.lst (sv (lows W ws)))), none, none]) (xs := lows W ws) rfl rfl hlw hll (fun w hw c hc => by
      obtain ⟨x, hx, rfl⟩ := List.mem_map.mp hw
      obtain ⟨i, h4, _, e⟩ := low_let g (h x hx) c hc
      exact ⟨i, h4, e⟩) gg.l1 (fun w hw => gg.ok w (mem_T.mpr hw)) hx
    exact ec_ok (ar_c tp (ar_1 (z1 := .v (.lst (sv (lows W ws)))) rfl)) (made_s .lst gg (by omega))
  · rw [if_neg h]
    rw [decide_eq_false h] at t2
    unfold sSeq
    rw [if_t t2]
    rfl
theorem outer_s (gw : Good S 4 ws) (g : Good S 2 W) (h : ∀ x ∈ ws, fall W x) : m_outer_of [.v (lw S ws), .v (lw S W)] st = .ok (.v (lw (topL (lows W ws)) (T (lows W ws)))) st := by
  have := outer_go (st := st) gw g
  rw [if_pos h] at this
  exact call_v (N := 5) (body := b_outer_of) this
theorem outer_n (gw : Good S 4 ws) (g : Good S 2 W) (h : ¬ ∀ x ∈ ws, fall W x) : m_outer_of [.v (lw S ws), .v (lw S W)] st = .ok (.v .non) st := by
  have := outer_go (st := st) gw g
  rw [if_neg h] at this
  exact call_v (N := 5) (body := b_outer_of) this
end
end K77

namespace K77
open PySem PySem.Spec PyProof.Rows L2 Eng
section
variable {st : Sto} {S L : Nat} {W rows ws : List (List Nat)} {env : Eng.Env}
/-! ### split_over -/
def hlv (ws : List (List Nat)) : List (List Nat) := ws.flatMap fun x => [x.take 2, x.drop 2]
theorem mem_hlv {w : List Nat} : w ∈ hlv ws ↔ ∃ x ∈ ws, w = x.take 2 ∨ w = x.drop 2 := by
  unfold hlv
  rw [List.mem_flatMap]
  simp
theorem addW_le (l : List (List Nat)) (w : List Nat) : (addW l w).length ≤ l.length + 1 := by unfold addW; split <;> simp
theorem dc2_strs {env0 : Eng.Env} {fe : Fe} (hn : env0.length = 6) : ∀ (ws acc : List (List Nat)), acc.length + 2 * ws.length ≤ 1000 → (∀ x ∈ ws, fe (env0.set 4 (some (.v (.str x)))) st = .ok (.v (.tup (sv [x.take 2, x.drop 2]))) st) →
    dcSeq2 (.n 4) tYesF (iAnyF fe) (.n 5) tYesF (eVar 5) (eC (.bl true)) [5] env0 (sv ws) (dv acc) st = .ok (dv ((hlv ws).foldl addW acc)) st
  | [], acc, _, _ => rfl
  | x :: ws, acc, hl, hf => by
    have l1 := addW_le acc (x.take 2)
    have l2 := addW_le (addW acc (x.take 2)) (x.drop 2)
    simp only [List.length_cons] at hl
    have ih := dc2_strs hn ws (addW (addW acc (x.take 2)) (x.drop 2)) (by omega) fun y hy => hf y (by simp [hy])
    have hi := dc_strs (st := st) (env0 := wipeE (env0.set 4 (some (.v (.str x)))) [5]) (i := 5) [x.take 2, x.drop 2] acc (by simp [wipeE, hn])
    show dcSeq2 _ _ _ _ _ _ _ _ env0 (.str x :: sv ws) (dv acc) st = _
    unfold dcSeq2
    show ((tYesF (env0.set 4 (some (.v (.str x)))) st).bind _) = _
    rw [show tYesF (env0.set 4 (some (.v (.str x)))) st = .ok true st from rfl, s_bind_ok, if_pos rfl, any_tup (hf x (by simp)), s_bind_ok]
    show (if (dv acc).length + (sv [x.take 2, x.drop 2]).length ≤ 1000000 then _ else _) = _
    rw [if_pos (by rw [sv_len]; unfold dv; rw [List.length_map]; simp; omega), hi, s_bind_ok]
    exact ih
def HH (ws : List (List Nat)) : List (List Nat) := T (hlv ws)
theorem hlv_len : (hlv ws).length = 2 * ws.length := by
  unfold hlv
  induction ws with
  | nil => rfl
  | cons x ws ih =>
    rw [List.flatMap_cons, List.length_append, ih, List.length_cons]
    simp
    omega
theorem HH_good (gw : Good S 4 ws) (hl : ws.length ≤ 20) : Good S 2 (HH ws) := by
  refine good_T gw.l1 gw.l4 (by omega) (by omega) (fun e => ?_) (Nat.le_trans (T_len_le _) (by rw [hlv_len]; omega)) (fun w h => ?_) fun w h => ?_
  · have := hlv_len (ws := ws)
    rw [e] at this
    have := List.length_pos_iff.mpr gw.ne
    simp only [List.length_nil] at *
    omega
  · obtain ⟨x, hx, e⟩ := mem_hlv.mp h
    have h4 := gw.len x hx
    rcases e with rfl | rfl
    · rw [List.length_take]; omega
    · rw [List.length_drop]; omega
  · obtain ⟨x, hx, e⟩ := mem_hlv.mp h
    rcases e with rfl | rfl
    · exact okL_sub (fun c hc => List.mem_of_mem_take hc) (gw.ok x hx)
    · exact okL_sub (fun c hc => List.mem_of_mem_drop hc) (gw.ok x hx)
theorem HH_fall (h4 : (HH ws).length ≤ 4) : ∀ x ∈ ws, fall (HH ws) x := fun x hx => by
  unfold fall
  rw [List.take_of_length_le h4]
  exact ⟨mem_T.mpr (mem_hlv.mpr ⟨x, hx, .inl rfl⟩), mem_T.mpr (mem_hlv.mpr ⟨x, hx, .inr rfl⟩)⟩
theorem lows_good (g : Good S 2 W) (gw : Good S 4 ws) (h4 : W.length ≤ 4) (h : ∀ x ∈ ws, fall W x) : Good W.length 2 (T (lows W ws)) := by
  have := List.length_pos_iff.mpr g.ne
  refine good_T (by omega) h4 (by omega) (by omega) (by unfold lows; simp [gw.ne]) (Nat.le_trans (T_len_le _) (by unfold lows; rw [List.length_map]; exact gw.r40)) (fun w hw => ?_) fun w hw => ?_
  · obtain ⟨x, hx, rfl⟩ := List.mem_map.mp hw
    rfl
  · obtain ⟨x, hx, rfl⟩ := List.mem_map.mp hw
    exact low_ok g (h x hx) (.inl (Nat.le_refl _))
def splitV (S : Nat) (ws : List (List Nat)) : Val := if (HH ws).length ≤ 4 then .tup [lw (HH ws).length (T (lows (HH ws) ws)), lw S (HH ws)] else .non
theorem split_s (gw : Good S 4 ws) (hl : ws.length ≤ 20) : m_split_over [.v (lw S ws)] st = .ok (.v (splitV S ws)) st := by
  have gH := HH_good gw hl
  have hH40 := gH.r40
  have s1 : e2 vDiv (eCall m_length_in (aCons (eVar 0) (aNil))) (eC (.int 2)) [some (.v (lw S ws)), none, none, none, none, none] st = .ok (.v (.int (2 : Nat))) st := by
    refine e2_ok (x := .int (4 : Nat)) (y := .int 2) (ec_1 rfl (length_in_s gw)) rfl ?_
    rw [s_div]
    rfl
  have t1 : tOr (tV (e2 vNe (e2 vMulN (eC (.int 2)) (eVar 1)) (eCall m_length_in (aCons (eVar 0) (aNil))))) (tV (e2 vLt (eVar 1) (eC (.int 2)))) [some (.v (lw S ws)), some (.v (.int (2 : Nat))), none, none, none, none] st = .ok false st := by
    have a1 : tV (e2 vNe (e2 vMulN (eC (.int 2)) (eVar 1)) (eCall m_length_in (aCons (eVar 0) (aNil)))) [some (.v (lw S ws)), some (.v (.int (2 : Nat))), none, none, none, none] st = .ok false st := by
      refine tv_v (e2_ok (x := .int ((2 * 2 : Nat) : Int)) (y := .int (4 : Nat)) (e2_ok (x := .int (2 : Nat)) (y := .int (2 : Nat)) rfl rfl (vMul_n 2 2 (by omega))) (ec_1 rfl (length_in_s gw)) ?_)
      rw [ne_int]
      rfl
    unfold Eng.tOr
    rw [a1, s_bind_ok]
    rfl
  have hfe : ∀ x ∈ ws, eTup (aCons (eSl (eVar 4) (pNo) (pAt (eVar 1))) (aCons (eSl (eVar 4) (pAt (eVar 1)) (pNo)) (aNil))) ((wipeE [some (.v (lw S ws)), some (.v (.int (2 : Nat))), none, none, none, none] [4, 5]).set 4 (some (.v (.str x)))) st = .ok (.v (.tup (sv [x.take 2, x.drop 2]))) st := fun x _ =>
    tup2 (take_e (n := 2) rfl rfl) (drop_e (n := 2) rfl rfl)
  have s2 : eB vSortX (aCons (eDComp2 (iAnyF (e2 vIx (eVar 0) (eC (.int 1)))) (.n 4) (tYesF) (iAnyF (eTup (aCons (eSl (eVar 4) (pNo) (pAt (eVar 1))) (aCons (eSl (eVar 4) (pAt (eVar 1)) (pNo)) (aNil))))) (.n 5) (tYesF) (eVar 5) (eC (.bl true)) [4, 5] [5]) (aNil)) [some (.v (lw S ws)), some (.v (.int (2 : Nat))), none, none, none, none] st = .ok (.fl (sv (HH ws))) st := by
    have hd : eDComp2 (iAnyF (e2 vIx (eVar 0) (eC (.int 1)))) (.n 4) (tYesF) (iAnyF (eTup (aCons (eSl (eVar 4) (pNo) (pAt (eVar 1))) (aCons (eSl (eVar 4) (pAt (eVar 1)) (pNo)) (aNil))))) (.n 5) (tYesF) (eVar 5) (eC (.bl true)) [4, 5] [5] [some (.v (lw S ws)), some (.v (.int (2 : Nat))), none, none, none, none] st = .ok (.fd false (dv ((hlv ws).foldl addW []))) st := by
      unfold eDComp2
      rw [any_tup (row1 (i := 0) rfl), s_bind_ok]
      have := dc2_strs (st := st) (env0 := wipeE [some (.v (lw S ws)), some (.v (.int (2 : Nat))), none, none, none, none] [4, 5]) (fe := eTup (aCons (eSl (eVar 4) (pNo) (pAt (eVar 1))) (aCons (eSl (eVar 4) (pAt (eVar 1)) (pNo)) (aNil)))) rfl ws [] (by simp; omega) hfe
      show Eng.Rv.freshD (dcSeq2 _ _ _ _ _ _ _ _ _ (sv ws) (dv []) st) = _
      rw [this]
      rfl
    have h64 : ((hlv ws).foldl addW []).length < 64 := by
      have e := (sortS_perm ((hlv ws).foldl addW [])).length_eq
      rw [sort_foldW] at e
      have : (T (hlv ws)).length ≤ 40 := hH40
      omega
    rw [s_eB, ar_1 hd]
    show outO ((some [Val.dic false (dv ((hlv ws).foldl addW []))]).bind vSort) _ = _
    rw [Option.bind_some, sort_dv h64, sort_foldW]
    rfl
  have t2 : tV (e2 vGt (eB vLenX (aCons (eVar 2) (aNil))) (eB vLenX (aCons (eC (.str [97, 98, 99, 100])) (aNil)))) [some (.v (lw S ws)), some (.v (.int (2 : Nat))), some (.v (.lst (sv (HH ws)))), none, none, none] st = .ok (decide (4 < (HH ws).length)) st := by
    refine tv_v (e2_ok (x := .int ((sv (HH ws)).length : Nat)) (y := .int 4) (by rw [s_eB, ar_1 (z1 := .v (.lst (sv (HH ws)))) rfl]; rfl) (by rw [s_eB, ar_1 (z1 := .v (.str [97, 98, 99, 100])) rfl]; rfl) ?_)
    rw [s_gt, sv_len]
    congr 3
    rw [decide_eq_decide]
    omega
  refine call_v (N := 6) (body := b_split_over) ((seq_nx (need_e (l := [none, none, none, none, none]) gw)).trans ((seq_nx (set_v s1)).trans ((seq_nx (env1 := [some (.v (lw S ws)), some (.v (.int (2 : Nat))), none, none, none, none]) (st1 := st) ((if_f t1).trans rfl)).trans ((seq_nx (set_fl s2)).trans ?_))))
  show sSeq _ _ [some (.v (lw S ws)), some (.v (.int (2 : Nat))), some (.v (.lst (sv (HH ws)))), none, none, none] st = _
  unfold splitV
  by_cases h4 : (HH ws).length ≤ 4
  · rw [if_pos h4]
    rw [decide_eq_false (by omega)] at t2
    have hT : T (HH ws) = HH ws := T_up gH.up
    have s3 : eCall m_made_list (aCons (e2 vIx (eVar 0) (eC (.int 0))) (aCons (eVar 2) (aNil))) [some (.v (lw S ws)), some (.v (.int (2 : Nat))), some (.v (.lst (sv (HH ws)))), none, none, none] st = .ok (.v (lw S (HH ws))) st := by
      have := ec_ok (c := m_made_list) (st1 := st) (ar_c (fa := e2 vIx (eVar 0) (eC (.int 0))) (env := [some (.v (lw S ws)), some (.v (.int (2 : Nat))), some (.v (.lst (sv (HH ws)))), none, none, none]) (ix0 (i := 0) rfl) (ar_1 (fa := eVar 2) (z1 := .v (.lst (sv (HH ws)))) rfl)) (made_s (st := st) .lst (by rw [hT]; exact gH) (by omega))
      rw [hT] at this
      exact this
    have hf := HH_fall h4
    have gl := lows_good gH gw h4 hf
    have h40 := gw.r40
    have c := cuts_e (st := st) (env := [some (.v (lw S ws)), some (.v (.int (2 : Nat))), some (.v (.lst (sv (HH ws)))), some (.v (lw S (HH ws))), none, none]) (i := 0) (k := 4) (fe := eCall m_lowered (aCons (eVar 3) (aCons (eVar 4) (aNil)))) (lowW (HH ws)) rfl (by omega) fun w hw => by
      have := lowered_s (st := st) gH (x := w) (by rw [gw.len w hw]; omega) (okL_lt (gw.ok w hw))
      rw [low4 (gw.len w hw), if_pos (hf w hw)] at this
      exact ec_ok (ar_c (z1 := .v (lw S (HH ws))) rfl (ar_1 (z1 := .v (.str w)) rfl)) this
    have hlen : eB vLenX (aCons (eVar 2) (aNil)) [some (.v (lw S ws)), some (.v (.int (2 : Nat))), some (.v (.lst (sv (HH ws)))), some (.v (lw S (HH ws))), none, none] st = .ok (.v (.int ((HH ws).length : Nat))) st := by
      rw [s_eB, ar_1 (z1 := .v (.lst (sv (HH ws)))) rfl]
      show outO (some (SV.v (Val.int ((sv (HH ws)).length : Nat)))) st = _
      rw [sv_len]
      rfl
    refine (seq_nx ((if_f t2).trans rfl)).trans ((seq_nx (set_v s3)).trans (ret_v ?_))
    exact tup2 (ec_ok (ar_c hlen (ar_1 c)) (made_s .lst gl (by unfold lows; rw [List.length_map]; omega))) rfl
  · rw [if_neg h4]
    rw [decide_eq_true (by omega)] at t2
    unfold sSeq
    rw [if_t t2]
    rfl
end
end K77

namespace K77
open PySem PySem.Spec PyProof.Rows L2 Eng
def lr0 (n : Nat) : Fs := sTup (bCons (.f) n [] (eCall m__law_list (aCons (eVar 0) (aCons (eVar 1) (aCons (eC (.int 2)) (aCons (eVar 3) (aCons (eVar 4) (aNil))))))) (bCons (.f) n [] (eCall m__law_list (aCons (eVar 0) (aCons (eVar 2) (aCons (eC (.int 2)) (aCons (eVar 3) (aCons (eVar 4) (aNil))))))) (bNil))) (gsCons (gN 17) (gsCons (gN 16) (gsNil)))
def lr1 (n : Nat) : Fs := sSet (.f) n [] 5 (e2 vLt (eB vLenX (aCons (e2 vIx (eVar 16) (eC (.int 1))) (aNil))) (eVar 1))
def lr2 (n : Nat) : Fs := sIf (tV (e2 vNe (eRef (mtOne "InvalidList") (eCall m_over_list (aCons (eVar 17) (aCons (eVar 16) (aNil))))) (eVar 5))) (sRet (eC (.bl false))) (sNil)
def lr3 (n : Nat) : Fs := sIf (tV (eVar 5)) (sRet (eC (.bl true))) (sNil)
def lr4 (n : Nat) : Fs := sSet (.c 0) n [] 6 (eDic false)
def lr5 (n : Nat) : Fs := sFor (iRng1F (aCons (eVar 1) (aNil))) (.n 7) n [] (sAsg (e2 vIx (e2 vIx (eVar 16) (eC (.int 1))) (eVar 7)) (gSt oSet (eVar 6) (e2 vIx (eC (.str [97, 98, 99, 100])) (eVar 7))))
def lr6 (n : Nat) : Fs := sSet (.f) n [] 8 (eComp (iAnyF (e2 vIx (eVar 17) (eC (.int 1)))) (.n 18) (tYesF) (e2 vAdd (e2 vIx (eVar 6) (e2 vIx (eVar 18) (eC (.int 0)))) (e2 vIx (eVar 6) (e2 vIx (eVar 18) (eC (.int 1))))) [18])
def lr7 (n : Nat) : Fs := sSet (.f) n [] 9 (eCall m_over_list (aCons (eVar 17) (aCons (eVar 16) (aNil))))
def lr8 (n : Nat) : Fs := sIf (tOr (tNot (tV (eCall (m__law_same 6) (aCons (eVar 9) (aCons (eTup (aCons (eVar 2) (aCons (eB vTuple (aCons (eB vSortSet (aCons (eVar 8) aNil)) (aNil))) (aNil)))) (aNil)))))) (tV (e2 vNe (eB vLenX (aCons (e2 vIx (eVar 9) (eC (.int 1))) (aNil))) (eB vLenX (aCons (e2 vIx (eVar 17) (eC (.int 1))) (aNil)))))) (sRet (eC (.bl false))) (sNil)
def lr9 (n : Nat) : Fs := sSet (.f) n [] 10 (eB vMaxX (aCons (eComp (iAnyF (e2 vIx (eVar 17) (eC (.int 1)))) (.n 18) (tYesF) (eB vMaxX (aCons (eVar 18) (aNil))) [18]) (aNil)))
def lr10 (n : Nat) : Fs := sIf (tNot (tV (eCall (m__law_same 6) (aCons (eCall m_outer_of (aCons (eVar 9) (aCons (eVar 16) (aNil)))) (aCons (eTup (aCons (e2 vAdd (eM "str" vSIndex (eC (.str [97, 98, 99, 100])) (aCons (eVar 10) (aNil))) (eC (.int 1))) (aCons (e2 vIx (eVar 17) (eC (.int 1))) (aNil)))) (aNil)))))) (sRet (eC (.bl false))) (sNil)
def lr11 (n : Nat) : Fs := sSet (.f) n [] 11 (eB vSortSet (aCons (e2 vAdd (eComp (iAnyF (e2 vIx (eVar 9) (eC (.int 1)))) (.n 18) (tYesF) (eSl (eVar 18) (pNo) (pAt (eC (.int 2)))) [18]) (eComp (iAnyF (e2 vIx (eVar 9) (eC (.int 1)))) (.n 18) (tYesF) (eSl (eVar 18) (pAt (eC (.int 2))) (pNo)) [18])) aNil))
def lr12 (n : Nat) : Fs := sSet (.f) n [] 12 (eCall m_split_over (aCons (eVar 9) (aNil)))
def lr13 (n : Nat) : Fs := sIf (tV (e2 vNe (e2 vIs (eVar 12) (eC .non)) (e2 vGt (eB vLenX (aCons (eVar 11) (aNil))) (eC (.int 4))))) (sRet (eC (.bl false))) (sNil)
def lr14 (n : Nat) : Fs := sIf (tV (e2 vIsN (eVar 12) (eC .non))) (sSeq (sSet (.f) n [] 13 (eB vTuple (aCons (eB vSortX (aCons (eComp (iAnyF (e2 vIx (eVar 9) (eC (.int 1)))) (.n 18) (tYesF) (e2 vAdd (e2 vIx (eC (.str [97, 98, 99, 100])) (eM "list" vLIndex (eVar 11) (aCons (eSl (eVar 18) (pNo) (pAt (eC (.int 2)))) (aNil)))) (e2 vIx (eC (.str [97, 98, 99, 100])) (eM "list" vLIndex (eVar 11) (aCons (eSl (eVar 18) (pAt (eC (.int 2))) (pNo)) (aNil))))) [18]) (aNil))) (aNil)))) (sIf (tOr (tNot (tV (eCall (m__law_same 6) (aCons (eVar 12) (aCons (eTup (aCons (eTup (aCons (eB vLenX (aCons (eVar 11) (aNil))) (aCons (eVar 13) (aNil)))) (aCons (eTup (aCons (eVar 2) (aCons (eB vTuple (aCons (eVar 11) (aNil))) (aNil)))) (aNil)))) (aNil)))))) (tV (e2 vNe (eCall m_over_list (aCons (e2 vIx (eVar 12) (eC (.int 0))) (aCons (e2 vIx (eVar 12) (eC (.int 1))) (aNil)))) (eVar 9)))) (sRet (eC (.bl false))) (sNil))) (sNil)
def lr15 (n : Nat) : Fs := sSet (.f) n [] 14 (eCall m__law_list (aCons (eVar 0) (aCons (eVar 2) (aCons (eC (.int 4)) (aCons (eC (.int 3)) (aCons (eC (.int 6)) (aNil)))))))
def lr16 (n : Nat) : Fs := sSet (.f) n [] 15 (e2 vEq (eComp (iAnyF (e2 vIx (eVar 14) (eC (.int 1)))) (.n 18) (tOr (tV (e2 vNotIn (eSl (eVar 18) (pNo) (pAt (eC (.int 2)))) (eSl (e2 vIx (eVar 16) (eC (.int 1))) (pNo) (pAt (eC (.int 4)))))) (tV (e2 vNotIn (eSl (eVar 18) (pAt (eC (.int 2))) (pNo)) (eSl (e2 vIx (eVar 16) (eC (.int 1))) (pNo) (pAt (eC (.int 4))))))) (eVar 18) [18]) (eLst (aNil)))
def lr17 (n : Nat) : Fs := sSet (.f) n [] 12 (eCall m_outer_of (aCons (eVar 14) (aCons (eVar 16) (aNil))))
def lr18 (n : Nat) : Fs := sRet (eAnd (e2 vEq (e2 vIsN (eVar 12) (eC .non)) (eVar 15)) (eOr (e2 vIs (eVar 12) (eC .non)) (e2 vEq (eCall m_over_list (aCons (eVar 12) (aCons (eVar 16) (aNil)))) (eVar 14))))
theorem right_b (n : Nat) : b__law_right n = sSeq (lr0 n) (sSeq (lr1 n) (sSeq (lr2 n) (sSeq (lr3 n) (sSeq (lr4 n) (sSeq (lr5 n) (sSeq (lr6 n) (sSeq (lr7 n) (sSeq (lr8 n) (sSeq (lr9 n) (sSeq (lr10 n) (sSeq (lr11 n) (sSeq (lr12 n) (sSeq (lr13 n) (sSeq (lr14 n) (sSeq (lr15 n) (sSeq (lr16 n) (sSeq (lr17 n) (lr18 n)))))))))))))))))) := rfl
structure En (L S : Nat) (rows W : List (List Nat)) (env : Eng.Env) : Prop where
  n : env.length = 19
  e0 : env[0]? = some (some (.loc 0))
  e1 : env[1]? = some (some (.v (.int (L : Nat))))
  e2 : env[2]? = some (some (.v (.int (S : Nat))))
  e16 : env[16]? = some (some (.v (lw S W)))
  e17 : env[17]? = some (some (.v (lw L rows)))
def own (i : Nat) : Bool := i == 0 || i == 1 || i == 2 || i == 16 || i == 17
section
variable {st : Sto} {S L : Nat} {W rows ws : List (List Nat)} {env : Eng.Env}
theorem En.set (f : En L S rows W env) {i : Nat} {z : Option SV} (hi : own i = false) : En L S rows W (env.set i z) := by
  unfold own at hi
  simp only [Bool.or_eq_false_iff, beq_eq_false_iff_ne] at hi
  exact ⟨by rw [List.length_set]; exact f.n, gs (by omega) f.e0, gs (by omega) f.e1, gs (by omega) f.e2, gs (by omega) f.e16, gs (by omega) f.e17⟩
theorem args_e (f : En L S rows W env) : aCons (eVar 17) (aCons (eVar 16) (aNil)) env st = .ok [.v (lw L rows), .v (lw S W)] st := ar_c (z1 := .v (lw L rows)) (eV f.e17) (ar_1 (z1 := .v (lw S W)) (eV f.e16))
theorem lr1_s (f : En L S rows W env) (n : Nat) : lr1 n env st = .nx (env.set 5 (some (.v (.bl (decide (W.length < L)))))) st := by
  refine set_v (e2_ok (x := .int (W.length : Nat)) (y := .int (L : Nat)) (len1 f.e16) (eV f.e1) ?_)
  rw [s_lt]
  congr 3
  rw [decide_eq_decide]
  omega
theorem lr2_s (go : Good L 2 rows) (g : Good S 2 W) (f : En L S rows W env) (h5 : env[5]? = some (some (.v (.bl (decide (W.length < L)))))) (n : Nat) : lr2 n env st = .nx env st := by
  have t : eRef (mtOne "InvalidList") (eCall m_over_list (aCons (eVar 17) (aCons (eVar 16) (aNil)))) env st = .ok (.v (.bl (decide (W.length < L)))) st := by
    by_cases h : L ≤ W.length
    · rw [decide_eq_false (by omega)]
      exact ref_ok (ec_ok (args_e f) (over_s go g h))
    · rw [decide_eq_true (by omega)]
      exact ref_x (ec_ok (args_e f) (over_x go g h))
  refine (if_f (tv_v (b := false) (e2_ok (o := vNe) t (eV h5) ?_))).trans rfl
  cases decide (W.length < L) <;> rfl
/-! ### the names: letters and words -/
def nm (W : List (List Nat)) (k : Nat) : List (Val × Val) := (List.range k).map fun i => (.str [97 + i], .str (wd W (97 + i)))
theorem nm_put {k : Nat} (h : k < 4) : dPut (nm W k) (.str [97 + k]) (.str (wd W (97 + k))) = nm W (k + 1) := by
  have : k = 0 ∨ k = 1 ∨ k = 2 ∨ k = 3 := by omega
  rcases this with rfl | rfl | rfl | rfl <;> rfl
theorem nm_get {k i : Nat} (h : k ≤ 4) (hi : i < k) : vIx (.dic false (nm W k)) (.str [97 + i]) = some (.v (.str (wd W (97 + i)))) := by
  have h1 : k = 1 ∨ k = 2 ∨ k = 3 ∨ k = 4 := by omega
  rcases h1 with rfl | rfl | rfl | rfl
  · obtain rfl : i = 0 := by omega
    rfl
  · have : i = 0 ∨ i = 1 := by omega
    rcases this with rfl | rfl <;> rfl
  · have : i = 0 ∨ i = 1 ∨ i = 2 := by omega
    rcases this with rfl | rfl | rfl <;> rfl
  · have : i = 0 ∨ i = 1 ∨ i = 2 ∨ i = 3 := by omega
    rcases this with rfl | rfl | rfl | rfl <;> rfl
def SN (a b : Int) (W : List (List Nat)) (k : Nat) : Sto := [C a b, .dic false (nm W k)]
abbrev rE (L S size most : Nat) (z5 z16 z17 : Option SV) : Eng.Env := [some (.loc 0), some (.v (.int (L : Nat))), some (.v (.int (S : Nat))), some (.v (.int (size : Nat))), some (.v (.int (most : Nat))), z5, none, none, none, none, none, none, none, none, none, none, z16, z17, none]
theorem lr4_s (size most : Nat) (q : Bool) (a b : Int) : lr4 1 (rE L S size most (some (.v (.bl q))) (some (.v (lw S W))) (some (.v (lw L rows)))) [C a b, .dead] = .nx ((rE L S size most (some (.v (.bl q))) (some (.v (lw S W))) (some (.v (lw L rows)))).set 6 (some (.loc 1))) (SN a b W 0) := rfl
def B5 : Fs := sAsg (e2 vIx (e2 vIx (eVar 16) (eC (.int 1))) (eVar 7)) (gSt oSet (eVar 6) (e2 vIx (eC (.str [97, 98, 99, 100])) (eVar 7)))
theorem B5_s (g : Good S 2 W) (f : En L S rows W env) {k : Nat} {a b : Int} (hk : k < 4) (hW : k < W.length) (h6 : env[6]? = some (some (.loc 1))) (h7 : env[7]? = some (some (.v (.int (k : Nat))))) : B5 env (SN a b W k) = .nx env (SN a b W (k + 1)) := by
  obtain ⟨p, p1, p2, p3⟩ := wd_get g hW
  have hv : e2 vIx (e2 vIx (eVar 16) (eC (.int 1))) (eVar 7) env (SN a b W k) = .ok (.v (.str (wd W (97 + k)))) (SN a b W k) := by
    refine e2_ok (x := .tup (sv W)) (y := .int (k : Nat)) (row1 f.e16) (eV h7) ?_
    rw [s_ixT, atI_nat (v := .str p) (by unfold sv; rw [List.getElem?_map, p1]; rfl), p2]
    rfl
  have hi : e2 vIx (eC (.str [97, 98, 99, 100])) (eVar 7) env (SN a b W k) = .ok (.v (.str [97 + k])) (SN a b W k) := e2_ok (x := .str [97, 98, 99, 100]) (y := .int (k : Nat)) rfl (eV h7) (abcd_ix hk)
  unfold B5 sAsg
  rw [hv]
  show (match gSt oSet (eVar 6) (e2 vIx (eC (.str [97, 98, 99, 100])) (eVar 7)) (.v (.str (wd W (97 + k)))) env (SN a b W k) with | .nx env' st' => Rs.nx env' st' | _ => .bad) = _
  have e : gSt oSet (eVar 6) (e2 vIx (eC (.str [97, 98, 99, 100])) (eVar 7)) (.v (.str (wd W (97 + k)))) env (SN a b W k) = .nx env (SN a b W (k + 1)) := by
    unfold gSt
    rw [show eVar 6 env (SN a b W k) = .ok (.loc 1) (SN a b W k) from eV h6]
    simp only
    rw [hi]
    have e2' : oSet (.dic false (nm W k)) (.str [97 + k]) (.str (wd W (97 + k))) = some (.dic false (nm W (k + 1))) := by
      show (if (Eng.keyIs false (.str [97 + k]) && decide ((nm W k).length < 1000000)) = true then some (SO.dic false (dPut (nm W k) (.str [97 + k]) (.str (wd W (97 + k))))) else none) = _
      rw [if_pos (by unfold nm; rw [List.length_map, List.length_range]; simp [Eng.keyIs]; omega), nm_put hk]
    have e1 : (SN a b W k)[1]? = some (.dic false (nm W k)) := rfl
    simp only [e1, s_val_v, e2']
    rfl
  rw [e]
theorem lr5_s (g : Good S 2 W) (h1 : 1 ≤ L) (h4 : L ≤ 4) (hL : L ≤ W.length) (f : En L S rows W env) {a b : Int} (h6 : env[6]? = some (some (.loc 1))) : ∃ env', lr5 1 env (SN a b W 0) = .nx env' (SN a b W L) ∧ En L S rows W env' ∧ env'[6]? = some (some (.loc 1)) := by
  have hr : iRng1F (aCons (eVar 1) (aNil)) env (SN a b W 0) = .ok (.seq (rngI 0 L)) (SN a b W 0) := by
    unfold iRng1F
    rw [ar_1 (eV f.e1)]
    simp [small]
    omega
  obtain ⟨env', st', h, rfl, f', h6'⟩ := for_inv (p := .n 7) (n := 1) (B := []) (body := B5) (xs := rngI 0 L) (fun i env s => s = SN a b W i ∧ En L S rows W env ∧ env[6]? = some (some (.loc 1))) hr ⟨rfl, f, h6⟩ (fun i y env s hi hI => by
    obtain ⟨rfl, f, h6⟩ := hI
    unfold rngI at hi
    rw [List.getElem?_map] at hi
    obtain ⟨j, hj, rfl⟩ := Option.map_eq_some_iff.mp hi
    have hji : j = i := by
      obtain ⟨hlt, e⟩ := List.getElem?_eq_some_iff.mp hj
      rw [List.getElem_range] at e
      exact e.symm
    subst hji
    have hj2 := List.mem_range.mp (List.mem_of_getElem? hj)
    refine ⟨_, rfl, _, _, B5_s g (f.set (i := 7) rfl) (k := j) (by omega) (by omega) (gs (by omega) h6) ?_, rfl, f.set rfl, gs (by omega) h6⟩
    rw [gss (by rw [f.n]; omega)]
    congr 3
    simp)
  have e : (rngI 0 L).length = L := by simp [rngI]
  rw [e] at h
  exact ⟨env', h, f', h6'⟩
theorem lr6_s (go : Good L 2 rows) (g : Good S 2 W) (hL : L ≤ W.length) (f : En L S rows W env) {a b : Int} (h6 : env[6]? = some (some (.loc 1))) (n : Nat) : lr6 n env (SN a b W L) = .nx (env.set 8 (some (.v (.lst (sv (rows.map (lift W))))))) (SN a b W L) := by
  have h40 := go.r40
  refine set_fl (cuts_e (lift W) f.e17 (by omega) fun w hw => ?_)
  have h2 := go.len w hw
  have hok := go.ok w hw
  obtain ⟨c, d, rfl⟩ : ∃ c d, w = [c, d] := by
    match w, h2 with
    | [c, d], _ => exact ⟨c, d, rfl⟩
  obtain ⟨i, i4, iL, rfl⟩ := abcd_c hok (c := c) (by simp)
  obtain ⟨j, j4, jL, rfl⟩ := abcd_c hok (c := d) (by simp)
  have i18 : ((wipeE env [18]).set 18 (some (.v (.str [97 + i, 97 + j]))))[18]? = some (some (.v (.str [97 + i, 97 + j]))) := gss (by simp [wipeE, f.n])
  have i6 : ((wipeE env [18]).set 18 (some (.v (.str [97 + i, 97 + j]))))[6]? = some (some (.loc 1)) := gs (by omega) (gs (by omega) h6)
  have hc : ∀ {k q : Nat}, q < L → e2 vIx (eVar 18) (eC (.int (k : Nat))) ((wipeE env [18]).set 18 (some (.v (.str [97 + i, 97 + j])))) (SN a b W L) = .ok (.v (.str [97 + q])) (SN a b W L) → e2 vIx (eVar 6) (e2 vIx (eVar 18) (eC (.int (k : Nat)))) ((wipeE env [18]).set 18 (some (.v (.str [97 + i, 97 + j])))) (SN a b W L) = .ok (.v (.str (wd W (97 + q)))) (SN a b W L) := fun {k q} hq h =>
    e2_g (x := .dic false (nm W L)) (y := .str [97 + q]) (eV i6) h rfl rfl (nm_get go.l4 hq)
  have c0 := hc (k := 0) iL (e2_ok (x := .str [97 + i, 97 + j]) (y := .int 0) (eV i18) rfl rfl)
  have c1 := hc (k := 1) jL (e2_ok (x := .str [97 + i, 97 + j]) (y := .int 1) (eV i18) rfl rfl)
  refine e2_ok (x := .str (wd W (97 + i))) (y := .str (wd W (97 + j))) c0 c1 ?_
  have el : lift W [97 + i, 97 + j] = wd W (97 + i) ++ wd W (97 + j) := by
    unfold lift
    simp
  rw [s_addS, ← el, if_pos (lift_sok g hL hok (by rw [h2]; omega))]
theorem lr7_s (go : Good L 2 rows) (g : Good S 2 W) (hL : L ≤ W.length) (f : En L S rows W env) (n : Nat) : lr7 n env st = .nx (env.set 9 (some (.v (lw S (ovr W rows))))) st := set_v (ec_ok (args_e f) (over_s go g hL))
theorem sortset_e {fa : Fe} {x : Val} {z : SV} {ws : List (List Nat)} (hx : Row ws x) (h : fa env st = .ok z st) (hz : z.froz = .v x) (hl : ws.length < 1000) (h2 : (T ws).length < 64) : eB vSortSet (aCons fa aNil) env st = .ok (.fl (sv (T ws))) st := by
  rw [s_eB, ar_1 h, hz]
  have e : txts x = some ws := by cases hx <;> exact Eng.strs_map ws
  have h3 : (ddS ws).length < 64 := by
    rw [← (sortS_perm (ddS ws)).length_eq]
    exact h2
  have e2 : vSortSet [x] = some (.fl (sv (T ws))) := by
    show (match txts x with | some ys => if ys.length < 1000 ∧ (ddS ys).length < 64 then some (SV.fl ((sortS (ddS ys)).map .str)) else none | none => none) = _
    rw [e]
    show (if ws.length < 1000 ∧ (ddS ws).length < 64 then some (SV.fl ((sortS (ddS ws)).map .str)) else none) = _
    rw [if_pos ⟨hl, h3⟩]
    rfl
  show outO ((valsOf st [SV.v x]).bind vSortSet) st = _
  simp only [s_valsOf, s_val_v, s_valsOf0, Option.bind_some, e2]
  rfl
theorem lr8_s (go : Good L 2 rows) (g : Good S 2 W) (hL : L ≤ W.length) (f : En L S rows W env) (h8 : env[8]? = some (some (.v (.lst (sv (rows.map (lift W))))))) (h9 : env[9]? = some (some (.v (lw S (ovr W rows))))) (n : Nat) : lr8 n env st = .nx env st := by
  have h40 := go.r40
  have go' := ovr_good go g hL
  have hl := ovr_len go g hL
  have s := sortset_e (st := st) (fa := eVar 8) (z := .v (.lst (sv (rows.map (lift W))))) (ws := rows.map (lift W)) .lst (eV h8) rfl (by rw [List.length_map]; omega) (by have := go'.r40; unfold ovr at this; omega)
  have t : eB vTuple (aCons (eB vSortSet (aCons (eVar 8) aNil)) (aNil)) env st = .ok (.v (.tup (sv (ovr W rows)))) st := by
    rw [s_eB, ar_1 s]
    rfl
  have a1 := same_e (st := st) (eV h9) (tup2 (eV f.e2) t) (pd_lw S (ovr W rows) (by rw [hl]; omega) 3)
  have a2 : tV (e2 vNe (eB vLenX (aCons (e2 vIx (eVar 9) (eC (.int 1))) (aNil))) (eB vLenX (aCons (e2 vIx (eVar 17) (eC (.int 1))) (aNil)))) env st = .ok false st := by
    have := tv_v (st := st) (e2_ok (o := vNe) (len1 h9) (len1 f.e17) (ne_int _ _))
    rw [this, hl]
    simp
  refine (if_f ?_).trans rfl
  unfold Eng.tOr
  rw [a1, s_bind_ok]
  exact a2
end
end K77

namespace K77
open PySem PySem.Spec PyProof.Rows L2 Eng
section
variable {st : Sto} {S L : Nat} {W rows ws : List (List Nat)} {env : Eng.Env}
/-! ### the last letter -/
theorem topL_uniq {xs : List (List Nat)} {M : Nat} (hb : ∀ w ∈ xs, ∀ c ∈ w, c ≤ 96 + M) (he : ∃ w ∈ xs, ∃ c ∈ w, c = 96 + M) : topL xs = M := by
  obtain ⟨h1, _, h3⟩ := foldl_max (xs.flatMap fun w => w.map fun c => c - 96) 0
  obtain ⟨w, hw, c, hc, e⟩ := he
  have hge : M ≤ topL xs := by
    have := h1 (c - 96) (List.mem_flatMap.mpr ⟨w, hw, List.mem_map.mpr ⟨c, hc, rfl⟩⟩)
    have h : c - 96 ≤ topL xs := this
    omega
  have hle : topL xs ≤ M := by
    rcases h3 with h3 | h3
    · have : topL xs = 0 := h3
      omega
    · obtain ⟨w', hw', hm⟩ := List.mem_flatMap.mp h3
      obtain ⟨c', hc', e'⟩ := List.mem_map.mp hm
      have := hb w' hw' c' hc'
      have e2 : topL xs = c' - 96 := e'.symm
      omega
  omega
theorem lt_one {c d : Nat} : ([c] : List Nat) < [d] ↔ c < d := by
  constructor
  · intro h
    cases h with
    | rel h => exact h
    | cons h => exact absurd h (List.lt_irrefl _)
  · intro h
    exact List.Lex.rel h
theorem max_w {w : List Nat} (h : w ≠ []) : ∃ c, maxT (w.map fun c => [c]) = some [c] ∧ c ∈ w ∧ ∀ d ∈ w, d ≤ c := by
  obtain ⟨m, h1, h2, h3⟩ := maxT_some (r := w.map fun c => [c]) (by simpa using h)
  obtain ⟨c, hc, rfl⟩ := List.mem_map.mp h2
  refine ⟨c, h1, hc, fun d hd => ?_⟩
  have := h3 [d] (List.mem_map.mpr ⟨d, hd, rfl⟩)
  rw [lt_one] at this
  omega
def mx (w : List Nat) : List Nat := (maxT (w.map fun c => [c])).getD []
theorem last_s (go : Good L 2 rows) : vMaxX [.lst (sv (rows.map mx))] = some (.v (.str [96 + topL rows])) ∧ (∃ w ∈ rows, ∃ c ∈ w, c = 96 + topL rows) ∧ 1 ≤ topL rows ∧ topL rows ≤ 4 := by
  have hne : ∀ w ∈ rows, w ≠ [] := fun w hw e => by
    have := go.len w hw
    rw [e] at this
    simp at this
  obtain ⟨m, h1, h2, h3⟩ := maxT_some (r := rows.map mx) (by simpa using go.ne)
  obtain ⟨w, hw, rfl⟩ := List.mem_map.mp h2
  obtain ⟨c, c1, c2, c3⟩ := max_w (hne w hw)
  have em : mx w = [c] := by unfold mx; rw [c1]; rfl
  rw [em] at h1 h3
  have hb : ∀ v ∈ rows, ∀ d ∈ v, d ≤ c := fun v hv d hd => by
    obtain ⟨e, e1, e2, e3⟩ := max_w (hne v hv)
    have em2 : mx v = [e] := by unfold mx; rw [e1]; rfl
    have := h3 (mx v) (List.mem_map.mpr ⟨v, hv, rfl⟩)
    rw [em2, lt_one] at this
    have := e3 d hd
    omega
  obtain ⟨i, i4, _, rfl⟩ := abcd_c (go.ok w hw) c2
  have ht : topL rows = i + 1 := topL_uniq (fun v hv d hd => by have := hb v hv d hd; omega) ⟨w, hw, _, c2, by omega⟩
  refine ⟨?_, ⟨w, hw, _, c2, by omega⟩, by omega, by omega⟩
  have hx : vMaxS [.lst (sv (rows.map mx))] = some (.v (.str [97 + i])) := by
    show (match strsOf (sv (rows.map mx)) with | some ys => (maxT ys).map fun m => SV.v (.str m) | none => none) = _
    rw [show strsOf (sv (rows.map mx)) = some (rows.map mx) from Eng.strs_map _]
    show (maxT (rows.map mx)).map _ = _
    rw [h1]
    rfl
  unfold vMaxX
  rw [hx, ht, show 96 + (i + 1) = 97 + i by omega]
theorem lr9_s (go : Good L 2 rows) (f : En L S rows W env) (n : Nat) : lr9 n env st = .nx (env.set 10 (some (.v (.str [96 + topL rows])))) st := by
  have h40 := go.r40
  have c := cuts_e (st := st) (k := 18) (fe := eB vMaxX (aCons (eVar 18) (aNil))) mx f.e17 (by omega) fun w hw => by
    obtain ⟨c, c1, _⟩ := max_w (w := w) (fun e => by have := go.len w hw; rw [e] at this; simp at this)
    rw [s_eB, ar_1 (eV (gss (by simp [wipeE, f.n])))]
    have : vMaxX [.str w] = some (.v (.str (mx w))) := by
      have e1 : vMaxS [.str w] = some (.v (.str (mx w))) := by
        show (maxT (w.map fun c => [c])).map (fun m => SV.v (.str m)) = _
        unfold mx
        rw [c1]
        rfl
      unfold vMaxX
      rw [e1]
    show outO ((some [Val.str w]).bind vMaxX) st = _
    rw [Option.bind_some, this]
    rfl
  refine set_v ?_
  rw [s_eB, ar_1 c]
  show outO ((some [Val.lst (sv (rows.map mx))]).bind vMaxX) st = _
  rw [Option.bind_some, (last_s go).1]
  rfl
/-! ### what lies over is found again -/
theorem mem_lows_ovr (go : Good L 2 rows) (g : Good S 2 W) (hL : L ≤ W.length) {w : List Nat} : w ∈ lows W (ovr W rows) ↔ w ∈ rows := by
  unfold lows ovr
  rw [List.mem_map]
  constructor
  · rintro ⟨x, hx, rfl⟩
    obtain ⟨r, hr, rfl⟩ := List.mem_map.mp (mem_T.mp hx)
    rw [(low_lift g hL (go.ok r hr) (go.len r hr)).2]
    exact hr
  · intro hw
    exact ⟨lift W w, mem_T.mpr (List.mem_map.mpr ⟨w, hw, rfl⟩), (low_lift g hL (go.ok w hw) (go.len w hw)).2⟩
theorem fall_ovr (go : Good L 2 rows) (g : Good S 2 W) (hL : L ≤ W.length) : ∀ x ∈ ovr W rows, fall W x := fun x hx => by
  obtain ⟨r, hr, rfl⟩ := List.mem_map.mp (mem_T.mp hx)
  exact (low_lift g hL (go.ok r hr) (go.len r hr)).1
theorem lr10_s (go : Good L 2 rows) (g : Good S 2 W) (hL : L ≤ W.length) (f : En L S rows W env) (h9 : env[9]? = some (some (.v (lw S (ovr W rows))))) (h10 : env[10]? = some (some (.v (.str [96 + topL rows])))) (n : Nat) : lr10 n env st = .nx env st := by
  obtain ⟨_, hx, t1, t4⟩ := last_s go
  have hmem : ∀ w, w ∈ lows W (ovr W rows) ↔ w ∈ rows := fun w => mem_lows_ovr go g hL
  have eT : T (lows W (ovr W rows)) = rows := (T_congr hmem).trans (T_up go.up)
  have hbd : ∀ w ∈ rows, ∀ c ∈ w, c ≤ 96 + topL rows := fun w hw c hc => by
    obtain ⟨h1, _, _⟩ := foldl_max (rows.flatMap fun w => w.map fun c => c - 96) 0
    have h : c - 96 ≤ topL rows := h1 (c - 96) (List.mem_flatMap.mpr ⟨w, hw, List.mem_map.mpr ⟨c, hc, rfl⟩⟩)
    omega
  have et : topL (lows W (ovr W rows)) = topL rows := by
    obtain ⟨w, hw, c, hc, e⟩ := hx
    exact topL_uniq (fun v hv d hd => hbd v ((hmem v).mp hv) d hd) ⟨w, (hmem w).mpr hw, c, hc, e⟩
  have os := outer_s (st := st) (ovr_good go g hL) g (fall_ovr go g hL)
  rw [eT, et] at os
  have a1 : eCall m_outer_of (aCons (eVar 9) (aCons (eVar 16) (aNil))) env st = .ok (.v (lw (topL rows) rows)) st := ec_ok (ar_c (z1 := .v (lw S (ovr W rows))) (eV h9) (ar_1 (z1 := .v (lw S W)) (eV f.e16))) os
  have a2 : e2 vAdd (eM "str" vSIndex (eC (.str [97, 98, 99, 100])) (aCons (eVar 10) (aNil))) (eC (.int 1)) env st = .ok (.v (.int (topL rows : Nat))) st := by
    refine e2_ok (x := .int ((96 + topL rows - 97 : Nat) : Int)) (y := .int 1) (sidx_e h10 ⟨topL rows - 1, by omega, by omega⟩) rfl ?_
    rw [s_add]
    congr 3
    omega
  exact (if_f (same_e a1 (tup2 a2 (row1 f.e17)) (pd_lw _ _ (by have := go.r40; omega) 3))).trans rfl
/-! ### taken apart by halves -/
theorem HH_eq : T (ws.map (List.take 2) ++ ws.map (List.drop 2)) = HH ws := T_congr fun w => by
  rw [mem_hlv, List.mem_append, List.mem_map, List.mem_map]
  constructor
  · rintro (⟨x, hx, rfl⟩ | ⟨x, hx, rfl⟩)
    · exact ⟨x, hx, .inl rfl⟩
    · exact ⟨x, hx, .inr rfl⟩
  · rintro ⟨x, hx, e | e⟩
    · exact .inl ⟨x, hx, e.symm⟩
    · exact .inr ⟨x, hx, e.symm⟩
theorem lr11_s (gw : Good S 4 ws) (hl : ws.length ≤ 20) (f : En L S rows W env) (h9 : env[9]? = some (some (.v (lw S ws)))) (n : Nat) : lr11 n env st = .nx (env.set 11 (some (.v (.lst (sv (HH ws)))))) st := by
  have c1 := takes_e (st := st) (k := 18) (n := 2) (fn := eC (.int 2)) h9 (by omega) (by rw [f.n]; omega) fun z => rfl
  have c2 := drops_e (st := st) (k := 18) (n := 2) (fn := eC (.int 2)) h9 (by omega) (by rw [f.n]; omega) fun z => rfl
  have hll : (ws.map (List.take 2) ++ ws.map (List.drop 2)).length = 2 * ws.length := by rw [List.length_append, List.length_map, List.length_map]; omega
  have c3 := e2_g (o := vAdd) (x := .lst (sv (ws.map (List.take 2)))) (y := .lst (sv (ws.map (List.drop 2)))) (z := .fl (sv (ws.map (List.take 2) ++ ws.map (List.drop 2)))) c1 c2 rfl rfl (by
    rw [s_addL, if_pos (by rw [sv_len, sv_len, List.length_map, List.length_map]; omega)]
    unfold sv
    rw [List.map_append])
  have gH := (HH_good gw hl).r40
  have s := sortset_e (ws := ws.map (List.take 2) ++ ws.map (List.drop 2)) .lst c3 rfl (by omega) (by rw [HH_eq]; omega)
  rw [HH_eq] at s
  exact set_fl s
theorem lr12_s (gw : Good S 4 ws) (hl : ws.length ≤ 20) (h9 : env[9]? = some (some (.v (lw S ws)))) (n : Nat) : lr12 n env st = .nx (env.set 12 (some (.v (splitV S ws)))) st := set_v (ec_1 (eV h9) (split_s gw hl))
theorem lr13_s (h11 : env[11]? = some (some (.v (.lst (sv (HH ws)))))) (h12 : env[12]? = some (some (.v (splitV S ws)))) (n : Nat) : lr13 n env st = .nx env st := by
  have a1 : e2 vIs (eVar 12) (eC .non) env st = .ok (.v (.bl (decide (4 < (HH ws).length)))) st := by
    refine e2_ok (x := splitV S ws) (y := .non) (eV h12) rfl ?_
    unfold splitV
    by_cases h : (HH ws).length ≤ 4
    · rw [if_pos h, decide_eq_false (by omega)]
      rfl
    · rw [if_neg h, decide_eq_true (by omega)]
      rfl
  have a2 : e2 vGt (eB vLenX (aCons (eVar 11) (aNil))) (eC (.int 4)) env st = .ok (.v (.bl (decide (4 < (HH ws).length)))) st := by
    refine e2_ok (x := .int ((sv (HH ws)).length : Nat)) (y := .int 4) (by rw [s_eB, ar_1 (eV h11)]; rfl) rfl ?_
    rw [s_gt, sv_len]
    congr 3
    rw [decide_eq_decide]
    omega
  refine (if_f (tv_v (b := false) (e2_ok (o := vNe) a1 a2 ?_))).trans rfl
  cases decide (4 < (HH ws).length) <;> rfl
end
end K77

namespace K77
open PySem PySem.Spec PyProof.Rows L2 Eng
section
variable {st : Sto} {S L : Nat} {W rows ws : List (List Nat)} {env : Eng.Env}
theorem lidx {H : List (List Nat)} {p : List Nat} (h : p ∈ H) : vLIndex (.lst (sv H)) [.str p] = some (.v (.int (H.idxOf p : Nat))) := by
  show (if (okD (.str p) 31 && okDs (sv H) 31) = true then (findV (.str p) (sv H) 0).map fun k => SV.v (.int (k : Nat)) else none) = _
  rw [okDs_sv, if_pos (by rfl), show findV (.str p) (sv H) 0 = some (0 + H.idxOf p) from idx_s h, Nat.zero_add]
  rfl
theorem lix_e {H : List (List Nat)} {p : List Nat} {fp : Fe} {k : Nat} (hk : env[k]? = some (some (.v (.lst (sv H))))) (hp : fp env st = .ok (.v (.str p)) st) (h : p ∈ H) (h4 : H.idxOf p < 4) : e2 vIx (eC (.str [97, 98, 99, 100])) (eM "list" vLIndex (eVar k) (aCons fp aNil)) env st = .ok (.v (.str [lt H p])) st := by
  refine e2_ok (x := .str [97, 98, 99, 100]) (y := .int (H.idxOf p : Nat)) rfl ?_ (abcd_ix h4)
  rw [s_eM, eV hk]
  simp only [s_bind_ok, s_val_v, s_rcv_lst, if_true, s_aCons, hp, s_aNil, s_froz_v, s_valsOf, s_valsOf0, Option.bind_some]
  rw [lidx h]
  rfl
def in14 (n : Nat) : Fs := (sSeq (sSet (.f) n [] 13 (eB vTuple (aCons (eB vSortX (aCons (eComp (iAnyF (e2 vIx (eVar 9) (eC (.int 1)))) (.n 18) (tYesF) (e2 vAdd (e2 vIx (eC (.str [97, 98, 99, 100])) (eM "list" vLIndex (eVar 11) (aCons (eSl (eVar 18) (pNo) (pAt (eC (.int 2)))) (aNil)))) (e2 vIx (eC (.str [97, 98, 99, 100])) (eM "list" vLIndex (eVar 11) (aCons (eSl (eVar 18) (pAt (eC (.int 2))) (pNo)) (aNil))))) [18]) (aNil))) (aNil)))) (sIf (tOr (tNot (tV (eCall (m__law_same 6) (aCons (eVar 12) (aCons (eTup (aCons (eTup (aCons (eB vLenX (aCons (eVar 11) (aNil))) (aCons (eVar 13) (aNil)))) (aCons (eTup (aCons (eVar 2) (aCons (eB vTuple (aCons (eVar 11) (aNil))) (aNil)))) (aNil)))) (aNil)))))) (tV (e2 vNe (eCall m_over_list (aCons (e2 vIx (eVar 12) (eC (.int 0))) (aCons (e2 vIx (eVar 12) (eC (.int 1))) (aNil)))) (eVar 9)))) (sRet (eC (.bl false))) (sNil)))
theorem lr14_b (n : Nat) : lr14 n = sIf (tV (e2 vIsN (eVar 12) (eC .non))) (in14 n) (sNil) := rfl
theorem sortX_sv (xs : List (List Nat)) : vSortX [.lst (sv xs)] = vSort [.lst (sv xs)] := by cases xs <;> rfl
theorem eq_lw (X Y : Nat) (a b : List (List Nat)) : vEq (lw X a) (lw Y b) = some (.v (.bl (decide (X = Y ∧ a = b)))) := by
  rw [s_eq, if_pos (by
    show ((okD (.int X) 31 && (okDs (sv a) 30 && true)) && (okD (.int Y) 31 && (okDs (sv b) 30 && true))) = true
    rw [okDs_sv, okDs_sv]
    rfl)]
  show some (SV.v (.bl (((X : Int) == (Y : Int)) && (eqBs (sv a) (sv b) && true)))) = _
  rw [eqBs_sv, Bool.and_true]
  have : ((X : Int) == (Y : Int)) = decide (X = Y) := by
    rw [Bool.eq_iff_iff, beq_iff_eq, decide_eq_true_eq]
    omega
  rw [this, Bool.decide_and]
/-- words put together again from their letters -/
theorem ovr_lows (g : Good S 2 W) (gw : Good S 4 ws) (h : ∀ x ∈ ws, fall W x) : ovr W (T (lows W ws)) = ws := by
  unfold ovr
  refine (T_congr fun w => ?_).trans (T_up gw.up)
  rw [List.mem_map]
  constructor
  · rintro ⟨q, hq, rfl⟩
    obtain ⟨x, hx, rfl⟩ := List.mem_map.mp (mem_T.mp hq)
    rw [lift_low g (h x hx)]
    exact hx
  · intro hw
    exact ⟨lowW W w, mem_T.mpr (List.mem_map.mpr ⟨w, hw, rfl⟩), lift_low g (h w hw)⟩
theorem sort_lows (g : Good S 2 W) (gw : Good S 4 ws) (h : ∀ x ∈ ws, fall W x) : sortS (lows W ws) = T (lows W ws) := by
  refine T_of ?_ fun x => Iff.rfl
  have h1 := up_nodup gw.up
  unfold lows
  unfold List.Nodup at h1 ⊢
  rw [List.pairwise_map]
  exact h1.imp_of_mem fun {a b} ha hb hab e => hab (by rw [← lift_low g (h a ha), ← lift_low g (h b hb), e])
theorem lr14_s (gw : Good S 4 ws) (hl : ws.length ≤ 20) (f : En L S rows W env) (h9 : env[9]? = some (some (.v (lw S ws)))) (h11 : env[11]? = some (some (.v (.lst (sv (HH ws)))))) (h12 : env[12]? = some (some (.v (splitV S ws)))) (n : Nat) : ∃ env', lr14 n env st = .nx env' st ∧ En L S rows W env' := by
  rw [lr14_b]
  have gH := HH_good gw hl
  by_cases h4 : (HH ws).length ≤ 4
  · have hv : splitV S ws = .tup [lw (HH ws).length (T (lows (HH ws) ws)), lw S (HH ws)] := by unfold splitV; rw [if_pos h4]
    have hf := HH_fall h4
    rw [hv] at h12
    have tt : tV (e2 vIsN (eVar 12) (eC .non)) env st = .ok true st := tv_v (e2_ok (x := .tup [lw (HH ws).length (T (lows (HH ws) ws)), lw S (HH ws)]) (y := .non) (eV h12) rfl rfl)
    have gl := lows_good gH gw h4 hf
    have c := cuts_e (st := st) (k := 18) (fe := e2 vAdd (e2 vIx (eC (.str [97, 98, 99, 100])) (eM "list" vLIndex (eVar 11) (aCons (eSl (eVar 18) (pNo) (pAt (eC (.int 2)))) (aNil)))) (e2 vIx (eC (.str [97, 98, 99, 100])) (eM "list" vLIndex (eVar 11) (aCons (eSl (eVar 18) (pAt (eC (.int 2))) (pNo)) (aNil))))) (lowW (HH ws)) h9 (by omega) fun w hw => by
      have i18 : ((wipeE env [18]).set 18 (some (.v (.str w))))[18]? = some (some (.v (.str w))) := gss (by simp [wipeE, f.n])
      have i11 : ((wipeE env [18]).set 18 (some (.v (.str w))))[11]? = some (some (.v (.lst (sv (HH ws))))) := gs (by omega) (gs (by omega) h11)
      have fw := hf w hw
      have a1 := lix_e (st := st) i11 (take_e (n := 2) (fn := eC (.int 2)) (eV i18) rfl) (List.mem_of_mem_take fw.1) (wd_lt gH fw.1).2
      have a2 := lix_e (st := st) i11 (drop_e (n := 2) (fn := eC (.int 2)) (eV i18) rfl) (List.mem_of_mem_take fw.2) (wd_lt gH fw.2).2
      refine e2_ok a1 a2 ?_
      have hok := okL_lt (low_ok gH fw (M := 4) (.inr (Nat.le_refl _)))
      rw [s_addS, if_pos (sok_of (l := [lt (HH ws) (w.take 2)] ++ [lt (HH ws) (w.drop 2)]) hok (by simp))]
      rfl
    have hlw : (lows (HH ws) ws).length = ws.length := by unfold lows; rw [List.length_map]
    have s : eB vSortX (aCons (eComp (iAnyF (e2 vIx (eVar 9) (eC (.int 1)))) (.n 18) (tYesF) (e2 vAdd (e2 vIx (eC (.str [97, 98, 99, 100])) (eM "list" vLIndex (eVar 11) (aCons (eSl (eVar 18) (pNo) (pAt (eC (.int 2)))) (aNil)))) (e2 vIx (eC (.str [97, 98, 99, 100])) (eM "list" vLIndex (eVar 11) (aCons (eSl (eVar 18) (pAt (eC (.int 2))) (pNo)) (aNil))))) [18]) (aNil)) env st = .ok (.fl (sv (T (lows (HH ws) ws)))) st := by
      rw [s_eB, ar_1 c]
      have e : vSort [.lst (sv (lows (HH ws) ws))] = some (.fl (sv (T (lows (HH ws) ws)))) := by
        show (match strsOf (sv (lows (HH ws) ws)) with | some ys => if ys.length < 64 then some (SV.fl ((sortS ys).map .str)) else none | none => (intsOf (sv (lows (HH ws) ws))).map fun ys => .fl ((sortI ys).map .int)) = _
        rw [show strsOf (sv (lows (HH ws) ws)) = some (lows (HH ws) ws) from Eng.strs_map _]
        show (if (lows (HH ws) ws).length < 64 then some (SV.fl ((sortS (lows (HH ws) ws)).map .str)) else none) = _
        rw [if_pos (by omega), sort_lows gH gw hf]
        rfl
      have e2' : vSortX [.lst (sv (lows (HH ws) ws))] = some (.fl (sv (T (lows (HH ws) ws)))) := by
        rw [sortX_sv, e]
      show outO ((some [Val.lst (sv (lows (HH ws) ws))]).bind vSortX) st = _
      rw [Option.bind_some, e2']
      rfl
    have s13 : eB vTuple (aCons (eB vSortX (aCons (eComp (iAnyF (e2 vIx (eVar 9) (eC (.int 1)))) (.n 18) (tYesF) (e2 vAdd (e2 vIx (eC (.str [97, 98, 99, 100])) (eM "list" vLIndex (eVar 11) (aCons (eSl (eVar 18) (pNo) (pAt (eC (.int 2)))) (aNil)))) (e2 vIx (eC (.str [97, 98, 99, 100])) (eM "list" vLIndex (eVar 11) (aCons (eSl (eVar 18) (pAt (eC (.int 2))) (pNo)) (aNil))))) [18]) (aNil))) (aNil)) env st = .ok (.v (.tup (sv (T (lows (HH ws) ws))))) st := by
      rw [s_eB, ar_1 s]
      rfl
    have f' : En L S rows W (env.set 13 (some (.v (.tup (sv (T (lows (HH ws) ws))))))) := f.set rfl
    have i13 : (env.set 13 (some (.v (.tup (sv (T (lows (HH ws) ws)))))))[13]? = some (some (.v (.tup (sv (T (lows (HH ws) ws)))))) := gss (by rw [f.n]; omega)
    have i11 : (env.set 13 (some (.v (.tup (sv (T (lows (HH ws) ws)))))))[11]? = some (some (.v (.lst (sv (HH ws))))) := gs (by omega) h11
    have i12 : (env.set 13 (some (.v (.tup (sv (T (lows (HH ws) ws)))))))[12]? = some (some (.v (.tup [lw (HH ws).length (T (lows (HH ws) ws)), lw S (HH ws)]))) := gs (by omega) h12
    have i9 : (env.set 13 (some (.v (.tup (sv (T (lows (HH ws) ws)))))))[9]? = some (some (.v (lw S ws))) := gs (by omega) h9
    have b1 : eB vLenX (aCons (eVar 11) (aNil)) (env.set 13 (some (.v (.tup (sv (T (lows (HH ws) ws))))))) st = .ok (.v (.int ((HH ws).length : Nat))) st := by
      rw [s_eB, ar_1 (eV i11)]
      show outO (some (SV.v (Val.int ((sv (HH ws)).length : Nat)))) st = _
      rw [sv_len]
      rfl
    have b2 : eB vTuple (aCons (eVar 11) (aNil)) (env.set 13 (some (.v (.tup (sv (T (lows (HH ws) ws))))))) st = .ok (.v (.tup (sv (HH ws)))) st := by
      rw [s_eB, ar_1 (eV i11)]
      rfl
    have t40 := gl.r40
    have h40 := gH.r40
    have a1 := same_e (st := st) (eV i12) (tup2 (tup2 b1 (eV i13)) (tup2 (eV f'.e2) b2)) (pd_t (by simp) (pds_c (pd_lw _ _ (by omega) 2) (pds_c (pd_lw _ _ (by omega) 2) (by simp [pds]))))
    have o := over_s (st := st) gl gH (Nat.le_refl _)
    rw [ovr_lows gH gw hf] at o
    have x0 : e2 vIx (eVar 12) (eC (.int 0)) (env.set 13 (some (.v (.tup (sv (T (lows (HH ws) ws))))))) st = .ok (.v (lw (HH ws).length (T (lows (HH ws) ws)))) st := e2_ok (x := .tup [lw (HH ws).length (T (lows (HH ws) ws)), lw S (HH ws)]) (y := .int 0) (eV i12) rfl rfl
    have x1 : e2 vIx (eVar 12) (eC (.int 1)) (env.set 13 (some (.v (.tup (sv (T (lows (HH ws) ws))))))) st = .ok (.v (lw S (HH ws))) st := e2_ok (x := .tup [lw (HH ws).length (T (lows (HH ws) ws)), lw S (HH ws)]) (y := .int 1) (eV i12) rfl rfl
    have a2 : tV (e2 vNe (eCall m_over_list (aCons (e2 vIx (eVar 12) (eC (.int 0))) (aCons (e2 vIx (eVar 12) (eC (.int 1))) (aNil)))) (eVar 9)) (env.set 13 (some (.v (.tup (sv (T (lows (HH ws) ws))))))) st = .ok false st := by
      have := tv_v (e2_ok (o := vNe) (ec_ok (ar_c x0 (ar_1 x1)) o) (eV i9) (ne_lw _ _ _ _))
      rw [this]
      simp
    refine ⟨_, (if_t tt).trans ((seq_nx (set_v s13)).trans ((if_f (st1 := st) ?_).trans rfl)), f'⟩
    unfold Eng.tOr
    rw [a1, s_bind_ok]
    exact a2
  · have hv : splitV S ws = .non := by unfold splitV; rw [if_neg h4]
    rw [hv] at h12
    exact ⟨env, (if_f (tv_v (b := false) (e2_ok (x := .non) (y := .non) (eV h12) rfl rfl))).trans rfl, f⟩
end
end K77

namespace K77
open PySem PySem.Spec PyProof.Rows L2 Eng
section
variable {st : Sto} {S L : Nat} {W rows ws : List (List Nat)} {env : Eng.Env}
theorem lr15_s {x0 : SO} (hS1 : 1 ≤ S) (hS4 : S ≤ 4) (hc : Cup [x0] st) (f : En L S rows W env) (n : Nat) : ∃ more st', Good S 4 more ∧ more.length ≤ 6 ∧ Cup [x0] st' ∧ lr15 n env st = .nx (env.set 14 (some (.v (lw S more)))) st' := by
  obtain ⟨more, st', g, hl, c, e⟩ := law_list_s (L := S) (len := 4) (many := 3) (most := 6) hS1 hS4 (by omega) (by omega) (by omega) (by omega) (by omega) (by omega) hc
  exact ⟨more, st', g, hl, c, set_v (ec_ok (ar_c (z1 := .loc 0) (eV f.e0) (ar_c (z1 := .v (.int (S : Nat))) (eV f.e2) (ar_c (z1 := .v (.int (4 : Nat))) rfl (ar_c (z1 := .v (.int (3 : Nat))) rfl (ar_1 (z1 := .v (.int (6 : Nat))) rfl))))) e)⟩
theorem w4_e {k : Nat} (h : env[k]? = some (some (.v (lw S W)))) : eSl (e2 vIx (eVar k) (eC (.int 1))) (pNo) (pAt (eC (.int 4))) env st = .ok (.v (.tup (sv (W.take 4)))) st := by
  rw [s_eSl, row1 h]
  simp only [s_bind_ok, s_pAt, s_eC, s_pInt, s_val_v, Option.bind_some, pNo]
  have : cutL (sv W) none (some (4 : Int)) = sv (W.take 4) := by
    have := cutT (sv W) 4
    rw [show ((4 : Nat) : Int) = 4 from rfl] at this
    rw [this]
    unfold sv
    rw [List.map_take]
  show outO (some (SV.v (Val.tup (cutL (sv W) none (some (4 : Int)))))) st = _
  rw [this]
  rfl
theorem lr16_s {more : List (List Nat)} (gm : Good S 4 more) (f : En L S rows W env) (h14 : env[14]? = some (some (.v (lw S more)))) (n : Nat) : lr16 n env st = .nx (env.set 15 (some (.v (.bl (decide (∀ x ∈ more, fall W x)))))) st := by
  have h40 := gm.r40
  have c := comp_a (st := st) (env := env) (xs := more) (fun w => .str w) (fun w => !decide (fall W w)) (fun w => .str w) (p := .n 18) (t := tOr (tV (e2 vNotIn (eSl (eVar 18) (pNo) (pAt (eC (.int 2)))) (eSl (e2 vIx (eVar 16) (eC (.int 1))) (pNo) (pAt (eC (.int 4)))))) (tV (e2 vNotIn (eSl (eVar 18) (pAt (eC (.int 2))) (pNo)) (eSl (e2 vIx (eVar 16) (eC (.int 1))) (pNo) (pAt (eC (.int 4))))))) (fe := eVar 18) (is := [18]) (fi := iAnyF (e2 vIx (eVar 14) (eC (.int 1)))) (any_tup (row1 h14)) (by omega) fun w hw => by
    have i18 : ((wipeE env [18]).set 18 (some (.v (.str w))))[18]? = some (some (.v (.str w))) := gss (by simp [wipeE, f.n])
    have i16 : ((wipeE env [18]).set 18 (some (.v (.str w))))[16]? = some (some (.v (lw S W))) := gs (by omega) (gs (by omega) f.e16)
    refine ⟨_, rfl, ?_, fun _ => ⟨_, eV i18, rfl⟩⟩
    have ni : ∀ p : List Nat, vNotIn (.str p) (.tup (sv (W.take 4))) = some (.v (.bl (!decide (p ∈ W.take 4)))) := fun p => by
      rw [s_notin]
      unfold sv
      rw [in_str]
      rfl
    have a1 := tv_v (e2_ok (take_e (st := st) (n := 2) (fn := eC (.int 2)) (eV i18) rfl) (w4_e i16) (ni _))
    have a2 := tv_v (e2_ok (drop_e (st := st) (n := 2) (fn := eC (.int 2)) (eV i18) rfl) (w4_e i16) (ni _))
    unfold Eng.tOr
    rw [a1, s_bind_ok]
    by_cases h1 : w.take 2 ∈ W.take 4
    · rw [decide_eq_true h1]
      refine a2.trans ?_
      congr 2
      rw [decide_eq_decide]
      exact ⟨fun h => ⟨h1, h⟩, fun h => h.2⟩
    · rw [decide_eq_false h1, decide_eq_false (p := fall W w) fun h => h1 h.1]
      rfl
  have he := e2_g (o := vEq) (y := .lst (sv [])) (zb := .fl []) c (by rfl : eLst aNil env st = .ok (.fl []) st) rfl rfl (eq_sv (more.filter fun w => !decide (fall W w)) [])
  have e : decide ((more.filter fun w => !decide (fall W w)) = []) = decide (∀ x ∈ more, fall W x) := by
    rw [decide_eq_decide, List.filter_eq_nil_iff]
    simp
  rw [e] at he
  exact set_v he
def toldV (S : Nat) (W more : List (List Nat)) : Val := if ∀ x ∈ more, fall W x then lw (topL (lows W more)) (T (lows W more)) else .non
theorem lr17_s {more : List (List Nat)} (gm : Good S 4 more) (g : Good S 2 W) (f : En L S rows W env) (h14 : env[14]? = some (some (.v (lw S more)))) (n : Nat) : lr17 n env st = .nx (env.set 12 (some (.v (toldV S W more)))) st := by
  refine set_v (ec_ok (ar_c (eV h14) (ar_1 (eV f.e16))) ?_)
  unfold toldV
  by_cases h : ∀ x ∈ more, fall W x
  · rw [if_pos h]
    exact outer_s gm g h
  · rw [if_neg h]
    exact outer_n gm g h
theorem lr18_s {more : List (List Nat)} (gm : Good S 4 more) (g : Good S 2 W) (f : En L S rows W env) (h14 : env[14]? = some (some (.v (lw S more)))) (h15 : env[15]? = some (some (.v (.bl (decide (∀ x ∈ more, fall W x)))))) (h12 : env[12]? = some (some (.v (toldV S W more)))) (n : Nat) : lr18 n env st = .rt (.v (.bl true)) st := by
  refine ret_v ?_
  by_cases h : ∀ x ∈ more, fall W x
  · have hv : toldV S W more = lw (topL (lows W more)) (T (lows W more)) := by unfold toldV; rw [if_pos h]
    rw [hv] at h12
    rw [decide_eq_true h] at h15
    obtain ⟨gl, hle, _⟩ := lows_top g gm h
    have o := over_s (st := st) gl g hle
    rw [ovr_lows g gm h] at o
    have a1 : e2 vEq (e2 vIsN (eVar 12) (eC .non)) (eVar 15) env st = .ok (.v (.bl true)) st := e2_ok (x := .bl true) (y := .bl true) (e2_ok (x := lw (topL (lows W more)) (T (lows W more))) (y := .non) (eV h12) rfl rfl) (eV h15) rfl
    have a2 : e2 vIs (eVar 12) (eC .non) env st = .ok (.v (.bl false)) st := e2_ok (x := lw (topL (lows W more)) (T (lows W more))) (y := .non) (eV h12) rfl rfl
    have a3 : e2 vEq (eCall m_over_list (aCons (eVar 12) (aCons (eVar 16) (aNil)))) (eVar 14) env st = .ok (.v (.bl true)) st := by
      have := e2_ok (o := vEq) (ec_ok (ar_c (eV h12) (ar_1 (eV f.e16))) o) (eV h14) (eq_lw _ _ _ _)
      rw [this]
      simp
    rw [s_eAnd, a1, s_bind_ok]
    show eOr (e2 vIs (eVar 12) (eC .non)) (e2 vEq (eCall m_over_list (aCons (eVar 12) (aCons (eVar 16) (aNil)))) (eVar 14)) env st = _
    rw [s_eOr, a2, s_bind_ok]
    exact a3
  · have hv : toldV S W more = .non := by unfold toldV; rw [if_neg h]
    rw [hv] at h12
    rw [decide_eq_false h] at h15
    have a1 : e2 vEq (e2 vIsN (eVar 12) (eC .non)) (eVar 15) env st = .ok (.v (.bl true)) st := e2_ok (x := .bl false) (y := .bl false) (e2_ok (x := .non) (y := .non) (eV h12) rfl rfl) (eV h15) rfl
    have a2 : e2 vIs (eVar 12) (eC .non) env st = .ok (.v (.bl true)) st := e2_ok (x := .non) (y := .non) (eV h12) rfl rfl
    rw [s_eAnd, a1, s_bind_ok]
    show eOr (e2 vIs (eVar 12) (eC .non)) (e2 vEq (eCall m_over_list (aCons (eVar 12) (aCons (eVar 16) (aNil)))) (eVar 14)) env st = _
    rw [s_eOr, a2, s_bind_ok]
    rfl
end
end K77

namespace K77
open PySem PySem.Spec PyProof.Rows L2 Eng
theorem bf_c {n : Nat} {fa : Fe} {fr : Fb} {env env3 : Eng.Env} {st st1 st3 : Sto} {x : Val} {zs : List SV} (h : fa env st = .ok (.v x) st1) (k : fr env st1 = .ok zs env3 st3) : bCons .f n [] fa fr env st = .ok (.v x :: zs) env3 st3 := by
  unfold bCons
  rw [h]
  simp only [Md.run]
  show Rb.cons _ (fr env st1) = _
  rw [k]
  rfl
theorem lr0_s {L S size most : Nat} (h1 : 1 ≤ L) (h4 : L ≤ 4) (s1 : 1 ≤ S) (s4 : S ≤ 4) (m1 : 1 ≤ size) (m2 : size ≤ 12) (k1 : 1 ≤ most) (k2 : most ≤ 40) {x0 : SO} {st : Sto} (hc : Cup [x0] st) (n : Nat) :
    ∃ rows W st', Good L 2 rows ∧ rows.length ≤ most ∧ Good S 2 W ∧ Cup [x0] st' ∧ lr0 n (rE L S size most none none none) st = .nx (rE L S size most none (some (.v (lw S W))) (some (.v (lw L rows)))) st' := by
  obtain ⟨rows, q1, go, l1, c1, e1⟩ := law_list_s (L := L) (len := 2) h1 h4 (by omega) (by omega) m1 m2 k1 k2 hc
  obtain ⟨W, q2, g, l2, c2, e2'⟩ := law_list_s (L := S) (len := 2) s1 s4 (by omega) (by omega) m1 m2 k1 k2 c1
  refine ⟨rows, W, q2, go, l1, g, c2, tup_nx (bf_c (ec_ok (ar_c (z1 := .loc 0) rfl (ar_c (z1 := .v (.int (L : Nat))) rfl (ar_c (z1 := .v (.int (2 : Nat))) rfl (ar_c (z1 := .v (.int (size : Nat))) rfl (ar_1 (z1 := .v (.int (most : Nat))) rfl))))) e1) (bf_c (ec_ok (ar_c (z1 := .loc 0) rfl (ar_c (z1 := .v (.int (S : Nat))) rfl (ar_c (z1 := .v (.int (2 : Nat))) rfl (ar_c (z1 := .v (.int (size : Nat))) rfl (ar_1 (z1 := .v (.int (most : Nat))) rfl))))) e2') rfl)) rfl⟩
theorem take_1 {x0 : SO} {st : Sto} (h : Cup [x0] st) : ∃ a b : Int, st = [C a b, x0] ∧ 0 ≤ a ∧ 0 ≤ b ∧ b < 4294967296 := by
  obtain ⟨a, b, h1, h2, h3, rfl⟩ := h
  exact ⟨a, b, rfl, h1, h2, h3⟩
theorem right_s {L S size most : Nat} (h1 : 1 ≤ L) (h4 : L ≤ 4) (s1 : 1 ≤ S) (s4 : S ≤ 4) (m1 : 1 ≤ size) (m2 : size ≤ 12) (k1 : 1 ≤ most) (k2 : most ≤ 20) {st : Sto} (hc : Cup [] st) :
    ∃ st', Cup [] st' ∧ m__law_right [.loc 0, .v (.int (L : Nat)), .v (.int (S : Nat)), .v (.int (size : Nat)), .v (.int (most : Nat))] st = .ok (.v (.bl true)) st' := by
  obtain ⟨a, b, ha, hb, hb2, rfl⟩ := hc
  obtain ⟨rows, W, q0, go, hl, g, c0, t0⟩ := lr0_s h1 h4 s1 s4 m1 m2 k1 (by omega) (st := [C a b, .dead]) (x0 := .dead) ⟨a, b, ha, hb, hb2, rfl⟩ 1
  obtain ⟨a1, b1, rfl, ha1, hb1, hb12⟩ := take_1 c0
  have f0 : En L S rows W (rE L S size most none (some (.v (lw S W))) (some (.v (lw L rows)))) := ⟨rfl, rfl, rfl, rfl, rfl, rfl⟩
  have t1 := lr1_s (st := [C a1 b1, .dead]) f0 1
  have f1 : En L S rows W (rE L S size most (some (.v (.bl (decide (W.length < L))))) (some (.v (lw S W))) (some (.v (lw L rows)))) := ⟨rfl, rfl, rfl, rfl, rfl, rfl⟩
  have t2 := lr2_s (st := [C a1 b1, .dead]) go g f1 rfl 1
  by_cases hL : L ≤ W.length
  · have t3 : lr3 1 (rE L S size most (some (.v (.bl (decide (W.length < L))))) (some (.v (lw S W))) (some (.v (lw L rows)))) [C a1 b1, .dead] = .nx (rE L S size most (some (.v (.bl (decide (W.length < L))))) (some (.v (lw S W))) (some (.v (lw L rows)))) [C a1 b1, .dead] := by
      refine (if_f ?_).trans rfl
      have := tv_v (st := [C a1 b1, .dead]) (fa := eVar 5) (env := rE L S size most (some (.v (.bl (decide (W.length < L))))) (some (.v (lw S W))) (some (.v (lw L rows)))) (b := decide (W.length < L)) rfl
      rw [this, decide_eq_false (by omega)]
    have t4 := lr4_s (L := L) (S := S) (W := W) (rows := rows) size most (decide (W.length < L)) a1 b1
    obtain ⟨v4, hv4⟩ : ∃ v4, v4 = (rE L S size most (some (.v (.bl (decide (W.length < L))))) (some (.v (lw S W))) (some (.v (lw L rows)))).set 6 (some (.loc 1)) := ⟨_, rfl⟩
    have f4 : En L S rows W v4 := hv4 ▸ f1.set rfl
    have i6 : v4[6]? = some (some (.loc 1)) := hv4 ▸ rfl
    rw [← hv4] at t4
    obtain ⟨v5, t5, f5, j6⟩ := lr5_s g h1 h4 hL f4 (a := a1) (b := b1) i6
    have t6 := lr6_s go g hL f5 (a := a1) (b := b1) j6 1
    have f6 : En L S rows W (v5.set 8 (some (.v (.lst (sv (rows.map (lift W))))))) := f5.set rfl
    have i8 : (v5.set 8 (some (.v (.lst (sv (rows.map (lift W)))))))[8]? = some (some (.v (.lst (sv (rows.map (lift W)))))) := gss (by rw [f5.n]; omega)
    obtain ⟨v6, hv6⟩ : ∃ v, v = v5.set 8 (some (.v (.lst (sv (rows.map (lift W)))))) := ⟨_, rfl⟩
    rw [← hv6] at t6 f6 i8
    have t7 := lr7_s (st := SN a1 b1 W L) go g hL f6 1
    have f7 : En L S rows W (v6.set 9 (some (.v (lw S (ovr W rows))))) := f6.set rfl
    have i9 : (v6.set 9 (some (.v (lw S (ovr W rows)))))[9]? = some (some (.v (lw S (ovr W rows)))) := gss (by rw [f6.n]; omega)
    have j8 : (v6.set 9 (some (.v (lw S (ovr W rows)))))[8]? = some (some (.v (.lst (sv (rows.map (lift W)))))) := gs (by omega) i8
    obtain ⟨v7, hv7⟩ : ∃ v, v = v6.set 9 (some (.v (lw S (ovr W rows)))) := ⟨_, rfl⟩
    rw [← hv7] at t7 f7 i9 j8
    have t8 := lr8_s (st := SN a1 b1 W L) go g hL f7 j8 i9 1
    have t9 := lr9_s (st := SN a1 b1 W L) go f7 1
    have f9 : En L S rows W (v7.set 10 (some (.v (.str [96 + topL rows])))) := f7.set rfl
    have i10 : (v7.set 10 (some (.v (.str [96 + topL rows]))))[10]? = some (some (.v (.str [96 + topL rows]))) := gss (by rw [f7.n]; omega)
    have k9 : (v7.set 10 (some (.v (.str [96 + topL rows]))))[9]? = some (some (.v (lw S (ovr W rows)))) := gs (by omega) i9
    obtain ⟨v9, hv9⟩ : ∃ v, v = v7.set 10 (some (.v (.str [96 + topL rows]))) := ⟨_, rfl⟩
    rw [← hv9] at t9 f9 i10 k9
    have t10 := lr10_s (st := SN a1 b1 W L) go g hL f9 k9 i10 1
    have gw := ovr_good go g hL
    have hwl : (ovr W rows).length ≤ 20 := by rw [ovr_len go g hL]; omega
    have t11 := lr11_s (st := SN a1 b1 W L) gw hwl f9 k9 1
    obtain ⟨v11, hv11⟩ : ∃ v, v = v9.set 11 (some (.v (.lst (sv (HH (ovr W rows)))))) := ⟨_, rfl⟩
    have f11 : En L S rows W v11 := hv11 ▸ f9.set rfl
    have i11 : v11[11]? = some (some (.v (.lst (sv (HH (ovr W rows)))))) := hv11 ▸ gss (by rw [f9.n]; omega)
    have l9 : v11[9]? = some (some (.v (lw S (ovr W rows)))) := hv11 ▸ gs (by omega) k9
    rw [← hv11] at t11
    have t12 := lr12_s (st := SN a1 b1 W L) gw hwl l9 1
    obtain ⟨v12, hv12⟩ : ∃ v, v = v11.set 12 (some (.v (splitV S (ovr W rows)))) := ⟨_, rfl⟩
    have f12 : En L S rows W v12 := hv12 ▸ f11.set rfl
    have i12 : v12[12]? = some (some (.v (splitV S (ovr W rows)))) := hv12 ▸ gss (by rw [f11.n]; omega)
    have j11 : v12[11]? = some (some (.v (.lst (sv (HH (ovr W rows)))))) := hv12 ▸ gs (by omega) i11
    have m9 : v12[9]? = some (some (.v (lw S (ovr W rows)))) := hv12 ▸ gs (by omega) l9
    rw [← hv12] at t12
    have t13 := lr13_s (st := SN a1 b1 W L) j11 i12 1
    obtain ⟨v14, t14, f14⟩ := lr14_s (st := SN a1 b1 W L) gw hwl f12 m9 j11 i12 1
    obtain ⟨more, q15, gm, hml, c15, t15⟩ := lr15_s (st := SN a1 b1 W L) (x0 := .dic false (nm W L)) s1 s4 ⟨a1, b1, ha1, hb1, hb12, rfl⟩ f14 1
    obtain ⟨v15, hv15⟩ : ∃ v, v = v14.set 14 (some (.v (lw S more))) := ⟨_, rfl⟩
    have f15 : En L S rows W v15 := hv15 ▸ f14.set rfl
    have i14 : v15[14]? = some (some (.v (lw S more))) := hv15 ▸ gss (by rw [f14.n]; omega)
    rw [← hv15] at t15
    have t16 := lr16_s (st := q15) gm f15 i14 1
    obtain ⟨v16, hv16⟩ : ∃ v, v = v15.set 15 (some (.v (.bl (decide (∀ x ∈ more, fall W x))))) := ⟨_, rfl⟩
    have f16 : En L S rows W v16 := hv16 ▸ f15.set rfl
    have i15 : v16[15]? = some (some (.v (.bl (decide (∀ x ∈ more, fall W x))))) := hv16 ▸ gss (by rw [f15.n]; omega)
    have j14 : v16[14]? = some (some (.v (lw S more))) := hv16 ▸ gs (by omega) i14
    rw [← hv16] at t16
    have t17 := lr17_s (st := q15) gm g f16 j14 1
    have f17 : En L S rows W (v16.set 12 (some (.v (toldV S W more)))) := f16.set rfl
    have t18 := lr18_s (st := q15) gm g f17 (gs (by omega) j14) (gs (by omega) i15) (gss (by rw [f16.n]; omega)) 1
    obtain ⟨a2, b2, rfl, ha2, hb2', hb22⟩ := take_1 c15
    refine ⟨[C a2 b2], ⟨a2, b2, ha2, hb2', hb22, rfl⟩, ?_⟩
    have body : b__law_right 1 (rE L S size most none none none) [C a b, .dead] = .rt (.v (.bl true)) [C a2 b2, .dic false (nm W L)] := by
      rw [right_b]
      exact (seq_nx t0).trans ((seq_nx t1).trans ((seq_nx t2).trans ((seq_nx t3).trans ((seq_nx t4).trans ((seq_nx t5).trans ((seq_nx t6).trans ((seq_nx t7).trans ((seq_nx t8).trans ((seq_nx t9).trans ((seq_nx t10).trans ((seq_nx t11).trans ((seq_nx t12).trans ((seq_nx t13).trans ((seq_nx t14).trans ((seq_nx t15).trans ((seq_nx t16).trans ((seq_nx t17).trans t18)))))))))))))))))
    exact (call_rt (N := 19) (m := 1) (body := b__law_right) (z := .v (.bl true)) (z' := .v (.bl true)) (st' := [C a2 b2, .dic false (nm W L)]) body rfl)
  · refine ⟨[C a1 b1], ⟨a1, b1, ha1, hb1, hb12, rfl⟩, ?_⟩
    have body : b__law_right 1 (rE L S size most none none none) [C a b, .dead] = .rt (.v (.bl true)) [C a1 b1, .dead] := by
      rw [right_b]
      refine (seq_nx t0).trans ((seq_nx t1).trans ((seq_nx t2).trans ?_))
      unfold sSeq
      have := tv_v (st := [C a1 b1, .dead]) (fa := eVar 5) (env := rE L S size most (some (.v (.bl (decide (W.length < L))))) (some (.v (lw S W))) (some (.v (lw L rows)))) (b := decide (W.length < L)) rfl
      rw [decide_eq_true (by omega)] at this
      rw [decide_eq_true (p := W.length < L) (by omega)]
      rfl
    exact (call_rt (N := 19) (m := 1) (body := b__law_right) (z := .v (.bl true)) (z' := .v (.bl true)) (st' := [C a1 b1, .dead]) body rfl)
end K77

namespace K77
open PySem PySem.Spec PyProof.Rows L2 Eng
def lw0 (n : Nat) : Fs := sSet (.c 0) n [] 1 (eCall m__law_cup (aCons (eVar 0) (aNil)))
def lw1 (n : Nat) : Fs := sTup (bCons (.f) n [] (eTup (aCons (eC (.int 2)) (aCons (eTup (aCons (eC (.str [97, 98])) (aCons (eC (.str [98, 98])) (aNil)))) (aNil)))) (bCons (.f) n [] (eTup (aCons (eC (.int 2)) (aCons (eTup (aCons (eC (.str [97, 98])) (aCons (eC (.str [98, 97])) (aNil)))) (aNil)))) (bNil))) (gsCons (gN 2) (gsCons (gN 3) (gsNil)))
def lw2 (n : Nat) : Fs := sSet (.f) n [] 4 (eTup (aCons (eC (.int 2)) (aCons (eTup (aCons (eC (.str [97, 98, 98, 97])) (aCons (eC (.str [98, 97, 98, 97])) (aNil)))) (aNil))))
def lw3 (n : Nat) : Fs := sSet (.f) n [] 5 (eTup (aCons (eCall m_over_list (aCons (eVar 2) (aCons (eVar 3) (aNil)))) (aCons (eCall m_outer_of (aCons (eVar 4) (aCons (eVar 3) (aNil)))) (aCons (eCall m_split_over (aCons (eVar 4) (aNil))) (aCons (eCall m_split_over (aCons (eTup (aCons (eC (.int 2)) (aCons (eTup (aCons (eC (.str [97, 98, 97, 98])) (aNil))) (aNil)))) (aNil))) (aCons (eCall m_outer_of (aCons (eTup (aCons (eC (.int 2)) (aCons (eTup (aCons (eC (.str [97, 97, 98, 98])) (aNil))) (aNil)))) (aCons (eVar 3) (aNil)))) (aCons (eCall m_split_over (aCons (eTup (aCons (eC (.int 2)) (aCons (eTup (aCons (eC (.str [97, 97, 98])) (aNil))) (aNil)))) (aNil))) (aNil))))))))
def lw4 (n : Nat) : Fs := sIf (tNot (tV (eCall (m__law_same 6) (aCons (eVar 5) (aCons (eTup (aCons (eVar 4) (aCons (eVar 2) (aCons (eTup (aCons (eVar 2) (aCons (eVar 3) (aNil)))) (aCons (eTup (aCons (eTup (aCons (eC (.int 1)) (aCons (eTup (aCons (eC (.str [97, 97])) (aNil))) (aNil)))) (aCons (eTup (aCons (eC (.int 2)) (aCons (eTup (aCons (eC (.str [97, 98])) (aNil))) (aNil)))) (aNil)))) (aCons (eC .non) (aCons (eC .non) (aNil)))))))) (aNil)))))) (sRet (eC (.bl false))) (sNil)
def lw5 (n : Nat) : Fs := sSet (.f) n [] 5 (eTup (aCons (eCall m_split_over (aCons (eTup (aCons (eC (.int 3)) (aCons (eTup (aCons (eC (.str [97, 97, 98, 98])) (aCons (eC (.str [97, 98, 97, 99])) (aCons (eC (.str [98, 99, 97, 97])) (aNil))))) (aNil)))) (aNil))) (aCons (eCall m_outer_of (aCons (eTup (aCons (eC (.int 2)) (aCons (eTup (aCons (eC (.str [97, 98, 98, 97])) (aNil))) (aNil)))) (aCons (eTup (aCons (eC (.int 3)) (aCons (eTup (aCons (eC (.str [97, 98])) (aCons (eC (.str [98, 97])) (aNil)))) (aNil)))) (aNil)))) (aCons (eCall m_outer_of (aCons (eTup (aCons (eC (.int 2)) (aCons (eTup (aCons (eC (.str [97, 98])) (aNil))) (aNil)))) (aCons (eVar 3) (aNil)))) (aNil)))))
def lw6 (n : Nat) : Fs := sIf (tNot (tV (eCall (m__law_same 6) (aCons (e2 vAdd (eVar 5) (eTup (aCons (eCall m_outer_of (aCons (eTup (aCons (eC (.int 2)) (aCons (eTup (aCons (eC (.str [97, 98, 97, 98])) (aNil))) (aNil)))) (aCons (eTup (aCons (eC (.int 2)) (aCons (eTup (aCons (eC (.str [97, 97, 97, 98])) (aCons (eC (.str [97, 98, 97, 98])) (aNil)))) (aNil)))) (aNil)))) (aNil)))) (aCons (eTup (aCons (eC .non) (aCons (eC .non) (aCons (eC .non) (aCons (eC .non) (aNil)))))) (aNil)))))) (sRet (eC (.bl false))) (sNil)
def lw7 (n : Nat) : Fs := sSet (.f) n [] 6 (eLst (aCons (eTup (aCons (eTup (aCons (eC (.int 3)) (aCons (eTup (aCons (eC (.str [97, 99])) (aNil))) (aNil)))) (aCons (eVar 3) (aNil)))) (aCons (eTup (aCons (eTup (aCons (eC (.int 2)) (aCons (eTup (aCons (eC (.str [97, 97, 98])) (aNil))) (aNil)))) (aCons (eVar 3) (aNil)))) (aCons (eTup (aCons (eVar 2) (aCons (eTup (aCons (eC (.int 2)) (aCons (eTup (aCons (eC (.str [97, 97, 98])) (aCons (eC (.str [97, 98, 98])) (aNil)))) (aNil)))) (aNil)))) (aCons (eTup (aCons (eTup (aCons (eC (.int 2)) (aCons (eTup (aCons (eC (.str [97, 98])) (aNil))) (aNil)))) (aCons (eTup (aCons (eC (.int 2)) (aCons (eTup (aCons (eC (.str [97, 98])) (aNil))) (aNil)))) (aNil)))) (aNil))))))
def lw8 (n : Nat) : Fs := sIf (tV (e2 vNe (eComp (iAnyF (eVar 6)) (.n 11) (tNot (tV (eRef (mtOne "InvalidList") (eCall m_over_list (aCons (e2 vIx (eVar 11) (eC (.int 0))) (aCons (e2 vIx (eVar 11) (eC (.int 1))) (aNil))))))) (eVar 11) [11]) (eLst (aNil)))) (sRet (eC (.bl false))) (sNil)
def lw9 (n : Nat) : Fs := sFor (iAnyF (eTup (aCons (eTup (aCons (eC (.int 1)) (aCons (eC (.int 2)) (aCons (eC (.int 2)) (aCons (eC (.int 3)) (aNil)))))) (aCons (eTup (aCons (eC (.int 2)) (aCons (eC (.int 2)) (aCons (eC (.int 3)) (aCons (eC (.int 4)) (aNil)))))) (aCons (eTup (aCons (eC (.int 3)) (aCons (eC (.int 3)) (aCons (eC (.int 4)) (aCons (eC (.int 6)) (aNil)))))) (aCons (eTup (aCons (eC (.int 4)) (aCons (eC (.int 4)) (aCons (eC (.int 5)) (aCons (eC (.int 9)) (aNil)))))) (aCons (eTup (aCons (eC (.int 2)) (aCons (eC (.int 4)) (aCons (eC (.int 4)) (aCons (eC (.int 6)) (aNil)))))) (aNil)))))))) (.t [7, 8, 9, 10]) n ([] ++ []) (sIf (tNot (tV (eCall m__law_right (aCons (eVar 1) (aCons (eVar 7) (aCons (eVar 8) (aCons (eVar 9) (aCons (eVar 10) (aNil))))))))) (sRet (eC (.bl false))) (sNil))
def lw10 (n : Nat) : Fs := sRet (eC (.bl true))
theorem law_b (n : Nat) : b_law n = sSeq (lw0 n) (sSeq (lw1 n) (sSeq (lw2 n) (sSeq (lw3 n) (sSeq (lw4 n) (sSeq (lw5 n) (sSeq (lw6 n) (sSeq (lw7 n) (sSeq (lw8 n) (sSeq (lw9 n) (lw10 n)))))))))) := rfl
def outV : Val := lw 2 [[97, 98], [98, 98]]
def inV : Val := lw 2 [[97, 98], [98, 97]]
def wordsV : Val := lw 2 [[97, 98, 98, 97], [98, 97, 98, 97]]
def toldW : Val := .tup [.non, .non, .non]
def badsV : Val := .lst [.tup [lw 3 [[97, 99]], inV], .tup [lw 2 [[97, 97, 98]], inV], .tup [outV, lw 2 [[97, 97, 98], [97, 98, 98]]], .tup [lw 2 [[97, 98]], lw 2 [[97, 98]]]]
def mid (n : Nat) : Fs := sSeq (lw1 n) (sSeq (lw2 n) (sSeq (lw3 n) (sSeq (lw4 n) (sSeq (lw5 n) (sSeq (lw6 n) (sSeq (lw7 n) (lw8 n)))))))
theorem mid_s (z0 : Option SV) (a b : Int) : mid 0 [z0, some (.loc 0), none, none, none, none, none, none, none, none, none, none] [C a b] = .nx [z0, some (.loc 0), some (.v outV), some (.v inV), some (.v wordsV), some (.v toldW), some (.v badsV), none, none, none, none, none] [C a b] := by
  kernel_rfl
theorem for_rows {z0 z2 z3 z4 z5 z6 z7 z8 z9 z10 z11 : Option SV} {st : Sto} (hc : Cup [] st) : ∃ env' st', lw9 0 [z0, some (.loc 0), z2, z3, z4, z5, z6, z7, z8, z9, z10, z11] st = .nx env' st' := by
  have go : ∀ {B : List Nat} {fi : Fi} (xs : List Val), fi [z0, some (.loc 0), z2, z3, z4, z5, z6, z7, z8, z9, z10, z11] st = .ok (.seq xs) st →
      (∀ x ∈ xs, ∃ L S size most : Nat, x = .tup [.int L, .int S, .int size, .int most] ∧ 1 ≤ L ∧ L ≤ 4 ∧ 1 ≤ S ∧ S ≤ 4 ∧ 1 ≤ size ∧ size ≤ 12 ∧ 1 ≤ most ∧ most ≤ 20) →
      ∃ env' st', sFor fi (.t [7, 8, 9, 10]) 0 B (sIf (tNot (tV (eCall m__law_right (aCons (eVar 1) (aCons (eVar 7) (aCons (eVar 8) (aCons (eVar 9) (aCons (eVar 10) (aNil))))))))) (sRet (eC (.bl false))) (sNil)) [z0, some (.loc 0), z2, z3, z4, z5, z6, z7, z8, z9, z10, z11] st = .nx env' st' := fun {B fi} xs hf hx => by
    obtain ⟨env', st', h, _⟩ := for_inv (p := .t [7, 8, 9, 10]) (n := 0) (B := B) (fi := fi) (body := sIf (tNot (tV (eCall m__law_right (aCons (eVar 1) (aCons (eVar 7) (aCons (eVar 8) (aCons (eVar 9) (aCons (eVar 10) (aNil))))))))) (sRet (eC (.bl false))) (sNil)) (xs := xs) (st := st) (st1 := st)
      (fun i env s => Cup [] s ∧ ∃ w0 w2 w3 w4 w5 w6 w7 w8 w9 w10 w11, env = [w0, some (.loc 0), w2, w3, w4, w5, w6, w7, w8, w9, w10, w11]) hf ⟨hc, _, _, _, _, _, _, _, _, _, _, _, rfl⟩ (fun i x env s hxi hI => by
        obtain ⟨hs, w0, w2, w3, w4, w5, w6, w7, w8, w9, w10, w11, rfl⟩ := hI
        obtain ⟨L, S, size, most, rfl, a1, a2, a3, a4, a5, a6, a7, a8⟩ := hx x (List.mem_of_getElem? hxi)
        obtain ⟨s', hs', e⟩ := right_s a1 a2 a3 a4 a5 a6 a7 a8 hs
        refine ⟨_, rfl, _, s', (if_f (st1 := s') ?_).trans rfl, hs', _, _, _, _, _, _, _, _, _, _, _, rfl⟩
        exact tn_v (b := true) (ec_ok (ar_c (fa := eVar 1) (z1 := .loc 0) rfl (ar_c (fa := eVar 7) (z1 := .v (.int L)) rfl (ar_c (fa := eVar 8) (z1 := .v (.int S)) rfl (ar_c (fa := eVar 9) (z1 := .v (.int size)) rfl (ar_1 (fa := eVar 10) (z1 := .v (.int most)) rfl))))) e))
    exact ⟨env', st', h⟩
  refine go [.tup [.int 1, .int 2, .int 2, .int 3], .tup [.int 2, .int 2, .int 3, .int 4], .tup [.int 3, .int 3, .int 4, .int 6], .tup [.int 4, .int 4, .int 5, .int 9], .tup [.int 2, .int 4, .int 4, .int 6]] (by rfl) fun x hx => ?_
  simp only [List.mem_cons, List.not_mem_nil, or_false] at hx
  rcases hx with rfl | rfl | rfl | rfl | rfl
  · exact ⟨1, 2, 2, 3, rfl, by decide⟩
  · exact ⟨2, 2, 3, 4, rfl, by decide⟩
  · exact ⟨3, 3, 4, 6, rfl, by decide⟩
  · exact ⟨4, 4, 5, 9, rfl, by decide⟩
  · exact ⟨2, 4, 4, 6, rfl, by decide⟩
theorem assoc (f g h : Fs) : sSeq (sSeq f g) h = sSeq f (sSeq g h) := by
  funext env st
  unfold sSeq
  cases f env st <;> rfl
theorem law_true : ∀ ns : List Int, ns.length ≤ 63 → ∃ st, m_law [.v (.seq (ns.map .int))] [] = .ok (.v (.bl true)) st := by
  intro ns hl
  obtain ⟨a, b, ha, hb, hb2, hcup⟩ := cup_s ns hl (st := [.dead])
  have l0 : lw0 0 [some (.v (.seq (ns.map .int))), none, none, none, none, none, none, none, none, none, none, none] [.dead] = .nx [some (.v (.seq (ns.map .int))), some (.loc 0), none, none, none, none, none, none, none, none, none, none] [C a b] := by
    unfold lw0 sSet
    rw [ec_1 (fa := eVar 0) rfl hcup]
    rfl
  have l1 := mid_s (some (.v (.seq (ns.map .int)))) a b
  obtain ⟨env', st', l6⟩ := for_rows (z0 := some (.v (.seq (ns.map .int)))) (z2 := some (.v outV)) (z3 := some (.v inV)) (z4 := some (.v wordsV)) (z5 := some (.v toldW)) (z6 := some (.v badsV)) (z7 := none) (z8 := none) (z9 := none) (z10 := none) (z11 := none) (st := [C a b]) ⟨a, b, ha, hb, hb2, rfl⟩
  refine ⟨_, call_rt (z := .v (.bl true)) (z' := .v (.bl true)) (st' := st') ?_ rfl⟩
  show b_law 0 [some (.v (.seq (ns.map .int))), none, none, none, none, none, none, none, none, none, none, none] [.dead] = _
  rw [law_b, seq_nx l0]
  have l1' := seq_nx (g := sSeq (lw9 0) (lw10 0)) l1
  unfold mid at l1'
  rw [assoc, assoc, assoc, assoc, assoc, assoc, assoc] at l1'
  rw [l1', seq_nx l6]
  rfl
end K77

namespace K77
open PySem PySem.Spec PyProof.Rows L2 Eng
/-! ### what of the module is known -/
structure Gs (K : PySem.W.Frag) (mg : Str → Option Value) (base : Heap) (L : Lx) where
  tn : L.tn = true
  A__law_cup : Addr
  D__law_cup : FuncData
  F__law_cup : Fun K "_law_cup" "_law_cup" s__law_cup A__law_cup D__law_cup
  b__law_cup : Binds K D__law_cup ["script"] []
  g__law_cup : mg "_law_cup" = some (.ref A__law_cup)
  A_is_tuple_of : Addr
  D_is_tuple_of : FuncData
  F_is_tuple_of : Fun K "is_tuple_of" "is_tuple_of" s_is_tuple_of A_is_tuple_of D_is_tuple_of
  b_is_tuple_of : Binds K D_is_tuple_of ["value", "low", "high"] []
  g_is_tuple_of : mg "is_tuple_of" = some (.ref A_is_tuple_of)
  A_is_whole : Addr
  D_is_whole : FuncData
  F_is_whole : Fun K "is_whole" "is_whole" s_is_whole A_is_whole D_is_whole
  b_is_whole : Binds K D_is_whole ["value", "low", "high"] []
  g_is_whole : mg "is_whole" = some (.ref A_is_whole)
  A_fits_row : Addr
  D_fits_row : FuncData
  F_fits_row : Fun K "fits_row" "fits_row" s_fits_row A_fits_row D_fits_row
  b_fits_row : Binds K D_fits_row ["letters", "value", "low", "high"] []
  g_fits_row : mg "fits_row" = some (.ref A_fits_row)
  A_is_rising : Addr
  D_is_rising : FuncData
  F_is_rising : Fun K "is_rising" "is_rising" s_is_rising A_is_rising D_is_rising
  b_is_rising : Binds K D_is_rising ["values"] []
  g_is_rising : mg "is_rising" = some (.ref A_is_rising)
  A_fits_list : Addr
  D_fits_list : FuncData
  F_fits_list : Fun K "fits_list" "fits_list" s_fits_list A_fits_list D_fits_list
  b_fits_list : Binds K D_fits_list ["value"] []
  g_fits_list : mg "fits_list" = some (.ref A_fits_list)
  A_need_list : Addr
  D_need_list : FuncData
  F_need_list : Fun K "need_list" "need_list" s_need_list A_need_list D_need_list
  b_need_list : Binds K D_need_list ["words"] []
  g_need_list : mg "need_list" = some (.ref A_need_list)
  A_need_two : Addr
  D_need_two : FuncData
  F_need_two : Fun K "need_two" "need_two" s_need_two A_need_two D_need_two
  b_need_two : Binds K D_need_two ["one", "other"] []
  g_need_two : mg "need_two" = some (.ref A_need_two)
  A_length_in : Addr
  D_length_in : FuncData
  F_length_in : Fun K "length_in" "length_in" s_length_in A_length_in D_length_in
  b_length_in : Binds K D_length_in ["words"] []
  g_length_in : mg "length_in" = some (.ref A_length_in)
  A_need_over : Addr
  D_need_over : FuncData
  F_need_over : Fun K "need_over" "need_over" s_need_over A_need_over D_need_over
  b_need_over : Binds K D_need_over ["outer", "inner"] []
  g_need_over : mg "need_over" = some (.ref A_need_over)
  A_made_list : Addr
  D_made_list : FuncData
  F_made_list : Fun K "made_list" "made_list" s_made_list A_made_list D_made_list
  b_made_list : Binds K D_made_list ["letters", "rows"] []
  g_made_list : mg "made_list" = some (.ref A_made_list)
  A_lifted : Addr
  D_lifted : FuncData
  F_lifted : Fun K "lifted" "lifted" s_lifted A_lifted D_lifted
  b_lifted : Binds K D_lifted ["inner", "word"] []
  g_lifted : mg "lifted" = some (.ref A_lifted)
  A_over_list : Addr
  D_over_list : FuncData
  F_over_list : Fun K "over_list" "over_list" s_over_list A_over_list D_over_list
  b_over_list : Binds K D_over_list ["outer", "inner"] []
  g_over_list : mg "over_list" = some (.ref A_over_list)
  A_turned : Addr
  D_turned : FuncData
  F_turned : Fun K "turned" "turned" s_turned A_turned D_turned
  b_turned : Binds K D_turned ["word", "by"] []
  g_turned : mg "turned" = some (.ref A_turned)
  A_pieces_in : Addr
  D_pieces_in : FuncData
  F_pieces_in : Fun K "pieces_in" "pieces_in" s_pieces_in A_pieces_in D_pieces_in
  b_pieces_in : Binds K D_pieces_in ["belt", "length", "first"] []
  g_pieces_in : mg "pieces_in" = some (.ref A_pieces_in)
  A_lowered : Addr
  D_lowered : FuncData
  F_lowered : Fun K "lowered" "lowered" s_lowered A_lowered D_lowered
  b_lowered : Binds K D_lowered ["inner", "word"] []
  g_lowered : mg "lowered" = some (.ref A_lowered)
  A_outer_of : Addr
  D_outer_of : FuncData
  F_outer_of : Fun K "outer_of" "outer_of" s_outer_of A_outer_of D_outer_of
  b_outer_of : Binds K D_outer_of ["words", "inner"] []
  g_outer_of : mg "outer_of" = some (.ref A_outer_of)
  A_split_over : Addr
  D_split_over : FuncData
  F_split_over : Fun K "split_over" "split_over" s_split_over A_split_over D_split_over
  b_split_over : Binds K D_split_over ["words"] []
  g_split_over : mg "split_over" = some (.ref A_split_over)
  A__law_same : Addr
  D__law_same : FuncData
  F__law_same : Fun K "_law_same" "_law_same" s__law_same A__law_same D__law_same
  b__law_same : Binds K D__law_same ["told", "due"] []
  g__law_same : mg "_law_same" = some (.ref A__law_same)
  A__law_roll : Addr
  D__law_roll : FuncData
  F__law_roll : Fun K "_law_roll" "_law_roll" s__law_roll A__law_roll D__law_roll
  b__law_roll : Binds K D__law_roll ["cup", "many"] []
  g__law_roll : mg "_law_roll" = some (.ref A__law_roll)
  A__law_some : Addr
  D__law_some : FuncData
  F__law_some : Fun K "_law_some" "_law_some" s__law_some A__law_some D__law_some
  b__law_some : Binds K D__law_some ["cup", "things"] []
  g__law_some : mg "_law_some" = some (.ref A__law_some)
  A__law_list : Addr
  D__law_list : FuncData
  F__law_list : Fun K "_law_list" "_law_list" s__law_list A__law_list D__law_list
  b__law_list : Binds K D__law_list ["cup", "letters", "length", "many", "most"] []
  g__law_list : mg "_law_list" = some (.ref A__law_list)
  A__law_right : Addr
  D__law_right : FuncData
  F__law_right : Fun K "_law_right" "_law_right" s__law_right A__law_right D__law_right
  b__law_right : Binds K D__law_right ["cup", "letters", "some", "size", "most"] []
  g__law_right : mg "_law_right" = some (.ref A__law_right)
  A_law : Addr
  D_law : FuncData
  F_law : Fun K "law" "law" s_law A_law D_law
  b_law : Binds K D_law ["script"] []
  g_law : mg "law" = some (.ref A_law)
  A__law_refused : Addr
  D__law_refused : FuncData
  F__law_refused : Fun K "_law_refused" "_law_refused" s__law_refused A__law_refused D__law_refused
  b__law_refused : Binds K D__law_refused ["call"] []
  g__law_refused : mg "_law_refused" = some (.ref A__law_refused)
  Cd__law_right : Addr
  Pt__law_right : Addr
  B__law_right : LamX.TabB base mg Cd__law_right Pt__law_right
  c__law_right : D__law_right.code = .ref Cd__law_right
  T__law_right : (Pt__law_right, ((("_law_right" : Str) ++ ".<locals>.") ++ "<lambda>")) ∈ L.T
  U__law_right : ∀ p ∈ L.T, p.1 = Pt__law_right → p.2 = ((("_law_right" : Str) ++ ".<locals>.") ++ "<lambda>")
  Cd_law : Addr
  Pt_law : Addr
  B_law : LamX.TabB base mg Cd_law Pt_law
  c_law : D_law.code = .ref Cd_law
  T_law : (Pt_law, ((("law" : Str) ++ ".<locals>.") ++ "<lambda>")) ∈ L.T
  U_law : ∀ p ∈ L.T, p.1 = Pt_law → p.2 = ((("law" : Str) ++ ".<locals>.") ++ "<lambda>")
  C_InvalidList : Addr
  e_InvalidList : mg "InvalidList" = some (.ref C_InvalidList)
  r_InvalidList : ExcK K mg "InvalidList"
  M_InvalidList : Catch K mg C_InvalidList (mtOne "InvalidList")
  c_LETTERS : ∃ u, mg "LETTERS" = some u ∧ RelV (.str (toS [97, 98, 99, 100])) u
  c_LONG : ∃ u, mg "LONG" = some u ∧ RelV (.int 4) u
  c_SHORT : ∃ u, mg "SHORT" = some u ∧ RelV (.int 2) u
  c_WORDS : ∃ u, mg "WORDS" = some u ∧ RelV (.int 40) u
  z_abs : mg "abs" = none
  z_all : mg "all" = none
  z_bool : mg "bool" = none
  z_int : mg "int" = none
  z_isinstance : mg "isinstance" = none
  z_len : mg "len" = none
  z_list : mg "list" = none
  z_max : mg "max" = none
  z_range : mg "range" = none
  z_set : mg "set" = none
  z_sorted : mg "sorted" = none
  z_str : mg "str" = none
  z_tuple : mg "tuple" = none
  z_zip : mg "zip" = none
/-! ### .. and does so -/
section
variable {P : Program} {w : World} {K : PySem.W.Frag} {mg : Str → Option Value} {base : Heap} {L : Lx}
theorem ok__law_cup (G : Gs K mg base L) : FnOk P w K mg base (L2N.CX P w) 1 G.A__law_cup G.D__law_cup ["script"] (SpF ⟨K, mg, L.T, L.ex, L.tn⟩ 1 m__law_cup) :=
  fn_exc G.F__law_cup sc__law_cup fun A outer s0 H E n hr tk pp => (es_cons (es_set (.f) [] sc__law_cup.nd (ee_callB cb_abs (by rfl) G.z_abs PyProof.Rows.boot_abs (ea_cons (ee_ix (ix_M (hu_of hr)) (ee_op op_addM (ee_callTy cb_list (by rfl) G.z_list PyProof.Rows.boot_list (ea_cons (ee_var 0) ea_nil)) (ee_lst (ea_cons ee_int ea_nil))) ee_int) ea_nil))) (es_one (es_ret (ee_lst (ea_cons (ee_if (et_cmp op_geM (ee_var 1) (ee_op op_powM ee_int ee_int)) (ee_op op_divM (ee_var 1) ee_int) ee_int) (ea_cons (ee_op op_addM (ee_op op_modM (ee_callTy cb_int (by rfl) G.z_int PyProof.Rows.boot_int (ea_cons (ee_op op_addM (ee_op op_mulN (ee_var 1) ee_int) ee_int) ea_nil)) ee_int) ee_int) ea_nil))))))
theorem ok_is_tuple_of (G : Gs K mg base L) : FnOk P w K mg base (L2N.CX P w) 1 G.A_is_tuple_of G.D_is_tuple_of ["value", "low", "high"] (SpF ⟨K, mg, L.T, L.ex, L.tn⟩ 3 m_is_tuple_of) :=
  fn_exc G.F_is_tuple_of sc_is_tuple_of fun A outer s0 H E n hr tk pp => (es_one (es_ret (ee_and (ee_callB cb_isi (by rfl) G.z_isinstance PyProof.Rows.boot_isinstance (ea_cons (ee_var 0) (ea_cons (ee_ty "tuple" (by rfl) G.z_tuple PyProof.Rows.boot_tuple) ea_nil))) (ee_one (ee_chain op_leM op_leM (ee_var 1) (ee_callB cb_lenX (by rfl) G.z_len PySem.boot_len (ea_cons (ee_var 0) ea_nil)) (ee_var 2))))))
theorem ok_is_whole (G : Gs K mg base L) : FnOk P w K mg base (L2N.CX P w) 1 G.A_is_whole G.D_is_whole ["value", "low", "high"] (SpF ⟨K, mg, L.T, L.ex, L.tn⟩ 3 m_is_whole) :=
  fn_exc G.F_is_whole sc_is_whole fun A outer s0 H E n hr tk pp => (es_one (es_ret (ee_and (ee_callB cb_isi (by rfl) G.z_isinstance PyProof.Rows.boot_isinstance (ea_cons (ee_var 0) (ea_cons (ee_ty "int" (by rfl) G.z_int PyProof.Rows.boot_int) ea_nil))) (ee_and (ee_not (ee_callB cb_isi (by rfl) G.z_isinstance PyProof.Rows.boot_isinstance (ea_cons (ee_var 0) (ea_cons (ee_ty "bool" (by rfl) G.z_bool PyProof.Rows.boot_bool) ea_nil)))) (ee_one (ee_chain op_leM op_leM (ee_var 1) (ee_var 0) (ee_var 2)))))))
theorem ok_fits_row (G : Gs K mg base L) : FnOk P w K mg base (L2N.CX P w) 1 G.A_fits_row G.D_fits_row ["letters", "value", "low", "high"] (SpF ⟨K, mg, L.T, L.ex, L.tn⟩ 4 m_fits_row) :=
  fn_exc G.F_fits_row sc_fits_row fun A outer s0 H E n hr tk pp => (es_cons (es_if (et_w (ew_or (et_not (et_val (ee_callB cb_isi (by rfl) G.z_isinstance PyProof.Rows.boot_isinstance (ea_cons (ee_var 1) (ea_cons (ee_ty "str" (by rfl) G.z_str PyProof.Rows.boot_str) ea_nil))))) (ew_or1 (et_not (et_chain op_leM op_leM (ee_var 2) (ee_callB cb_lenX (by rfl) G.z_len PySem.boot_len (ea_cons (ee_var 1) ea_nil)) (ee_var 3)))))) (es_one (es_ret ee_bl)) es_nil) (es_one (es_ret (ee_callB (cb_all rfl) (by rfl) G.z_all PyProof.Rows.boot_all (ea_cons (ee_comp (own := [("own", 4)]) rfl sc_fits_row.nd (ei_any (ee_var 1)) (blkOk_by (show blkC ["letters", "value", "low", "high", "own"] (defScope s_fits_row) _ [("own", 4)] = true from by decide +kernel)) (fun _ _ _ _ _ => (pg_name (i := 4) sc_fits_row.nd rfl (.inl rfl))) (fun _ _ _ _ _ => pts_yes) (fun _ _ _ _ _ => (ee_cmp (op_inM (rm65 hr)) (ee_var 4) (ee_sl (ee_gs [97, 98, 99, 100] (by rfl) G.c_LETTERS) ep_none (ep_some (ee_var 0))))) EP1.n (by decide)) ea_nil)))))
theorem ok_is_rising (G : Gs K mg base L) : FnOk P w K mg base (L2N.CX P w) 1 G.A_is_rising G.D_is_rising ["values"] (SpF ⟨K, mg, L.T, L.ex, L.tn⟩ 1 m_is_rising) :=
  fn_exc G.F_is_rising sc_is_rising fun A outer s0 H E n hr tk pp => (es_one (es_ret (ee_callB (cb_all rfl) (by rfl) G.z_all PyProof.Rows.boot_all (ea_cons (ee_comp (own := [("one", 1), ("other", 2)]) rfl sc_is_rising.nd (ei_zipA G.tn (by rfl) G.z_zip (ea_cons (ee_var 0) (ea_cons (ee_sl (ee_var 0) (ep_some ee_int) ep_none) ea_nil))) (blkOk_by (show blkC ["values", "one", "other"] (defScope s_is_rising) _ [("one", 1), ("other", 2)] = true from by decide +kernel)) (fun _ _ _ _ _ => (pg_tup rfl (pgs_cons (pg_name (i := 1) sc_is_rising.nd rfl (.inl rfl)) (pgs_cons (pg_name (i := 2) sc_is_rising.nd rfl (.inl rfl)) pgs_nil)))) (fun _ _ _ _ _ => pts_yes) (fun _ _ _ _ _ => (ee_cmp op_ltM (ee_var 1) (ee_var 2))) EP1.t (by decide)) ea_nil))))
theorem ok_fits_list (G : Gs K mg base L) : FnOk P w K mg base (L2N.CX P w) 2 G.A_fits_list G.D_fits_list ["value"] (SpF ⟨K, mg, L.T, L.ex, L.tn⟩ 1 m_fits_list) :=
  fn_exc G.F_fits_list sc_fits_list fun A outer s0 H E n hr tk pp => (es_cons (es_if (et_w (ew_or (et_not (et_val (ee_callX (ok_is_tuple_of (L := L) G) tk (hr.mono (by first | decide | omega)) (by rfl) G.g_is_tuple_of G.F_is_tuple_of.kp G.b_is_tuple_of (ea_cons (ee_var 0) (ea_cons ee_int (ea_cons ee_int ea_nil))) (alen_cons (alen_cons (alen_cons alen_nil)))))) (ew_or (et_not (et_val (ee_callX (ok_is_whole (L := L) G) tk (hr.mono (by first | decide | omega)) (by rfl) G.g_is_whole G.F_is_whole.kp G.b_is_whole (ea_cons (ee_ix (ix_M (hu_of hr)) (ee_var 0) ee_int) (ea_cons ee_int (ea_cons (ee_callB cb_lenX (by rfl) G.z_len PySem.boot_len (ea_cons (ee_gs [97, 98, 99, 100] (by rfl) G.c_LETTERS) ea_nil)) ea_nil))) (alen_cons (alen_cons (alen_cons alen_nil)))))) (ew_or1 (et_not (et_val (ee_callX (ok_is_tuple_of (L := L) G) tk (hr.mono (by first | decide | omega)) (by rfl) G.g_is_tuple_of G.F_is_tuple_of.kp G.b_is_tuple_of (ea_cons (ee_ix (ix_M (hu_of hr)) (ee_var 0) ee_int) (ea_cons ee_int (ea_cons (ee_gi 40 (by rfl) G.c_WORDS) ea_nil))) (alen_cons (alen_cons (alen_cons alen_nil)))))))))) (es_one (es_ret ee_bl)) es_nil) (es_cons (es_if (et_not (et_val (ee_callB (cb_all rfl) (by rfl) G.z_all PyProof.Rows.boot_all (ea_cons (ee_comp (own := [("own", 1)]) rfl sc_fits_list.nd (ei_any (ee_ix (ix_M (hu_of hr)) (ee_var 0) ee_int)) (blkOk_by (show blkC ["value", "own"] (defScope s_fits_list) _ [("own", 1)] = true from by decide +kernel)) (fun _ _ _ _ _ => (pg_name (i := 1) sc_fits_list.nd rfl (.inl rfl))) (fun _ _ _ _ _ => pts_yes) (fun _ _ _ _ _ => (ee_callX (ok_fits_row (L := L) G) takesO (hr.mono (by first | decide | omega)) (by rfl) G.g_fits_row G.F_fits_row.kp G.b_fits_row (ea_cons (ee_ix (ix_M (hu_of hr)) (ee_var 0) ee_int) (ea_cons (ee_var 1) (ea_cons (ee_gi 2 (by rfl) G.c_SHORT) (ea_cons (ee_gi 4 (by rfl) G.c_LONG) ea_nil)))) (alen_cons (alen_cons (alen_cons (alen_cons alen_nil)))))) EP1.n (by decide)) ea_nil)))) (es_one (es_ret ee_bl)) es_nil) (es_one (es_ret (ee_and (ee_callB (cb_all rfl) (by rfl) G.z_all PyProof.Rows.boot_all (ea_cons (ee_comp (own := [("own", 1)]) rfl sc_fits_list.nd (ei_any (ee_ix (ix_M (hu_of hr)) (ee_var 0) ee_int)) (blkOk_by (show blkC ["value", "own"] (defScope s_fits_list) _ [("own", 1)] = true from by decide +kernel)) (fun _ _ _ _ _ => (pg_name (i := 1) sc_fits_list.nd rfl (.inl rfl))) (fun _ _ _ _ _ => pts_yes) (fun _ _ _ _ _ => (ee_cmp (op_eqM (hr.units)) (ee_callB cb_lenX (by rfl) G.z_len PySem.boot_len (ea_cons (ee_var 1) ea_nil)) (ee_callB cb_lenX (by rfl) G.z_len PySem.boot_len (ea_cons (ee_ix (ix_M (hu_of hr)) (ee_ix (ix_M (hu_of hr)) (ee_var 0) ee_int) ee_int) ea_nil)))) EP1.n (by decide)) ea_nil)) (ee_one (ee_callX (ok_is_rising (L := L) G) tk (hr.mono (by first | decide | omega)) (by rfl) G.g_is_rising G.F_is_rising.kp G.b_is_rising (ea_cons (ee_ix (ix_M (hu_of hr)) (ee_var 0) ee_int) ea_nil) (alen_cons alen_nil))))))))
theorem ok_need_list (G : Gs K mg base L) : FnOk P w K mg base (L2N.CX P w) 3 G.A_need_list G.D_need_list ["words"] (SpF ⟨K, mg, L.T, L.ex, L.tn⟩ 1 m_need_list) :=
  fn_exc G.F_need_list sc_need_list fun A outer s0 H E n hr tk pp => (es_one (es_if (et_not (et_val (ee_callX (ok_fits_list (L := L) G) tk (hr.mono (by first | decide | omega)) (by rfl) G.g_fits_list G.F_fits_list.kp G.b_fits_list (ea_cons (ee_var 0) ea_nil) (alen_cons alen_nil)))) (es_one (es_raise G.r_InvalidList rfl tk (by rfl))) es_nil))
theorem ok_need_two (G : Gs K mg base L) : FnOk P w K mg base (L2N.CX P w) 4 G.A_need_two G.D_need_two ["one", "other"] (SpF ⟨K, mg, L.T, L.ex, L.tn⟩ 2 m_need_two) :=
  fn_exc G.F_need_two sc_need_two fun A outer s0 H E n hr tk pp => (es_cons (es_expr (ee_callX (ok_need_list (L := L) G) tk (hr.mono (by first | decide | omega)) (by rfl) G.g_need_list G.F_need_list.kp G.b_need_list (ea_cons (ee_var 0) ea_nil) (alen_cons alen_nil))) (es_one (es_expr (ee_callX (ok_need_list (L := L) G) tk (hr.mono (by first | decide | omega)) (by rfl) G.g_need_list G.F_need_list.kp G.b_need_list (ea_cons (ee_var 1) ea_nil) (alen_cons alen_nil)))))
theorem ok_length_in (G : Gs K mg base L) : FnOk P w K mg base (L2N.CX P w) 1 G.A_length_in G.D_length_in ["words"] (SpF ⟨K, mg, L.T, L.ex, L.tn⟩ 1 m_length_in) :=
  fn_exc G.F_length_in sc_length_in fun A outer s0 H E n hr tk pp => (es_one (es_ret (ee_callB cb_lenX (by rfl) G.z_len PySem.boot_len (ea_cons (ee_ix (ix_M (hu_of hr)) (ee_ix (ix_M (hu_of hr)) (ee_var 0) ee_int) ee_int) ea_nil))))
theorem ok_need_over (G : Gs K mg base L) : FnOk P w K mg base (L2N.CX P w) 5 G.A_need_over G.D_need_over ["outer", "inner"] (SpF ⟨K, mg, L.T, L.ex, L.tn⟩ 2 m_need_over) :=
  fn_exc G.F_need_over sc_need_over fun A outer s0 H E n hr tk pp => (es_cons (es_expr (ee_callX (ok_need_two (L := L) G) tk (hr.mono (by first | decide | omega)) (by rfl) G.g_need_two G.F_need_two.kp G.b_need_two (ea_cons (ee_var 0) (ea_cons (ee_var 1) ea_nil)) (alen_cons (alen_cons alen_nil)))) (es_one (es_if (et_w (ew_or (et_cmp op_gtM (ee_op op_mulN (ee_callX (ok_length_in (L := L) G) tk (hr.mono (by first | decide | omega)) (by rfl) G.g_length_in G.F_length_in.kp G.b_length_in (ea_cons (ee_var 0) ea_nil) (alen_cons alen_nil)) (ee_callX (ok_length_in (L := L) G) tk (hr.mono (by first | decide | omega)) (by rfl) G.g_length_in G.F_length_in.kp G.b_length_in (ea_cons (ee_var 1) ea_nil) (alen_cons alen_nil))) (ee_gi 4 (by rfl) G.c_LONG)) (ew_or1 (et_cmp op_gtM (ee_ix (ix_M (hu_of hr)) (ee_var 0) ee_int) (ee_callB cb_lenX (by rfl) G.z_len PySem.boot_len (ea_cons (ee_ix (ix_M (hu_of hr)) (ee_var 1) ee_int) ea_nil)))))) (es_one (es_raise G.r_InvalidList rfl tk (by rfl))) es_nil)))
theorem ok_made_list (G : Gs K mg base L) : FnOk P w K mg base (L2N.CX P w) 3 G.A_made_list G.D_made_list ["letters", "rows"] (SpF ⟨K, mg, L.T, L.ex, L.tn⟩ 2 m_made_list) :=
  fn_exc G.F_made_list sc_made_list fun A outer s0 H E n hr tk pp => (es_cons (es_set (.f) [] sc_made_list.nd (ee_tup (ea_cons (ee_var 0) (ea_cons (ee_callTy cb_tuple (by rfl) G.z_tuple PyProof.Rows.boot_tuple (ea_cons (ee_callB (cb_sortedX rfl (hr.units)) (by rfl) G.z_sorted PyProof.Rows.boot_sorted (ea_cons (ee_dcomp (own := [("own", 3)]) rfl sc_made_list.nd (ei_any (ee_var 1)) (blkOk_by (show blkC ["letters", "rows", "found", "own"] (defScope s_made_list) _ [("own", 3)] = true from by decide +kernel)) (fun _ _ _ _ _ => (pg_name (i := 3) sc_made_list.nd rfl (.inl rfl))) (fun _ _ _ _ _ => pts_yes) (fun _ _ _ _ _ => (ee_var 3)) (fun _ _ _ _ _ => ee_bl) EP1.n (by decide)) ea_nil)) ea_nil)) ea_nil)))) (es_cons (es_if (et_not (et_val (ee_callX (ok_fits_list (L := L) G) tk (hr.mono (by first | decide | omega)) (by rfl) G.g_fits_list G.F_fits_list.kp G.b_fits_list (ea_cons (ee_var 2) ea_nil) (alen_cons alen_nil)))) (es_one (es_raise G.r_InvalidList rfl tk (by rfl))) es_nil) (es_one (es_ret (ee_var 2)))))
theorem ok_lifted (G : Gs K mg base L) : FnOk P w K mg base (L2N.CX P w) 1 G.A_lifted G.D_lifted ["inner", "word"] (SpF ⟨K, mg, L.T, L.ex, L.tn⟩ 2 m_lifted) :=
  fn_exc G.F_lifted sc_lifted fun A outer s0 H E n hr tk pp => (es_one (es_ret (ee_join (ee_str []) (ea_cons (ee_comp (own := [("own", 2)]) rfl sc_lifted.nd (ei_any (ee_var 1)) (blkOk_by (show blkC ["inner", "word", "own"] (defScope s_lifted) _ [("own", 2)] = true from by decide +kernel)) (fun _ _ _ _ _ => (pg_name (i := 2) sc_lifted.nd rfl (.inl rfl))) (fun _ _ _ _ _ => pts_yes) (fun _ _ _ _ _ => (ee_ix (ix_M (hu_of hr)) (ee_ix (ix_M (hu_of hr)) (ee_var 0) ee_int) (ee_sindex (ee_gs [97, 98, 99, 100] (by rfl) G.c_LETTERS) (ea_cons (ee_var 2) ea_nil)))) EP1.n (by decide)) ea_nil))))
theorem ok_over_list (G : Gs K mg base L) : FnOk P w K mg base (L2N.CX P w) 6 G.A_over_list G.D_over_list ["outer", "inner"] (SpF ⟨K, mg, L.T, L.ex, L.tn⟩ 2 m_over_list) :=
  fn_exc G.F_over_list sc_over_list fun A outer s0 H E n hr tk pp => (es_cons (es_expr (ee_callX (ok_need_over (L := L) G) tk (hr.mono (by first | decide | omega)) (by rfl) G.g_need_over G.F_need_over.kp G.b_need_over (ea_cons (ee_var 0) (ea_cons (ee_var 1) ea_nil)) (alen_cons (alen_cons alen_nil)))) (es_one (es_ret (ee_callX (ok_made_list (L := L) G) tk (hr.mono (by first | decide | omega)) (by rfl) G.g_made_list G.F_made_list.kp G.b_made_list (ea_cons (ee_ix (ix_M (hu_of hr)) (ee_var 1) ee_int) (ea_cons (ee_comp (own := [("own", 2)]) rfl sc_over_list.nd (ei_any (ee_ix (ix_M (hu_of hr)) (ee_var 0) ee_int)) (blkOk_by (show blkC ["outer", "inner", "own"] (defScope s_over_list) _ [("own", 2)] = true from by decide +kernel)) (fun _ _ _ _ _ => (pg_name (i := 2) sc_over_list.nd rfl (.inl rfl))) (fun _ _ _ _ _ => pts_yes) (fun _ _ _ _ _ => (ee_callX (ok_lifted (L := L) G) takesO (hr.mono (by first | decide | omega)) (by rfl) G.g_lifted G.F_lifted.kp G.b_lifted (ea_cons (ee_var 1) (ea_cons (ee_var 2) ea_nil)) (alen_cons (alen_cons alen_nil)))) EP1.n (by decide)) ea_nil)) (alen_cons (alen_cons alen_nil))))))
theorem ok_turned (G : Gs K mg base L) : FnOk P w K mg base (L2N.CX P w) 1 G.A_turned G.D_turned ["word", "by"] (SpF ⟨K, mg, L.T, L.ex, L.tn⟩ 2 m_turned) :=
  fn_exc G.F_turned sc_turned fun A outer s0 H E n hr tk pp => (es_one (es_ret (ee_op op_addM (ee_sl (ee_var 0) (ep_some (ee_var 1)) ep_none) (ee_sl (ee_var 0) ep_none (ep_some (ee_var 1))))))
theorem ok_pieces_in (G : Gs K mg base L) : FnOk P w K mg base (L2N.CX P w) 2 G.A_pieces_in G.D_pieces_in ["belt", "length", "first"] (SpF ⟨K, mg, L.T, L.ex, L.tn⟩ 3 m_pieces_in) :=
  fn_exc G.F_pieces_in sc_pieces_in fun A outer s0 H E n hr tk pp => (es_cons (es_set (.f) [] sc_pieces_in.nd (ee_callX (ok_turned (L := L) G) tk (hr.mono (by first | decide | omega)) (by rfl) G.g_turned G.F_turned.kp G.b_turned (ea_cons (ee_var 0) (ea_cons (ee_var 2) ea_nil)) (alen_cons (alen_cons alen_nil)))) (es_one (es_ret (ee_callTy cb_tuple (by rfl) G.z_tuple PyProof.Rows.boot_tuple (ea_cons (ee_comp (own := [("at", 4)]) rfl sc_pieces_in.nd (ei_rng3 (by rfl) G.z_range (ea_cons ee_int (ea_cons (ee_callB cb_lenX (by rfl) G.z_len PySem.boot_len (ea_cons (ee_var 3) ea_nil)) (ea_cons (ee_var 1) ea_nil)))) (blkOk_by (show blkC ["belt", "length", "first", "late", "at"] (defScope s_pieces_in) _ [("at", 4)] = true from by decide +kernel)) (fun _ _ _ _ _ => (pg_name (i := 4) sc_pieces_in.nd rfl (.inl rfl))) (fun _ _ _ _ _ => pts_yes) (fun _ _ _ _ _ => (ee_sl (ee_var 3) (ep_some (ee_var 4)) (ep_some (ee_op op_addM (ee_var 4) (ee_var 1))))) EP1.n (by decide)) ea_nil)))))
theorem ok_lowered (G : Gs K mg base L) : FnOk P w K mg base (L2N.CX P w) 3 G.A_lowered G.D_lowered ["inner", "word"] (SpF ⟨K, mg, L.T, L.ex, L.tn⟩ 2 m_lowered) :=
  fn_exc G.F_lowered sc_lowered fun A outer s0 H E n hr tk pp => (es_cons (es_set (.f) [] sc_lowered.nd (ee_callX (ok_length_in (L := L) G) tk (hr.mono (by first | decide | omega)) (by rfl) G.g_length_in G.F_length_in.kp G.b_length_in (ea_cons (ee_var 0) ea_nil) (alen_cons alen_nil))) (es_cons (es_if (et_cmp (op_neM (hr.units)) (ee_op op_modM (ee_callB cb_lenX (by rfl) G.z_len PySem.boot_len (ea_cons (ee_var 1) ea_nil)) (ee_var 2)) ee_int) (es_one (es_ret ee_non)) es_nil) (es_cons (es_set (.f) [] sc_lowered.nd (ee_callX (ok_pieces_in (L := L) G) tk (hr.mono (by first | decide | omega)) (by rfl) G.g_pieces_in G.F_pieces_in.kp G.b_pieces_in (ea_cons (ee_var 1) (ea_cons (ee_var 2) (ea_cons ee_int ea_nil))) (alen_cons (alen_cons (alen_cons alen_nil))))) (es_cons (es_if (et_not (et_val (ee_callB (cb_all rfl) (by rfl) G.z_all PyProof.Rows.boot_all (ea_cons (ee_comp (own := [("own", 4)]) rfl sc_lowered.nd (ei_any (ee_var 3)) (blkOk_by (show blkC ["inner", "word", "length", "rows", "own"] (defScope s_lowered) _ [("own", 4)] = true from by decide +kernel)) (fun _ _ _ _ _ => (pg_name (i := 4) sc_lowered.nd rfl (.inl rfl))) (fun _ _ _ _ _ => pts_yes) (fun _ _ _ _ _ => (ee_cmp (op_inM (rm65 hr)) (ee_var 4) (ee_sl (ee_ix (ix_M (hu_of hr)) (ee_var 0) ee_int) ep_none (ep_some (ee_callB cb_lenX (by rfl) G.z_len PySem.boot_len (ea_cons (ee_gs [97, 98, 99, 100] (by rfl) G.c_LETTERS) ea_nil)))))) EP1.n (by decide)) ea_nil)))) (es_one (es_ret ee_non)) es_nil) (es_one (es_ret (ee_join (ee_str []) (ea_cons (ee_comp (own := [("own", 4)]) rfl sc_lowered.nd (ei_any (ee_var 3)) (blkOk_by (show blkC ["inner", "word", "length", "rows", "own"] (defScope s_lowered) _ [("own", 4)] = true from by decide +kernel)) (fun _ _ _ _ _ => (pg_name (i := 4) sc_lowered.nd rfl (.inl rfl))) (fun _ _ _ _ _ => pts_yes) (fun _ _ _ _ _ => (ee_ix (ix_M (hu_of hr)) (ee_gs [97, 98, 99, 100] (by rfl) G.c_LETTERS) (ee_tix G.tn (ee_ix (ix_M (hu_of hr)) (ee_var 0) ee_int) (ea_cons (ee_var 4) ea_nil)))) EP1.n (by decide)) ea_nil))))))))
theorem ok_outer_of (G : Gs K mg base L) : FnOk P w K mg base (L2N.CX P w) 5 G.A_outer_of G.D_outer_of ["words", "inner"] (SpF ⟨K, mg, L.T, L.ex, L.tn⟩ 2 m_outer_of) :=
  fn_exc G.F_outer_of sc_outer_of fun A outer s0 H E n hr tk pp => (es_cons (es_expr (ee_callX (ok_need_two (L := L) G) tk (hr.mono (by first | decide | omega)) (by rfl) G.g_need_two G.F_need_two.kp G.b_need_two (ea_cons (ee_var 0) (ea_cons (ee_var 1) ea_nil)) (alen_cons (alen_cons alen_nil)))) (es_cons (es_if (et_w (ew_or (et_cmp (op_neM (hr.units)) (ee_op op_modM (ee_callX (ok_length_in (L := L) G) tk (hr.mono (by first | decide | omega)) (by rfl) G.g_length_in G.F_length_in.kp G.b_length_in (ea_cons (ee_var 0) ea_nil) (alen_cons alen_nil)) (ee_callX (ok_length_in (L := L) G) tk (hr.mono (by first | decide | omega)) (by rfl) G.g_length_in G.F_length_in.kp G.b_length_in (ea_cons (ee_var 1) ea_nil) (alen_cons alen_nil))) ee_int) (ew_or1 (et_cmp op_ltM (ee_op op_divM (ee_callX (ok_length_in (L := L) G) tk (hr.mono (by first | decide | omega)) (by rfl) G.g_length_in G.F_length_in.kp G.b_length_in (ea_cons (ee_var 0) ea_nil) (alen_cons alen_nil)) (ee_callX (ok_length_in (L := L) G) tk (hr.mono (by first | decide | omega)) (by rfl) G.g_length_in G.F_length_in.kp G.b_length_in (ea_cons (ee_var 1) ea_nil) (alen_cons alen_nil))) (ee_gi 2 (by rfl) G.c_SHORT))))) (es_one (es_ret ee_non)) es_nil) (es_cons (es_setc (.f) [] (own := [("own", 3)]) rfl sc_outer_of.nd (ei_any (ee_ix (ix_M (hu_of hr)) (ee_var 0) ee_int)) (blkOk_by (show blkC ["words", "inner", "rows", "own", "row"] (defScope s_outer_of) _ [("own", 3)] = true from by decide +kernel)) (fun _ _ _ _ _ => (pg_name (i := 3) sc_outer_of.nd rfl (.inl rfl))) (fun _ _ _ _ _ => pts_yes) (fun _ _ _ _ _ => (ee_callX (ok_lowered (L := L) G) takesO (hr.mono (by first | decide | omega)) (by rfl) G.g_lowered G.F_lowered.kp G.b_lowered (ea_cons (ee_var 1) (ea_cons (ee_var 3) ea_nil)) (alen_cons (alen_cons alen_nil)))) EP1.n (by decide)) (es_cons (es_if (et_w (ew_or (et_cmp (op_inM (rm65 hr)) ee_non (ee_var 2)) (ew_or1 (et_cmp (op_neM (hr.units)) (ee_ix (ix_M (hu_of hr)) (ee_var 0) ee_int) (ee_ix (ix_M (hu_of hr)) (ee_var 1) ee_int))))) (es_one (es_ret ee_non)) es_nil) (es_one (es_ret (ee_callX (ok_made_list (L := L) G) tk (hr.mono (by first | decide | omega)) (by rfl) G.g_made_list G.F_made_list.kp G.b_made_list (ea_cons (ee_op op_addM ee_int (ee_callB (cb_maxX rfl) (by rfl) G.z_max PyProof.Rows.boot_max (ea_cons (ee_comp2 (own := [("row", 4), ("own", 3)]) (vs1 := [3]) rfl sc_outer_of.nd (ei_any (ee_var 2)) (blkOk_by (show blkC ["words", "inner", "rows", "own", "row"] (defScope s_outer_of) _ [("row", 4), ("own", 3)] = true from by decide +kernel)) (by decide) (fun _ _ _ _ _ => (pg_name (i := 4) sc_outer_of.nd rfl (.inl rfl))) (fun _ _ _ _ _ => pts_yes) (fun _ _ _ _ _ => (ei_any (ee_var 4))) (fun _ _ _ _ _ => (pg_name (i := 3) sc_outer_of.nd rfl (.inl rfl))) (fun _ _ _ _ _ => pts_yes) (fun _ _ _ _ _ => (ee_sindex (ee_gs [97, 98, 99, 100] (by rfl) G.c_LETTERS) (ea_cons (ee_var 3) ea_nil))) EP1.n (by decide) EP1.n (by decide)) ea_nil))) (ea_cons (ee_var 2) ea_nil)) (alen_cons (alen_cons alen_nil)))))))))
theorem ok_split_over (G : Gs K mg base L) : FnOk P w K mg base (L2N.CX P w) 4 G.A_split_over G.D_split_over ["words"] (SpF ⟨K, mg, L.T, L.ex, L.tn⟩ 1 m_split_over) :=
  fn_exc G.F_split_over sc_split_over fun A outer s0 H E n hr tk pp => (es_cons (es_expr (ee_callX (ok_need_list (L := L) G) tk (hr.mono (by first | decide | omega)) (by rfl) G.g_need_list G.F_need_list.kp G.b_need_list (ea_cons (ee_var 0) ea_nil) (alen_cons alen_nil))) (es_cons (es_set (.f) [] sc_split_over.nd (ee_op op_divM (ee_callX (ok_length_in (L := L) G) tk (hr.mono (by first | decide | omega)) (by rfl) G.g_length_in G.F_length_in.kp G.b_length_in (ea_cons (ee_var 0) ea_nil) (alen_cons alen_nil)) ee_int)) (es_cons (es_if (et_w (ew_or (et_cmp (op_neM (hr.units)) (ee_op op_mulN ee_int (ee_var 1)) (ee_callX (ok_length_in (L := L) G) tk (hr.mono (by first | decide | omega)) (by rfl) G.g_length_in G.F_length_in.kp G.b_length_in (ea_cons (ee_var 0) ea_nil) (alen_cons alen_nil))) (ew_or1 (et_cmp op_ltM (ee_var 1) (ee_gi 2 (by rfl) G.c_SHORT))))) (es_one (es_ret ee_non)) es_nil) (es_cons (es_set (.f) [] sc_split_over.nd (ee_callB (cb_sortedX rfl (hr.units)) (by rfl) G.z_sorted PyProof.Rows.boot_sorted (ea_cons (ee_dcomp2 (own := [("own", 4), ("part", 5)]) (vs1 := [5]) rfl sc_split_over.nd (ei_any (ee_ix (ix_M (hu_of hr)) (ee_var 0) ee_int)) (blkOk_by (show blkC ["words", "half", "rows", "inner", "own", "part"] (defScope s_split_over) _ [("own", 4), ("part", 5)] = true from by decide +kernel)) (by decide) (fun _ _ _ _ _ => (pg_name (i := 4) sc_split_over.nd rfl (.inl rfl))) (fun _ _ _ _ _ => pts_yes) (fun _ _ _ _ _ => (ei_any (ee_tup (ea_cons (ee_sl (ee_var 4) ep_none (ep_some (ee_var 1))) (ea_cons (ee_sl (ee_var 4) (ep_some (ee_var 1)) ep_none) ea_nil))))) (fun _ _ _ _ _ => (pg_name (i := 5) sc_split_over.nd rfl (.inl rfl))) (fun _ _ _ _ _ => pts_yes) (fun _ _ _ _ _ => (ee_var 5)) (fun _ _ _ _ _ => ee_bl) EP1.n (by decide) EP1.n (by decide)) ea_nil))) (es_cons (es_if (et_cmp op_gtM (ee_callB cb_lenX (by rfl) G.z_len PySem.boot_len (ea_cons (ee_var 2) ea_nil)) (ee_callB cb_lenX (by rfl) G.z_len PySem.boot_len (ea_cons (ee_gs [97, 98, 99, 100] (by rfl) G.c_LETTERS) ea_nil))) (es_one (es_ret ee_non)) es_nil) (es_cons (es_set (.f) [] sc_split_over.nd (ee_callX (ok_made_list (L := L) G) tk (hr.mono (by first | decide | omega)) (by rfl) G.g_made_list G.F_made_list.kp G.b_made_list (ea_cons (ee_ix (ix_M (hu_of hr)) (ee_var 0) ee_int) (ea_cons (ee_var 2) ea_nil)) (alen_cons (alen_cons alen_nil)))) (es_one (es_ret (ee_tup (ea_cons (ee_callX (ok_made_list (L := L) G) tk (hr.mono (by first | decide | omega)) (by rfl) G.g_made_list G.F_made_list.kp G.b_made_list (ea_cons (ee_callB cb_lenX (by rfl) G.z_len PySem.boot_len (ea_cons (ee_var 2) ea_nil)) (ea_cons (ee_comp (own := [("own", 4)]) rfl sc_split_over.nd (ei_any (ee_ix (ix_M (hu_of hr)) (ee_var 0) ee_int)) (blkOk_by (show blkC ["words", "half", "rows", "inner", "own", "part"] (defScope s_split_over) _ [("own", 4)] = true from by decide +kernel)) (fun _ _ _ _ _ => (pg_name (i := 4) sc_split_over.nd rfl (.inl rfl))) (fun _ _ _ _ _ => pts_yes) (fun _ _ _ _ _ => (ee_callX (ok_lowered (L := L) G) takesO (hr.mono (by first | decide | omega)) (by rfl) G.g_lowered G.F_lowered.kp G.b_lowered (ea_cons (ee_var 3) (ea_cons (ee_var 4) ea_nil)) (alen_cons (alen_cons alen_nil)))) EP1.n (by decide)) ea_nil)) (alen_cons (alen_cons alen_nil))) (ea_cons (ee_var 3) ea_nil)))))))))))
theorem ok__law_same (G : Gs K mg base L) : ∀ d : Nat, FnOk P w K mg base (L2N.CX P w) (d + 1) G.A__law_same G.D__law_same ["told", "due"] (SpF ⟨K, mg, L.T, L.ex, L.tn⟩ 2 (m__law_same d))
  | 0 => (fn_exc (k := 0) G.F__law_same sc__law_same fun A outer s0 H E n hr tk pp => ess_bad (B := [])).mono (by omega)
  | d + 1 => by
    have ih := ok__law_same G d
    exact fn_exc (k := d + 1) G.F__law_same sc__law_same fun A outer s0 H E n hr tk pp => (es_cons (es_if (et_val (ee_callB cb_isi (by rfl) G.z_isinstance PyProof.Rows.boot_isinstance (ea_cons (ee_var 1) (ea_cons (ee_ty "tuple" (by rfl) G.z_tuple PyProof.Rows.boot_tuple) ea_nil)))) (es_cons (es_if (et_w (ew_or (et_not (et_val (ee_callB cb_isi (by rfl) G.z_isinstance PyProof.Rows.boot_isinstance (ea_cons (ee_var 0) (ea_cons (ee_ty "tuple" (by rfl) G.z_tuple PyProof.Rows.boot_tuple) ea_nil))))) (ew_or1 (et_cmp (op_neM (hr.units)) (ee_callB cb_lenX (by rfl) G.z_len PySem.boot_len (ea_cons (ee_var 0) ea_nil)) (ee_callB cb_lenX (by rfl) G.z_len PySem.boot_len (ea_cons (ee_var 1) ea_nil)))))) (es_one (es_ret ee_bl)) es_nil) (es_one (es_ret (ee_callB (cb_all rfl) (by rfl) G.z_all PyProof.Rows.boot_all (ea_cons (ee_comp (own := [("at", 2)]) rfl sc__law_same.nd (ei_rng1 (by rfl) G.z_range (ea_cons (ee_callB cb_lenX (by rfl) G.z_len PySem.boot_len (ea_cons (ee_var 1) ea_nil)) ea_nil)) (blkOk_by (show blkC ["told", "due", "at"] (defScope s__law_same) _ [("at", 2)] = true from by decide +kernel)) (fun _ _ _ _ _ => (pg_name (i := 2) sc__law_same.nd rfl (.inl rfl))) (fun _ _ _ _ _ => pts_yes) (fun _ _ _ _ _ => (ee_callX ih takesO (hr.mono (by omega)) (by rfl) G.g__law_same G.F__law_same.kp G.b__law_same (ea_cons (ee_ix (ix_M (hu_of hr)) (ee_var 0) (ee_var 2)) (ea_cons (ee_ix (ix_M (hu_of hr)) (ee_var 1) (ee_var 2)) ea_nil)) (alen_cons (alen_cons alen_nil)))) EP1.n (by decide)) ea_nil))))) es_nil) (es_cons (es_if (et_cmp op_isM (ee_var 1) ee_non) (es_one (es_ret (ee_cmp op_isM (ee_var 0) ee_non))) es_nil) (es_cons (es_if (et_val (ee_callB cb_isi (by rfl) G.z_isinstance PyProof.Rows.boot_isinstance (ea_cons (ee_var 1) (ea_cons (ee_ty "bool" (by rfl) G.z_bool PyProof.Rows.boot_bool) ea_nil)))) (es_one (es_ret (ee_if (et_val (ee_var 1)) (ee_cmp op_isM (ee_var 0) ee_bl) (ee_cmp op_isM (ee_var 0) ee_bl)))) es_nil) (es_cons (es_if (et_val (ee_callB cb_isi (by rfl) G.z_isinstance PyProof.Rows.boot_isinstance (ea_cons (ee_var 1) (ea_cons (ee_ty "int" (by rfl) G.z_int PyProof.Rows.boot_int) ea_nil)))) (es_one (es_ret (ee_and (ee_callB cb_isi (by rfl) G.z_isinstance PyProof.Rows.boot_isinstance (ea_cons (ee_var 0) (ea_cons (ee_ty "int" (by rfl) G.z_int PyProof.Rows.boot_int) ea_nil))) (ee_and (ee_not (ee_callB cb_isi (by rfl) G.z_isinstance PyProof.Rows.boot_isinstance (ea_cons (ee_var 0) (ea_cons (ee_ty "bool" (by rfl) G.z_bool PyProof.Rows.boot_bool) ea_nil)))) (ee_one (ee_cmp (op_eqM (hr.units)) (ee_callTy cb_int (by rfl) G.z_int PyProof.Rows.boot_int (ea_cons (ee_var 0) ea_nil)) (ee_var 1))))))) es_nil) (es_one (es_ret (ee_and (ee_callB cb_isi (by rfl) G.z_isinstance PyProof.Rows.boot_isinstance (ea_cons (ee_var 0) (ea_cons (ee_ty "str" (by rfl) G.z_str PyProof.Rows.boot_str) ea_nil))) (ee_one (ee_cmp (op_eqM (hr.units)) (ee_callTy cb_str (by rfl) G.z_str PyProof.Rows.boot_str (ea_cons (ee_var 0) ea_nil)) (ee_var 1))))))))))
theorem ok__law_roll (G : Gs K mg base L) : FnOk P w K mg base (L2N.CX P w) 1 G.A__law_roll G.D__law_roll ["cup", "many"] (SpF ⟨K, mg, L.T, L.ex, L.tn⟩ 2 m__law_roll) :=
  fn_exc G.F__law_roll sc__law_roll fun A outer s0 H E n hr tk pp => (es_cons (es_if (et_cmp op_gtM (ee_ix (ix_M (hu_of hr)) (ee_var 0) ee_int) ee_int) (es_cons (es_set (.f) [] sc__law_roll.nd (ee_op op_modM (ee_callTy cb_int (by rfl) G.z_int PyProof.Rows.boot_int (ea_cons (ee_ix (ix_M (hu_of hr)) (ee_var 0) ee_int) ea_nil)) (ee_var 1))) (es_cons (es_asg (ee_op op_divM (ee_ix (ix_M (hu_of hr)) (ee_var 0) ee_int) (ee_var 1)) (eg_sub (ee_var 0) ee_int (set_o (hu_of hr)) setm_o)) (es_one (es_ret (ee_var 2))))) es_nil) (es_cons (es_asg (ee_op op_modM (ee_callTy cb_int (by rfl) G.z_int PyProof.Rows.boot_int (ea_cons (ee_op op_addM (ee_op op_mulN (ee_ix (ix_M (hu_of hr)) (ee_var 0) ee_int) ee_int) ee_int) ea_nil)) ee_int) (eg_sub (ee_var 0) ee_int (set_o (hu_of hr)) setm_o)) (es_cons (es_set (.f) [] sc__law_roll.nd (ee_op op_modM (ee_callTy cb_int (by rfl) G.z_int PyProof.Rows.boot_int (ea_cons (ee_op op_mulN (ee_ix (ix_M (hu_of hr)) (ee_var 0) ee_int) (ee_op op_addM (ee_ix (ix_M (hu_of hr)) (ee_var 0) ee_int) ee_int)) ea_nil)) ee_int)) (es_one (es_ret (ee_op op_modM (ee_callTy cb_int (by rfl) G.z_int PyProof.Rows.boot_int (ea_cons (ee_op op_divM (ee_var 3) ee_int) ea_nil)) (ee_var 1)))))))
theorem ok__law_some (G : Gs K mg base L) : FnOk P w K mg base (L2N.CX P w) 2 G.A__law_some G.D__law_some ["cup", "things"] (SpF ⟨K, mg, L.T, L.ex, L.tn⟩ 2 m__law_some) :=
  fn_exc G.F__law_some sc__law_some fun A outer s0 H E n hr tk pp => (es_one (es_ret (ee_ix (ix_M (hu_of hr)) (ee_var 1) (ee_callX (ok__law_roll (L := L) G) tk (hr.mono (by first | decide | omega)) (by rfl) G.g__law_roll G.F__law_roll.kp G.b__law_roll (ea_cons (ee_var 0) (ea_cons (ee_callB cb_lenX (by rfl) G.z_len PySem.boot_len (ea_cons (ee_var 1) ea_nil)) ea_nil)) (alen_cons (alen_cons alen_nil))))))
theorem ok__law_list (G : Gs K mg base L) : FnOk P w K mg base (L2N.CX P w) 3 G.A__law_list G.D__law_list ["cup", "letters", "length", "many", "most"] (SpF ⟨K, mg, L.T, L.ex, L.tn⟩ 5 m__law_list) :=
  fn_exc G.F__law_list sc__law_list fun A outer s0 H E n hr tk pp => (es_cons (es_par2 rfl sc__law_list.nd (em_cons (.c 0) [] ee_dnewK (em_cons (.f) [] (ee_op op_mulN (ee_str [97]) (ee_var 2)) em_nil))) (es_cons (es_for pp rfl (ei_rng1 (by rfl) G.z_range (ea_cons (ee_var 3) ea_nil)) (pg_name (i := 7) sc__law_list.nd rfl (.inl rfl)) EP1.n (es_cons (es_set (.f) [] sc__law_list.nd (ee_join (ee_str []) (ea_cons (ee_comp (own := [("at", 8)]) rfl sc__law_list.nd (ei_rng1 (by rfl) G.z_range (ea_cons (ee_var 2) ea_nil)) (blkOk_by (show blkC ["cup", "letters", "length", "many", "most", "rows", "head", "turn", "at", "word", "cut"] (defScope s__law_list) _ [("at", 8)] = true from by decide +kernel)) (fun _ _ _ _ _ => (pg_name (i := 8) sc__law_list.nd rfl (.inl rfl))) (fun _ _ _ _ _ => pts_yes) (fun _ _ _ _ _ => (ee_ix (ix_M (hu_of hr)) (ee_str [97, 98, 99, 100]) (ee_callX (ok__law_roll (L := L) G) takesO (hr.mono (by first | decide | omega)) (by rfl) G.g__law_roll G.F__law_roll.kp G.b__law_roll (ea_cons (ee_var 0) (ea_cons (ee_var 1) ea_nil)) (alen_cons (alen_cons alen_nil))))) EP1.n (by decide)) ea_nil))) (es_cons (es_set (.f) [] sc__law_list.nd (ee_callX (ok__law_roll (L := L) G) tk (hr.mono (by first | decide | omega)) (by rfl) G.g__law_roll G.F__law_roll.kp G.b__law_roll (ea_cons (ee_var 0) (ea_cons (ee_var 2) ea_nil)) (alen_cons (alen_cons alen_nil)))) (es_cons (es_set (.f) [] sc__law_list.nd (ee_sl (ee_op op_addM (ee_sl (ee_var 6) ep_none (ep_some (ee_var 10))) (ee_var 9)) ep_none (ep_some (ee_var 2)))) (es_cons (es_tup rfl (em_cons (.f) [] (ee_callX (ok__law_some (L := L) G) tk (hr.mono (by first | decide | omega)) (by rfl) G.g__law_some G.F__law_some.kp G.b__law_some (ea_cons (ee_var 0) (ea_cons (ee_lst (ea_cons (ee_var 6) (ea_cons (ee_var 9) ea_nil))) ea_nil)) (alen_cons (alen_cons alen_nil))) (em_cons (.f) [] ee_bl em_nil)) (egs_cons (eg_name 6 sc__law_list.nd) (egs_cons (eg_sub (ee_var 5) (ee_var 9) (set_o (hu_of hr)) setm_o) egs_nil)) (hlen := (blen_cons (blen_cons blen_nil)))) (es_one (es_if (et_cmp (op_eqM (hr.units)) (ee_callX (ok__law_roll (L := L) G) tk (hr.mono (by first | decide | omega)) (by rfl) G.g__law_roll G.F__law_roll.kp G.b__law_roll (ea_cons (ee_var 0) (ea_cons ee_int ea_nil)) (alen_cons (alen_cons alen_nil))) ee_int) (es_one (es_for pp rfl (ei_rng1 (by rfl) G.z_range (ea_cons (ee_var 1) ea_nil)) (pg_name (i := 8) sc__law_list.nd rfl (.inl rfl)) EP1.n (es_one (es_asg ee_bl (eg_sub (ee_var 5) (ee_op op_addM (ee_sl (ee_var 9) ep_none (ep_some (ee_un un_negM ee_int))) (ee_ix (ix_M (hu_of hr)) (ee_str [97, 98, 99, 100]) (ee_var 8))) (set_o (hu_of hr)) setm_o))))) es_nil))))))) (es_one (es_ret (ee_tup (ea_cons (ee_var 1) (ea_cons (ee_callTy cb_tuple (by rfl) G.z_tuple PyProof.Rows.boot_tuple (ea_cons (ee_sl (ee_callB (cb_sortedX rfl (hr.units)) (by rfl) G.z_sorted PyProof.Rows.boot_sorted (ea_cons (ee_var 5) ea_nil)) ep_none (ep_some (ee_var 4))) ea_nil)) ea_nil)))))))
theorem ok__law_right (G : Gs K mg base L) : FnOk P w K mg base (L2N.CX P w) 10 G.A__law_right G.D__law_right ["cup", "letters", "some", "size", "most"] (SpF ⟨K, mg, L.T, L.ex, L.tn⟩ 5 m__law_right) :=
  fn_exc G.F__law_right sc__law_right fun A outer s0 H E n hr tk pp => (es_cons (es_tup rfl (em_cons (.f) [] (ee_callX (ok__law_list (L := L) G) tk (hr.mono (by first | decide | omega)) (by rfl) G.g__law_list G.F__law_list.kp G.b__law_list (ea_cons (ee_var 0) (ea_cons (ee_var 1) (ea_cons ee_int (ea_cons (ee_var 3) (ea_cons (ee_var 4) ea_nil))))) (alen_cons (alen_cons (alen_cons (alen_cons (alen_cons alen_nil)))))) (em_cons (.f) [] (ee_callX (ok__law_list (L := L) G) tk (hr.mono (by first | decide | omega)) (by rfl) G.g__law_list G.F__law_list.kp G.b__law_list (ea_cons (ee_var 0) (ea_cons (ee_var 2) (ea_cons ee_int (ea_cons (ee_var 3) (ea_cons (ee_var 4) ea_nil))))) (alen_cons (alen_cons (alen_cons (alen_cons (alen_cons alen_nil)))))) em_nil)) (egs_cons (eg_name 17 sc__law_right.nd) (egs_cons (eg_name 16 sc__law_right.nd) egs_nil)) (hlen := (blen_cons (blen_cons blen_nil)))) (es_cons (es_set (.f) [] sc__law_right.nd (ee_cmp op_ltM (ee_callB cb_lenX (by rfl) G.z_len PySem.boot_len (ea_cons (ee_ix (ix_M (hu_of hr)) (ee_var 16) ee_int) ea_nil)) (ee_var 1))) (es_cons (es_if (et_cmp (op_neM (hr.units)) (ee_refused (qual := "") (k := 6) G.F__law_refused rfl rfl G.e_InvalidList G.M_InvalidList (by rfl) G.g__law_refused G.F__law_refused.kp G.b__law_refused sc__law_refused rfl (.inl rfl) G.B__law_right G.c__law_right G.T__law_right G.U__law_right (hr.mono (by first | decide | omega)) (by rfl) (by rfl) (fun _ _ _ _ _ => rfl) (fun _ _ _ _ _ _ _ hrL => (ee_callX (ok_over_list (L := L) G) (takesF rfl rfl rfl rfl) (hrL.mono (by first | decide | omega)) (by rfl) G.g_over_list G.F_over_list.kp G.b_over_list (ea_cons (ee_var 17) (ea_cons (ee_var 16) ea_nil)) (alen_cons (alen_cons alen_nil))))) (ee_var 5)) (es_one (es_ret ee_bl)) es_nil) (es_cons (es_if (et_val (ee_var 5)) (es_one (es_ret ee_bl)) es_nil) (es_cons (es_set (.c 0) [] sc__law_right.nd ee_dnewK) (es_cons (es_for pp rfl (ei_rng1 (by rfl) G.z_range (ea_cons (ee_var 1) ea_nil)) (pg_name (i := 7) sc__law_right.nd rfl (.inl rfl)) EP1.n (es_one (es_asg (ee_ix (ix_M (hu_of hr)) (ee_ix (ix_M (hu_of hr)) (ee_var 16) ee_int) (ee_var 7)) (eg_sub (ee_var 6) (ee_ix (ix_M (hu_of hr)) (ee_str [97, 98, 99, 100]) (ee_var 7)) (set_o (hu_of hr)) setm_o)))) (es_cons (es_setc (.f) [] (own := [("own", 18)]) rfl sc__law_right.nd (ei_any (ee_ix (ix_M (hu_of hr)) (ee_var 17) ee_int)) (blkOk_by (show blkC ["cup", "letters", "some", "size", "most", "is_bad", "names", "at", "rows", "words", "last", "halves", "told", "due", "more", "is_over", "inner", "outer", "own"] (defScope s__law_right) _ [("own", 18)] = true from by decide +kernel)) (fun _ _ _ _ _ => (pg_name (i := 18) sc__law_right.nd rfl (.inl rfl))) (fun _ _ _ _ _ => pts_yes) (fun _ _ _ _ _ => (ee_op op_addM (ee_ix (ix_M (hu_of hr)) (ee_var 6) (ee_ix (ix_M (hu_of hr)) (ee_var 18) ee_int)) (ee_ix (ix_M (hu_of hr)) (ee_var 6) (ee_ix (ix_M (hu_of hr)) (ee_var 18) ee_int)))) EP1.n (by decide)) (es_cons (es_set (.f) [] sc__law_right.nd (ee_callX (ok_over_list (L := L) G) tk (hr.mono (by first | decide | omega)) (by rfl) G.g_over_list G.F_over_list.kp G.b_over_list (ea_cons (ee_var 17) (ea_cons (ee_var 16) ea_nil)) (alen_cons (alen_cons alen_nil)))) (es_cons (es_if (et_w (ew_or (et_not (et_val (ee_callX (ok__law_same (L := L) G 6) tk (hr.mono (by first | decide | omega)) (by rfl) G.g__law_same G.F__law_same.kp G.b__law_same (ea_cons (ee_var 9) (ea_cons (ee_tup (ea_cons (ee_var 2) (ea_cons (ee_callTy cb_tuple (by rfl) G.z_tuple PyProof.Rows.boot_tuple (ea_cons (ee_sortset (by rfl) (by rfl) G.z_sorted (by rfl) G.z_set (ee_var 8)) ea_nil)) ea_nil))) ea_nil)) (alen_cons (alen_cons alen_nil))))) (ew_or1 (et_cmp (op_neM (hr.units)) (ee_callB cb_lenX (by rfl) G.z_len PySem.boot_len (ea_cons (ee_ix (ix_M (hu_of hr)) (ee_var 9) ee_int) ea_nil)) (ee_callB cb_lenX (by rfl) G.z_len PySem.boot_len (ea_cons (ee_ix (ix_M (hu_of hr)) (ee_var 17) ee_int) ea_nil)))))) (es_one (es_ret ee_bl)) es_nil) (es_cons (es_set (.f) [] sc__law_right.nd (ee_callB (cb_maxX rfl) (by rfl) G.z_max PyProof.Rows.boot_max (ea_cons (ee_comp (own := [("own", 18)]) rfl sc__law_right.nd (ei_any (ee_ix (ix_M (hu_of hr)) (ee_var 17) ee_int)) (blkOk_by (show blkC ["cup", "letters", "some", "size", "most", "is_bad", "names", "at", "rows", "words", "last", "halves", "told", "due", "more", "is_over", "inner", "outer", "own"] (defScope s__law_right) _ [("own", 18)] = true from by decide +kernel)) (fun _ _ _ _ _ => (pg_name (i := 18) sc__law_right.nd rfl (.inl rfl))) (fun _ _ _ _ _ => pts_yes) (fun _ _ _ _ _ => (ee_callB (cb_maxX rfl) (by rfl) G.z_max PyProof.Rows.boot_max (ea_cons (ee_var 18) ea_nil))) EP1.n (by decide)) ea_nil))) (es_cons (es_if (et_not (et_val (ee_callX (ok__law_same (L := L) G 6) tk (hr.mono (by first | decide | omega)) (by rfl) G.g__law_same G.F__law_same.kp G.b__law_same (ea_cons (ee_callX (ok_outer_of (L := L) G) tk (hr.mono (by first | decide | omega)) (by rfl) G.g_outer_of G.F_outer_of.kp G.b_outer_of (ea_cons (ee_var 9) (ea_cons (ee_var 16) ea_nil)) (alen_cons (alen_cons alen_nil))) (ea_cons (ee_tup (ea_cons (ee_op op_addM (ee_sindex (ee_str [97, 98, 99, 100]) (ea_cons (ee_var 10) ea_nil)) ee_int) (ea_cons (ee_ix (ix_M (hu_of hr)) (ee_var 17) ee_int) ea_nil))) ea_nil)) (alen_cons (alen_cons alen_nil))))) (es_one (es_ret ee_bl)) es_nil) (es_cons (es_set (.f) [] sc__law_right.nd (ee_sortset (by rfl) (by rfl) G.z_sorted (by rfl) G.z_set (ee_op op_addM (ee_comp (own := [("own", 18)]) rfl sc__law_right.nd (ei_any (ee_ix (ix_M (hu_of hr)) (ee_var 9) ee_int)) (blkOk_by (show blkC ["cup", "letters", "some", "size", "most", "is_bad", "names", "at", "rows", "words", "last", "halves", "told", "due", "more", "is_over", "inner", "outer", "own"] (defScope s__law_right) _ [("own", 18)] = true from by decide +kernel)) (fun _ _ _ _ _ => (pg_name (i := 18) sc__law_right.nd rfl (.inl rfl))) (fun _ _ _ _ _ => pts_yes) (fun _ _ _ _ _ => (ee_sl (ee_var 18) ep_none (ep_some ee_int))) EP1.n (by decide)) (ee_comp (own := [("own", 18)]) rfl sc__law_right.nd (ei_any (ee_ix (ix_M (hu_of hr)) (ee_var 9) ee_int)) (blkOk_by (show blkC ["cup", "letters", "some", "size", "most", "is_bad", "names", "at", "rows", "words", "last", "halves", "told", "due", "more", "is_over", "inner", "outer", "own"] (defScope s__law_right) _ [("own", 18)] = true from by decide +kernel)) (fun _ _ _ _ _ => (pg_name (i := 18) sc__law_right.nd rfl (.inl rfl))) (fun _ _ _ _ _ => pts_yes) (fun _ _ _ _ _ => (ee_sl (ee_var 18) (ep_some ee_int) ep_none)) EP1.n (by decide))))) (es_cons (es_set (.f) [] sc__law_right.nd (ee_callX (ok_split_over (L := L) G) tk (hr.mono (by first | decide | omega)) (by rfl) G.g_split_over G.F_split_over.kp G.b_split_over (ea_cons (ee_var 9) ea_nil) (alen_cons alen_nil))) (es_cons (es_if (et_cmp (op_neM (hr.units)) (ee_cmp op_isM (ee_var 12) ee_non) (ee_cmp op_gtM (ee_callB cb_lenX (by rfl) G.z_len PySem.boot_len (ea_cons (ee_var 11) ea_nil)) ee_int)) (es_one (es_ret ee_bl)) es_nil) (es_cons (es_if (et_cmp op_isNM (ee_var 12) ee_non) (es_cons (es_set (.f) [] sc__law_right.nd (ee_callTy cb_tuple (by rfl) G.z_tuple PyProof.Rows.boot_tuple (ea_cons (ee_callB (cb_sortedX rfl (hr.units)) (by rfl) G.z_sorted PyProof.Rows.boot_sorted (ea_cons (ee_comp (own := [("own", 18)]) rfl sc__law_right.nd (ei_any (ee_ix (ix_M (hu_of hr)) (ee_var 9) ee_int)) (blkOk_by (show blkC ["cup", "letters", "some", "size", "most", "is_bad", "names", "at", "rows", "words", "last", "halves", "told", "due", "more", "is_over", "inner", "outer", "own"] (defScope s__law_right) _ [("own", 18)] = true from by decide +kernel)) (fun _ _ _ _ _ => (pg_name (i := 18) sc__law_right.nd rfl (.inl rfl))) (fun _ _ _ _ _ => pts_yes) (fun _ _ _ _ _ => (ee_op op_addM (ee_ix (ix_M (hu_of hr)) (ee_str [97, 98, 99, 100]) (ee_lindex (rm65 hr) (ee_var 11) (ea_cons (ee_sl (ee_var 18) ep_none (ep_some ee_int)) ea_nil))) (ee_ix (ix_M (hu_of hr)) (ee_str [97, 98, 99, 100]) (ee_lindex (rm65 hr) (ee_var 11) (ea_cons (ee_sl (ee_var 18) (ep_some ee_int) ep_none) ea_nil))))) EP1.n (by decide)) ea_nil)) ea_nil))) (es_one (es_if (et_w (ew_or (et_not (et_val (ee_callX (ok__law_same (L := L) G 6) tk (hr.mono (by first | decide | omega)) (by rfl) G.g__law_same G.F__law_same.kp G.b__law_same (ea_cons (ee_var 12) (ea_cons (ee_tup (ea_cons (ee_tup (ea_cons (ee_callB cb_lenX (by rfl) G.z_len PySem.boot_len (ea_cons (ee_var 11) ea_nil)) (ea_cons (ee_var 13) ea_nil))) (ea_cons (ee_tup (ea_cons (ee_var 2) (ea_cons (ee_callTy cb_tuple (by rfl) G.z_tuple PyProof.Rows.boot_tuple (ea_cons (ee_var 11) ea_nil)) ea_nil))) ea_nil))) ea_nil)) (alen_cons (alen_cons alen_nil))))) (ew_or1 (et_cmp (op_neM (hr.units)) (ee_callX (ok_over_list (L := L) G) tk (hr.mono (by first | decide | omega)) (by rfl) G.g_over_list G.F_over_list.kp G.b_over_list (ea_cons (ee_ix (ix_M (hu_of hr)) (ee_var 12) ee_int) (ea_cons (ee_ix (ix_M (hu_of hr)) (ee_var 12) ee_int) ea_nil)) (alen_cons (alen_cons alen_nil))) (ee_var 9))))) (es_one (es_ret ee_bl)) es_nil))) es_nil) (es_cons (es_set (.f) [] sc__law_right.nd (ee_callX (ok__law_list (L := L) G) tk (hr.mono (by first | decide | omega)) (by rfl) G.g__law_list G.F__law_list.kp G.b__law_list (ea_cons (ee_var 0) (ea_cons (ee_var 2) (ea_cons ee_int (ea_cons ee_int (ea_cons ee_int ea_nil))))) (alen_cons (alen_cons (alen_cons (alen_cons (alen_cons alen_nil))))))) (es_cons (es_set (.f) [] sc__law_right.nd (ee_cmp (op_eqM (hr.units)) (ee_comp (own := [("own", 18)]) rfl sc__law_right.nd (ei_any (ee_ix (ix_M (hu_of hr)) (ee_var 14) ee_int)) (blkOk_by (show blkC ["cup", "letters", "some", "size", "most", "is_bad", "names", "at", "rows", "words", "last", "halves", "told", "due", "more", "is_over", "inner", "outer", "own"] (defScope s__law_right) _ [("own", 18)] = true from by decide +kernel)) (fun _ _ _ _ _ => (pg_name (i := 18) sc__law_right.nd rfl (.inl rfl))) (fun _ _ _ _ _ => (pts_if (et_w (ew_or (et_cmp (op_notInM (rm65 hr)) (ee_sl (ee_var 18) ep_none (ep_some ee_int)) (ee_sl (ee_ix (ix_M (hu_of hr)) (ee_var 16) ee_int) ep_none (ep_some ee_int))) (ew_or1 (et_cmp (op_notInM (rm65 hr)) (ee_sl (ee_var 18) (ep_some ee_int) ep_none) (ee_sl (ee_ix (ix_M (hu_of hr)) (ee_var 16) ee_int) ep_none (ep_some ee_int)))))))) (fun _ _ _ _ _ => (ee_var 18)) EP1.n (by decide)) (ee_lst ea_nil))) (es_cons (es_set (.f) [] sc__law_right.nd (ee_callX (ok_outer_of (L := L) G) tk (hr.mono (by first | decide | omega)) (by rfl) G.g_outer_of G.F_outer_of.kp G.b_outer_of (ea_cons (ee_var 14) (ea_cons (ee_var 16) ea_nil)) (alen_cons (alen_cons alen_nil)))) (es_one (es_ret (ee_and (ee_cmp (op_eqM (hr.units)) (ee_cmp op_isNM (ee_var 12) ee_non) (ee_var 15)) (ee_one (ee_or (ee_cmp op_isM (ee_var 12) ee_non) (ee_one (ee_cmp (op_eqM (hr.units)) (ee_callX (ok_over_list (L := L) G) tk (hr.mono (by first | decide | omega)) (by rfl) G.g_over_list G.F_over_list.kp G.b_over_list (ea_cons (ee_var 12) (ea_cons (ee_var 16) ea_nil)) (alen_cons (alen_cons alen_nil))) (ee_var 14))))))))))))))))))))))))))
theorem ok_law (G : Gs K mg base L) : FnOk P w K mg base (L2N.CX P w) 13 G.A_law G.D_law ["script"] (SpF ⟨K, mg, L.T, L.ex, L.tn⟩ 1 m_law) :=
  fn_exc G.F_law sc_law fun A outer s0 H E n hr tk pp => (es_cons (es_set (.c 0) [] sc_law.nd (ee_callX (ok__law_cup (L := L) G) tk (hr.mono (by first | decide | omega)) (by rfl) G.g__law_cup G.F__law_cup.kp G.b__law_cup (ea_cons (ee_var 0) ea_nil) (alen_cons alen_nil))) (es_cons (es_tup rfl (em_cons (.f) [] (ee_tup (ea_cons ee_int (ea_cons (ee_tup (ea_cons (ee_str [97, 98]) (ea_cons (ee_str [98, 98]) ea_nil))) ea_nil))) (em_cons (.f) [] (ee_tup (ea_cons ee_int (ea_cons (ee_tup (ea_cons (ee_str [97, 98]) (ea_cons (ee_str [98, 97]) ea_nil))) ea_nil))) em_nil)) (egs_cons (eg_name 2 sc_law.nd) (egs_cons (eg_name 3 sc_law.nd) egs_nil)) (hlen := (blen_cons (blen_cons blen_nil)))) (es_cons (es_set (.f) [] sc_law.nd (ee_tup (ea_cons ee_int (ea_cons (ee_tup (ea_cons (ee_str [97, 98, 98, 97]) (ea_cons (ee_str [98, 97, 98, 97]) ea_nil))) ea_nil)))) (es_cons (es_set (.f) [] sc_law.nd (ee_tup (ea_cons (ee_callX (ok_over_list (L := L) G) tk (hr.mono (by first | decide | omega)) (by rfl) G.g_over_list G.F_over_list.kp G.b_over_list (ea_cons (ee_var 2) (ea_cons (ee_var 3) ea_nil)) (alen_cons (alen_cons alen_nil))) (ea_cons (ee_callX (ok_outer_of (L := L) G) tk (hr.mono (by first | decide | omega)) (by rfl) G.g_outer_of G.F_outer_of.kp G.b_outer_of (ea_cons (ee_var 4) (ea_cons (ee_var 3) ea_nil)) (alen_cons (alen_cons alen_nil))) (ea_cons (ee_callX (ok_split_over (L := L) G) tk (hr.mono (by first | decide | omega)) (by rfl) G.g_split_over G.F_split_over.kp G.b_split_over (ea_cons (ee_var 4) ea_nil) (alen_cons alen_nil)) (ea_cons (ee_callX (ok_split_over (L := L) G) tk (hr.mono (by first | decide | omega)) (by rfl) G.g_split_over G.F_split_over.kp G.b_split_over (ea_cons (ee_tup (ea_cons ee_int (ea_cons (ee_tup (ea_cons (ee_str [97, 98, 97, 98]) ea_nil)) ea_nil))) ea_nil) (alen_cons alen_nil)) (ea_cons (ee_callX (ok_outer_of (L := L) G) tk (hr.mono (by first | decide | omega)) (by rfl) G.g_outer_of G.F_outer_of.kp G.b_outer_of (ea_cons (ee_tup (ea_cons ee_int (ea_cons (ee_tup (ea_cons (ee_str [97, 97, 98, 98]) ea_nil)) ea_nil))) (ea_cons (ee_var 3) ea_nil)) (alen_cons (alen_cons alen_nil))) (ea_cons (ee_callX (ok_split_over (L := L) G) tk (hr.mono (by first | decide | omega)) (by rfl) G.g_split_over G.F_split_over.kp G.b_split_over (ea_cons (ee_tup (ea_cons ee_int (ea_cons (ee_tup (ea_cons (ee_str [97, 97, 98]) ea_nil)) ea_nil))) ea_nil) (alen_cons alen_nil)) ea_nil)))))))) (es_cons (es_if (et_not (et_val (ee_callX (ok__law_same (L := L) G 6) tk (hr.mono (by first | decide | omega)) (by rfl) G.g__law_same G.F__law_same.kp G.b__law_same (ea_cons (ee_var 5) (ea_cons (ee_tup (ea_cons (ee_var 4) (ea_cons (ee_var 2) (ea_cons (ee_tup (ea_cons (ee_var 2) (ea_cons (ee_var 3) ea_nil))) (ea_cons (ee_tup (ea_cons (ee_tup (ea_cons ee_int (ea_cons (ee_tup (ea_cons (ee_str [97, 97]) ea_nil)) ea_nil))) (ea_cons (ee_tup (ea_cons ee_int (ea_cons (ee_tup (ea_cons (ee_str [97, 98]) ea_nil)) ea_nil))) ea_nil))) (ea_cons ee_non (ea_cons ee_non ea_nil))))))) ea_nil)) (alen_cons (alen_cons alen_nil))))) (es_one (es_ret ee_bl)) es_nil) (es_cons (es_set (.f) [] sc_law.nd (ee_tup (ea_cons (ee_callX (ok_split_over (L := L) G) tk (hr.mono (by first | decide | omega)) (by rfl) G.g_split_over G.F_split_over.kp G.b_split_over (ea_cons (ee_tup (ea_cons ee_int (ea_cons (ee_tup (ea_cons (ee_str [97, 97, 98, 98]) (ea_cons (ee_str [97, 98, 97, 99]) (ea_cons (ee_str [98, 99, 97, 97]) ea_nil)))) ea_nil))) ea_nil) (alen_cons alen_nil)) (ea_cons (ee_callX (ok_outer_of (L := L) G) tk (hr.mono (by first | decide | omega)) (by rfl) G.g_outer_of G.F_outer_of.kp G.b_outer_of (ea_cons (ee_tup (ea_cons ee_int (ea_cons (ee_tup (ea_cons (ee_str [97, 98, 98, 97]) ea_nil)) ea_nil))) (ea_cons (ee_tup (ea_cons ee_int (ea_cons (ee_tup (ea_cons (ee_str [97, 98]) (ea_cons (ee_str [98, 97]) ea_nil))) ea_nil))) ea_nil)) (alen_cons (alen_cons alen_nil))) (ea_cons (ee_callX (ok_outer_of (L := L) G) tk (hr.mono (by first | decide | omega)) (by rfl) G.g_outer_of G.F_outer_of.kp G.b_outer_of (ea_cons (ee_tup (ea_cons ee_int (ea_cons (ee_tup (ea_cons (ee_str [97, 98]) ea_nil)) ea_nil))) (ea_cons (ee_var 3) ea_nil)) (alen_cons (alen_cons alen_nil))) ea_nil))))) (es_cons (es_if (et_not (et_val (ee_callX (ok__law_same (L := L) G 6) tk (hr.mono (by first | decide | omega)) (by rfl) G.g__law_same G.F__law_same.kp G.b__law_same (ea_cons (ee_op op_addM (ee_var 5) (ee_tup (ea_cons (ee_callX (ok_outer_of (L := L) G) tk (hr.mono (by first | decide | omega)) (by rfl) G.g_outer_of G.F_outer_of.kp G.b_outer_of (ea_cons (ee_tup (ea_cons ee_int (ea_cons (ee_tup (ea_cons (ee_str [97, 98, 97, 98]) ea_nil)) ea_nil))) (ea_cons (ee_tup (ea_cons ee_int (ea_cons (ee_tup (ea_cons (ee_str [97, 97, 97, 98]) (ea_cons (ee_str [97, 98, 97, 98]) ea_nil))) ea_nil))) ea_nil)) (alen_cons (alen_cons alen_nil))) ea_nil))) (ea_cons (ee_tup (ea_cons ee_non (ea_cons ee_non (ea_cons ee_non (ea_cons ee_non ea_nil))))) ea_nil)) (alen_cons (alen_cons alen_nil))))) (es_one (es_ret ee_bl)) es_nil) (es_cons (es_set (.f) [] sc_law.nd (ee_lst (ea_cons (ee_tup (ea_cons (ee_tup (ea_cons ee_int (ea_cons (ee_tup (ea_cons (ee_str [97, 99]) ea_nil)) ea_nil))) (ea_cons (ee_var 3) ea_nil))) (ea_cons (ee_tup (ea_cons (ee_tup (ea_cons ee_int (ea_cons (ee_tup (ea_cons (ee_str [97, 97, 98]) ea_nil)) ea_nil))) (ea_cons (ee_var 3) ea_nil))) (ea_cons (ee_tup (ea_cons (ee_var 2) (ea_cons (ee_tup (ea_cons ee_int (ea_cons (ee_tup (ea_cons (ee_str [97, 97, 98]) (ea_cons (ee_str [97, 98, 98]) ea_nil))) ea_nil))) ea_nil))) (ea_cons (ee_tup (ea_cons (ee_tup (ea_cons ee_int (ea_cons (ee_tup (ea_cons (ee_str [97, 98]) ea_nil)) ea_nil))) (ea_cons (ee_tup (ea_cons ee_int (ea_cons (ee_tup (ea_cons (ee_str [97, 98]) ea_nil)) ea_nil))) ea_nil))) ea_nil)))))) (es_cons (es_if (et_cmp (op_neM (hr.units)) (ee_comp (own := [("own", 11)]) rfl sc_law.nd (ei_any (ee_var 6)) (blkOk_by (show blkC ["script", "cup", "outer", "inner", "words", "told", "bads", "letters", "some", "size", "most", "own"] (defScope s_law) _ [("own", 11)] = true from by decide +kernel)) (fun _ _ _ _ _ => (pg_name (i := 11) sc_law.nd rfl (.inr rfl))) (fun _ _ _ _ _ => (pts_if (et_not (et_val (ee_refused (qual := "") (k := 6) G.F__law_refused rfl rfl G.e_InvalidList G.M_InvalidList (by rfl) G.g__law_refused G.F__law_refused.kp G.b__law_refused sc__law_refused rfl (.inl rfl) G.B_law G.c_law G.T_law G.U_law (hr.mono (by first | decide | omega)) (by rfl) (by rfl) (fun _ _ _ _ _ => rfl) (fun _ _ _ _ _ _ _ hrL => (ee_callX (ok_over_list (L := L) G) (takesF rfl rfl rfl rfl) (hrL.mono (by first | decide | omega)) (by rfl) G.g_over_list G.F_over_list.kp G.b_over_list (ea_cons (ee_ix (ix_M (hu_of hrL)) (ee_var 11) ee_int) (ea_cons (ee_ix (ix_M (hu_of hrL)) (ee_var 11) ee_int) ea_nil)) (alen_cons (alen_cons alen_nil))))))))) (fun _ _ _ _ _ => (ee_var 11)) EP1.n (by decide)) (ee_lst ea_nil)) (es_one (es_ret ee_bl)) es_nil) (es_cons (es_for pp rfl (ei_any (ee_tup (ea_cons (ee_tup (ea_cons ee_int (ea_cons ee_int (ea_cons ee_int (ea_cons ee_int ea_nil))))) (ea_cons (ee_tup (ea_cons ee_int (ea_cons ee_int (ea_cons ee_int (ea_cons ee_int ea_nil))))) (ea_cons (ee_tup (ea_cons ee_int (ea_cons ee_int (ea_cons ee_int (ea_cons ee_int ea_nil))))) (ea_cons (ee_tup (ea_cons ee_int (ea_cons ee_int (ea_cons ee_int (ea_cons ee_int ea_nil))))) (ea_cons (ee_tup (ea_cons ee_int (ea_cons ee_int (ea_cons ee_int (ea_cons ee_int ea_nil))))) ea_nil))))))) (pg_tup rfl (pgs_cons (pg_name (i := 7) sc_law.nd rfl (.inl rfl)) (pgs_cons (pg_name (i := 8) sc_law.nd rfl (.inl rfl)) (pgs_cons (pg_name (i := 9) sc_law.nd rfl (.inl rfl)) (pgs_cons (pg_name (i := 10) sc_law.nd rfl (.inl rfl)) pgs_nil))))) EP1.t (es_one (es_if (et_not (et_val (ee_callX (ok__law_right (L := L) G) tk (hr.mono (by first | decide | omega)) (by rfl) G.g__law_right G.F__law_right.kp G.b__law_right (ea_cons (ee_var 1) (ea_cons (ee_var 7) (ea_cons (ee_var 8) (ea_cons (ee_var 9) (ea_cons (ee_var 10) ea_nil))))) (alen_cons (alen_cons (alen_cons (alen_cons (alen_cons alen_nil)))))))) (es_one (es_ret ee_bl)) es_nil))) (es_one (es_ret ee_bl))))))))))))
end
set_option maxHeartbeats 0 in
theorem all_mk {l : PySem.W.OpenLaw} {w : World} {K : PySem.W.Frag} {h : Heap} {mg : Str → Option Value} {fa : Addr} (X : K.In h) (G : h.Ns mainGlobals mg) (hfa : mg "law" = some (.ref fa)) (hc : ∀ ns : List Int, ns.length ≤ 63 → ∃ st, m_law [.v (.seq (ns.map .int))] [] = .ok (.v (.bl true)) st)
    (own : ∀ y ∈ (["_law_right", "law"] : List Str), ∀ f, mg y = some (.ref f) → LamX.OwnTab K f h)
    {f0 f1 f2 f3 f4 f5 f6 f7 f8 f9 f10 f11 f12 f13 f14 f15 f16 f17 f18 f19 f20 f21 f22 f23 f24 : Addr}
    {od0 an0 od1 an1 od2 an2 od3 an3 od4 an4 od5 an5 od6 an6 od7 an7 od8 an8 od9 an9 od10 an10 od11 an11 od12 an12 od13 an13 od14 an14 od15 an15 od16 an16 od17 an17 od18 an18 od19 an19 od20 an20 od21 an21 od22 an22 od23 an23 od24 an24 : Option Addr} {sl0 sl1 sl2 sl3 sl4 sl5 sl6 sl7 sl8 sl9 sl10 sl11 sl12 sl13 sl14 sl15 sl16 sl17 sl18 sl19 sl20 sl21 sl22 sl23 sl24 : Array (Option Value)}
    {oc0 kV0 dc0 pm0 cd0 ct0 oc1 kV1 dc1 pm1 cd1 ct1 oc2 kV2 dc2 pm2 cd2 ct2 oc3 kV3 dc3 pm3 cd3 ct3 oc4 kV4 dc4 pm4 cd4 ct4 oc5 kV5 dc5 pm5 cd5 ct5 oc6 kV6 dc6 pm6 cd6 ct6 oc7 kV7 dc7 pm7 cd7 ct7 oc8 kV8 dc8 pm8 cd8 ct8 oc9 kV9 dc9 pm9 cd9 ct9 oc10 kV10 dc10 pm10 cd10 ct10 oc11 kV11 dc11 pm11 cd11 ct11 oc12 kV12 dc12 pm12 cd12 ct12 oc13 kV13 dc13 pm13 cd13 ct13 oc14 kV14 dc14 pm14 cd14 ct14 oc15 kV15 dc15 pm15 cd15 ct15 oc16 kV16 dc16 pm16 cd16 ct16 oc17 kV17 dc17 pm17 cd17 ct17 oc18 kV18 dc18 pm18 cd18 ct18 oc19 kV19 dc19 pm19 cd19 ct19 oc20 kV20 dc20 pm20 cd20 ct20 oc21 kV21 dc21 pm21 cd21 ct21 oc22 kV22 dc22 pm22 cd22 ct22 oc23 kV23 dc23 pm23 cd23 ct23 oc24 kV24 dc24 pm24 cd24 ct24 : Value}
    (a0 : PySem.W.nsIn K mainGlobals "_law_cup" = some (some (.ref f0))) (l0 : K.lookup f0 = some ⟨oc0, od0, .func (PySem.W.fnOf "_law_cup" "_law_cup" (defArgs s__law_cup) (defBody s__law_cup) (defScope s__law_cup) .none kV0 dc0 pm0 an0 cd0 ct0), sl0⟩) (c0 : PySem.W.codeIn K cd0 "_law_cup" = true) (k0 : PySem.W.keepIn K (.ref f0) = true)
    (a1 : PySem.W.nsIn K mainGlobals "is_tuple_of" = some (some (.ref f1))) (l1 : K.lookup f1 = some ⟨oc1, od1, .func (PySem.W.fnOf "is_tuple_of" "is_tuple_of" (defArgs s_is_tuple_of) (defBody s_is_tuple_of) (defScope s_is_tuple_of) .none kV1 dc1 pm1 an1 cd1 ct1), sl1⟩) (c1 : PySem.W.codeIn K cd1 "is_tuple_of" = true) (k1 : PySem.W.keepIn K (.ref f1) = true)
    (a2 : PySem.W.nsIn K mainGlobals "is_whole" = some (some (.ref f2))) (l2 : K.lookup f2 = some ⟨oc2, od2, .func (PySem.W.fnOf "is_whole" "is_whole" (defArgs s_is_whole) (defBody s_is_whole) (defScope s_is_whole) .none kV2 dc2 pm2 an2 cd2 ct2), sl2⟩) (c2 : PySem.W.codeIn K cd2 "is_whole" = true) (k2 : PySem.W.keepIn K (.ref f2) = true)
    (a3 : PySem.W.nsIn K mainGlobals "fits_row" = some (some (.ref f3))) (l3 : K.lookup f3 = some ⟨oc3, od3, .func (PySem.W.fnOf "fits_row" "fits_row" (defArgs s_fits_row) (defBody s_fits_row) (defScope s_fits_row) .none kV3 dc3 pm3 an3 cd3 ct3), sl3⟩) (c3 : PySem.W.codeIn K cd3 "fits_row" = true) (k3 : PySem.W.keepIn K (.ref f3) = true)
    (a4 : PySem.W.nsIn K mainGlobals "is_rising" = some (some (.ref f4))) (l4 : K.lookup f4 = some ⟨oc4, od4, .func (PySem.W.fnOf "is_rising" "is_rising" (defArgs s_is_rising) (defBody s_is_rising) (defScope s_is_rising) .none kV4 dc4 pm4 an4 cd4 ct4), sl4⟩) (c4 : PySem.W.codeIn K cd4 "is_rising" = true) (k4 : PySem.W.keepIn K (.ref f4) = true)
    (a5 : PySem.W.nsIn K mainGlobals "fits_list" = some (some (.ref f5))) (l5 : K.lookup f5 = some ⟨oc5, od5, .func (PySem.W.fnOf "fits_list" "fits_list" (defArgs s_fits_list) (defBody s_fits_list) (defScope s_fits_list) .none kV5 dc5 pm5 an5 cd5 ct5), sl5⟩) (c5 : PySem.W.codeIn K cd5 "fits_list" = true) (k5 : PySem.W.keepIn K (.ref f5) = true)
    (a6 : PySem.W.nsIn K mainGlobals "need_list" = some (some (.ref f6))) (l6 : K.lookup f6 = some ⟨oc6, od6, .func (PySem.W.fnOf "need_list" "need_list" (defArgs s_need_list) (defBody s_need_list) (defScope s_need_list) .none kV6 dc6 pm6 an6 cd6 ct6), sl6⟩) (c6 : PySem.W.codeIn K cd6 "need_list" = true) (k6 : PySem.W.keepIn K (.ref f6) = true)
    (a7 : PySem.W.nsIn K mainGlobals "need_two" = some (some (.ref f7))) (l7 : K.lookup f7 = some ⟨oc7, od7, .func (PySem.W.fnOf "need_two" "need_two" (defArgs s_need_two) (defBody s_need_two) (defScope s_need_two) .none kV7 dc7 pm7 an7 cd7 ct7), sl7⟩) (c7 : PySem.W.codeIn K cd7 "need_two" = true) (k7 : PySem.W.keepIn K (.ref f7) = true)
    (a8 : PySem.W.nsIn K mainGlobals "length_in" = some (some (.ref f8))) (l8 : K.lookup f8 = some ⟨oc8, od8, .func (PySem.W.fnOf "length_in" "length_in" (defArgs s_length_in) (defBody s_length_in) (defScope s_length_in) .none kV8 dc8 pm8 an8 cd8 ct8), sl8⟩) (c8 : PySem.W.codeIn K cd8 "length_in" = true) (k8 : PySem.W.keepIn K (.ref f8) = true)
    (a9 : PySem.W.nsIn K mainGlobals "need_over" = some (some (.ref f9))) (l9 : K.lookup f9 = some ⟨oc9, od9, .func (PySem.W.fnOf "need_over" "need_over" (defArgs s_need_over) (defBody s_need_over) (defScope s_need_over) .none kV9 dc9 pm9 an9 cd9 ct9), sl9⟩) (c9 : PySem.W.codeIn K cd9 "need_over" = true) (k9 : PySem.W.keepIn K (.ref f9) = true)
    (a10 : PySem.W.nsIn K mainGlobals "made_list" = some (some (.ref f10))) (l10 : K.lookup f10 = some ⟨oc10, od10, .func (PySem.W.fnOf "made_list" "made_list" (defArgs s_made_list) (defBody s_made_list) (defScope s_made_list) .none kV10 dc10 pm10 an10 cd10 ct10), sl10⟩) (c10 : PySem.W.codeIn K cd10 "made_list" = true) (k10 : PySem.W.keepIn K (.ref f10) = true)
    (a11 : PySem.W.nsIn K mainGlobals "lifted" = some (some (.ref f11))) (l11 : K.lookup f11 = some ⟨oc11, od11, .func (PySem.W.fnOf "lifted" "lifted" (defArgs s_lifted) (defBody s_lifted) (defScope s_lifted) .none kV11 dc11 pm11 an11 cd11 ct11), sl11⟩) (c11 : PySem.W.codeIn K cd11 "lifted" = true) (k11 : PySem.W.keepIn K (.ref f11) = true)
    (a12 : PySem.W.nsIn K mainGlobals "over_list" = some (some (.ref f12))) (l12 : K.lookup f12 = some ⟨oc12, od12, .func (PySem.W.fnOf "over_list" "over_list" (defArgs s_over_list) (defBody s_over_list) (defScope s_over_list) .none kV12 dc12 pm12 an12 cd12 ct12), sl12⟩) (c12 : PySem.W.codeIn K cd12 "over_list" = true) (k12 : PySem.W.keepIn K (.ref f12) = true)
    (a13 : PySem.W.nsIn K mainGlobals "turned" = some (some (.ref f13))) (l13 : K.lookup f13 = some ⟨oc13, od13, .func (PySem.W.fnOf "turned" "turned" (defArgs s_turned) (defBody s_turned) (defScope s_turned) .none kV13 dc13 pm13 an13 cd13 ct13), sl13⟩) (c13 : PySem.W.codeIn K cd13 "turned" = true) (k13 : PySem.W.keepIn K (.ref f13) = true)
    (a14 : PySem.W.nsIn K mainGlobals "pieces_in" = some (some (.ref f14))) (l14 : K.lookup f14 = some ⟨oc14, od14, .func (PySem.W.fnOf "pieces_in" "pieces_in" (defArgs s_pieces_in) (defBody s_pieces_in) (defScope s_pieces_in) .none kV14 dc14 pm14 an14 cd14 ct14), sl14⟩) (c14 : PySem.W.codeIn K cd14 "pieces_in" = true) (k14 : PySem.W.keepIn K (.ref f14) = true)
    (a15 : PySem.W.nsIn K mainGlobals "lowered" = some (some (.ref f15))) (l15 : K.lookup f15 = some ⟨oc15, od15, .func (PySem.W.fnOf "lowered" "lowered" (defArgs s_lowered) (defBody s_lowered) (defScope s_lowered) .none kV15 dc15 pm15 an15 cd15 ct15), sl15⟩) (c15 : PySem.W.codeIn K cd15 "lowered" = true) (k15 : PySem.W.keepIn K (.ref f15) = true)
    (a16 : PySem.W.nsIn K mainGlobals "outer_of" = some (some (.ref f16))) (l16 : K.lookup f16 = some ⟨oc16, od16, .func (PySem.W.fnOf "outer_of" "outer_of" (defArgs s_outer_of) (defBody s_outer_of) (defScope s_outer_of) .none kV16 dc16 pm16 an16 cd16 ct16), sl16⟩) (c16 : PySem.W.codeIn K cd16 "outer_of" = true) (k16 : PySem.W.keepIn K (.ref f16) = true)
    (a17 : PySem.W.nsIn K mainGlobals "split_over" = some (some (.ref f17))) (l17 : K.lookup f17 = some ⟨oc17, od17, .func (PySem.W.fnOf "split_over" "split_over" (defArgs s_split_over) (defBody s_split_over) (defScope s_split_over) .none kV17 dc17 pm17 an17 cd17 ct17), sl17⟩) (c17 : PySem.W.codeIn K cd17 "split_over" = true) (k17 : PySem.W.keepIn K (.ref f17) = true)
    (a18 : PySem.W.nsIn K mainGlobals "_law_same" = some (some (.ref f18))) (l18 : K.lookup f18 = some ⟨oc18, od18, .func (PySem.W.fnOf "_law_same" "_law_same" (defArgs s__law_same) (defBody s__law_same) (defScope s__law_same) .none kV18 dc18 pm18 an18 cd18 ct18), sl18⟩) (c18 : PySem.W.codeIn K cd18 "_law_same" = true) (k18 : PySem.W.keepIn K (.ref f18) = true)
    (a19 : PySem.W.nsIn K mainGlobals "_law_roll" = some (some (.ref f19))) (l19 : K.lookup f19 = some ⟨oc19, od19, .func (PySem.W.fnOf "_law_roll" "_law_roll" (defArgs s__law_roll) (defBody s__law_roll) (defScope s__law_roll) .none kV19 dc19 pm19 an19 cd19 ct19), sl19⟩) (c19 : PySem.W.codeIn K cd19 "_law_roll" = true) (k19 : PySem.W.keepIn K (.ref f19) = true)
    (a20 : PySem.W.nsIn K mainGlobals "_law_some" = some (some (.ref f20))) (l20 : K.lookup f20 = some ⟨oc20, od20, .func (PySem.W.fnOf "_law_some" "_law_some" (defArgs s__law_some) (defBody s__law_some) (defScope s__law_some) .none kV20 dc20 pm20 an20 cd20 ct20), sl20⟩) (c20 : PySem.W.codeIn K cd20 "_law_some" = true) (k20 : PySem.W.keepIn K (.ref f20) = true)
    (a21 : PySem.W.nsIn K mainGlobals "_law_list" = some (some (.ref f21))) (l21 : K.lookup f21 = some ⟨oc21, od21, .func (PySem.W.fnOf "_law_list" "_law_list" (defArgs s__law_list) (defBody s__law_list) (defScope s__law_list) .none kV21 dc21 pm21 an21 cd21 ct21), sl21⟩) (c21 : PySem.W.codeIn K cd21 "_law_list" = true) (k21 : PySem.W.keepIn K (.ref f21) = true)
    (a22 : PySem.W.nsIn K mainGlobals "_law_right" = some (some (.ref f22))) (l22 : K.lookup f22 = some ⟨oc22, od22, .func (PySem.W.fnOf "_law_right" "_law_right" (defArgs s__law_right) (defBody s__law_right) (defScope s__law_right) .none kV22 dc22 pm22 an22 cd22 ct22), sl22⟩) (c22 : PySem.W.codeIn K cd22 "_law_right" = true) (k22 : PySem.W.keepIn K (.ref f22) = true)
    (a23 : PySem.W.nsIn K mainGlobals "law" = some (some (.ref f23))) (l23 : K.lookup f23 = some ⟨oc23, od23, .func (PySem.W.fnOf "law" "law" (defArgs s_law) (defBody s_law) (defScope s_law) .none kV23 dc23 pm23 an23 cd23 ct23), sl23⟩) (c23 : PySem.W.codeIn K cd23 "law" = true) (k23 : PySem.W.keepIn K (.ref f23) = true)
    (a24 : PySem.W.nsIn K mainGlobals "_law_refused" = some (some (.ref f24))) (l24 : K.lookup f24 = some ⟨oc24, od24, .func (PySem.W.fnOf "_law_refused" "_law_refused" (defArgs s__law_refused) (defBody s__law_refused) (defScope s__law_refused) .none kV24 dc24 pm24 an24 cd24 ct24), sl24⟩) (c24 : PySem.W.codeIn K cd24 "_law_refused" = true) (k24 : PySem.W.keepIn K (.ref f24) = true)
    {cc__law_right Pt__law_right : Addr} {o2__law_right : Value} {d2__law_right : Option Addr} {vs__law_right : Array Value} {s2__law_right : Array (Option Value)} (cq__law_right : cd22 = .ref cc__law_right) (lc__law_right : K.lookup cc__law_right = some ⟨o2__law_right, d2__law_right, .fields vs__law_right, s2__law_right⟩) (hv__law_right : vs__law_right[11]? = some (.ref Pt__law_right))
    (th__law_right : PySem.W.codeHdIn K cc__law_right Pt__law_right = true) (tn__law_right : K.lookup Pt__law_right = none)
    {cc_law Pt_law : Addr} {o2_law : Value} {d2_law : Option Addr} {vs_law : Array Value} {s2_law : Array (Option Value)} (cq_law : cd23 = .ref cc_law) (lc_law : K.lookup cc_law = some ⟨o2_law, d2_law, .fields vs_law, s2_law⟩) (hv_law : vs_law[11]? = some (.ref Pt_law))
    (th_law : PySem.W.codeHdIn K cc_law Pt_law = true) (tn_law : K.lookup Pt_law = none)
    (nd__law_right_law : ¬ (Pt__law_right = Pt_law))
    (nd_law__law_right : ¬ (Pt_law = Pt__law_right))
    {C_InvalidList : Addr} (ea_InvalidList : PySem.W.nsIn K mainGlobals "InvalidList" = some (some (.ref C_InvalidList)))
    (eb_InvalidList : PySem.W.subIn K (.ref C_InvalidList) (.type "BaseException") = some true) (et_InvalidList : PySem.W.typeIn K (.ref C_InvalidList) = some (.type "type"))
    (ex_InvalidList : PySem.W.excIn K C_InvalidList [.type "ValueError", .type "Exception", .type "BaseException", .type "object"] "ValueError.__new__" = true) (ek_InvalidList : PySem.W.keepIn K (.ref C_InvalidList) = true)
    (eh_InvalidList : PySem.W.hasDictIn K C_InvalidList = true) (es_InvalidList : PySem.W.subIn K (.ref C_InvalidList) (.ref C_InvalidList) = some true)
    {t_LETTERS : Tok} (q_LETTERS : PySem.W.nsIn K mainGlobals "LETTERS" = some (some (.str "abcd" t_LETTERS)))
    {t_LONG : Tok} (q_LONG : PySem.W.nsIn K mainGlobals "LONG" = some (some (.int 4 t_LONG)))
    {t_SHORT : Tok} (q_SHORT : PySem.W.nsIn K mainGlobals "SHORT" = some (some (.int 2 t_SHORT)))
    {t_WORDS : Tok} (q_WORDS : PySem.W.nsIn K mainGlobals "WORDS" = some (some (.int 40 t_WORDS)))
    (z_abs : PySem.W.nsIn K mainGlobals "abs" = some none)
    (z_all : PySem.W.nsIn K mainGlobals "all" = some none)
    (z_bool : PySem.W.nsIn K mainGlobals "bool" = some none)
    (z_int : PySem.W.nsIn K mainGlobals "int" = some none)
    (z_isinstance : PySem.W.nsIn K mainGlobals "isinstance" = some none)
    (z_len : PySem.W.nsIn K mainGlobals "len" = some none)
    (z_list : PySem.W.nsIn K mainGlobals "list" = some none)
    (z_max : PySem.W.nsIn K mainGlobals "max" = some none)
    (z_range : PySem.W.nsIn K mainGlobals "range" = some none)
    (z_set : PySem.W.nsIn K mainGlobals "set" = some none)
    (z_sorted : PySem.W.nsIn K mainGlobals "sorted" = some none)
    (z_str : PySem.W.nsIn K mainGlobals "str" = some none)
    (z_tuple : PySem.W.nsIn K mainGlobals "tuple" = some none)
    (z_zip : PySem.W.nsIn K mainGlobals "zip" = some none)
    : LamX.LawAtS l w K (L2N.CX l.prog w) 13 63 "script" mg fa h := by
  have e := hfa.symm.trans (PySem.W.mg_of X G a23)
  cases e
  have F0 := fun_mk (st := s__law_cup) l0 c0 k0
  have F1 := fun_mk (st := s_is_tuple_of) l1 c1 k1
  have F2 := fun_mk (st := s_is_whole) l2 c2 k2
  have F3 := fun_mk (st := s_fits_row) l3 c3 k3
  have F4 := fun_mk (st := s_is_rising) l4 c4 k4
  have F5 := fun_mk (st := s_fits_list) l5 c5 k5
  have F6 := fun_mk (st := s_need_list) l6 c6 k6
  have F7 := fun_mk (st := s_need_two) l7 c7 k7
  have F8 := fun_mk (st := s_length_in) l8 c8 k8
  have F9 := fun_mk (st := s_need_over) l9 c9 k9
  have F10 := fun_mk (st := s_made_list) l10 c10 k10
  have F11 := fun_mk (st := s_lifted) l11 c11 k11
  have F12 := fun_mk (st := s_over_list) l12 c12 k12
  have F13 := fun_mk (st := s_turned) l13 c13 k13
  have F14 := fun_mk (st := s_pieces_in) l14 c14 k14
  have F15 := fun_mk (st := s_lowered) l15 c15 k15
  have F16 := fun_mk (st := s_outer_of) l16 c16 k16
  have F17 := fun_mk (st := s_split_over) l17 c17 k17
  have F18 := fun_mk (st := s__law_same) l18 c18 k18
  have F19 := fun_mk (st := s__law_roll) l19 c19 k19
  have F20 := fun_mk (st := s__law_some) l20 c20 k20
  have F21 := fun_mk (st := s__law_list) l21 c21 k21
  have F22 := fun_mk (st := s__law_right) l22 c22 k22
  have F23 := fun_mk (st := s_law) l23 c23 k23
  have F24 := fun_mk (st := s__law_refused) l24 c24 k24
  have B0 := F0.binds (ps := ["script"]) fun _ _ _ _ _ _ us hl => match us, hl with | [_], _ => rfl
  have B1 := F1.binds (ps := ["value", "low", "high"]) fun _ _ _ _ _ _ us hl => match us, hl with | [_, _, _], _ => rfl
  have B2 := F2.binds (ps := ["value", "low", "high"]) fun _ _ _ _ _ _ us hl => match us, hl with | [_, _, _], _ => rfl
  have B3 := F3.binds (ps := ["letters", "value", "low", "high"]) fun _ _ _ _ _ _ us hl => match us, hl with | [_, _, _, _], _ => rfl
  have B4 := F4.binds (ps := ["values"]) fun _ _ _ _ _ _ us hl => match us, hl with | [_], _ => rfl
  have B5 := F5.binds (ps := ["value"]) fun _ _ _ _ _ _ us hl => match us, hl with | [_], _ => rfl
  have B6 := F6.binds (ps := ["words"]) fun _ _ _ _ _ _ us hl => match us, hl with | [_], _ => rfl
  have B7 := F7.binds (ps := ["one", "other"]) fun _ _ _ _ _ _ us hl => match us, hl with | [_, _], _ => rfl
  have B8 := F8.binds (ps := ["words"]) fun _ _ _ _ _ _ us hl => match us, hl with | [_], _ => rfl
  have B9 := F9.binds (ps := ["outer", "inner"]) fun _ _ _ _ _ _ us hl => match us, hl with | [_, _], _ => rfl
  have B10 := F10.binds (ps := ["letters", "rows"]) fun _ _ _ _ _ _ us hl => match us, hl with | [_, _], _ => rfl
  have B11 := F11.binds (ps := ["inner", "word"]) fun _ _ _ _ _ _ us hl => match us, hl with | [_, _], _ => rfl
  have B12 := F12.binds (ps := ["outer", "inner"]) fun _ _ _ _ _ _ us hl => match us, hl with | [_, _], _ => rfl
  have B13 := F13.binds (ps := ["word", "by"]) fun _ _ _ _ _ _ us hl => match us, hl with | [_, _], _ => rfl
  have B14 := F14.binds (ps := ["belt", "length", "first"]) fun _ _ _ _ _ _ us hl => match us, hl with | [_, _, _], _ => rfl
  have B15 := F15.binds (ps := ["inner", "word"]) fun _ _ _ _ _ _ us hl => match us, hl with | [_, _], _ => rfl
  have B16 := F16.binds (ps := ["words", "inner"]) fun _ _ _ _ _ _ us hl => match us, hl with | [_, _], _ => rfl
  have B17 := F17.binds (ps := ["words"]) fun _ _ _ _ _ _ us hl => match us, hl with | [_], _ => rfl
  have B18 := F18.binds (ps := ["told", "due"]) fun _ _ _ _ _ _ us hl => match us, hl with | [_, _], _ => rfl
  have B19 := F19.binds (ps := ["cup", "many"]) fun _ _ _ _ _ _ us hl => match us, hl with | [_, _], _ => rfl
  have B20 := F20.binds (ps := ["cup", "things"]) fun _ _ _ _ _ _ us hl => match us, hl with | [_, _], _ => rfl
  have B21 := F21.binds (ps := ["cup", "letters", "length", "many", "most"]) fun _ _ _ _ _ _ us hl => match us, hl with | [_, _, _, _, _], _ => rfl
  have B22 := F22.binds (ps := ["cup", "letters", "some", "size", "most"]) fun _ _ _ _ _ _ us hl => match us, hl with | [_, _, _, _, _], _ => rfl
  have B23 := F23.binds (ps := ["script"]) fun _ _ _ _ _ _ us hl => match us, hl with | [_], _ => rfl
  have B24 := F24.binds (ps := ["call"]) fun _ _ _ _ _ _ us hl => match us, hl with | [_], _ => rfl
  have t__law_right : PySem.W.tabIn K "_law_right" = some (cc__law_right, Pt__law_right) := tab_mk a22 l22 cq__law_right lc__law_right hv__law_right
  have t_law : PySem.W.tabIn K "law" = some (cc_law, Pt_law) := tab_mk a23 l23 cq_law lc_law hv_law
  exact ⟨_, [(cc__law_right, Pt__law_right), (cc_law, Pt_law)], SpF ⟨K, mg, [(Pt__law_right, ((("_law_right" : Str) ++ ".<locals>.") ++ "<lambda>")), (Pt_law, ((("law" : Str) ++ ".<locals>.") ++ "<lambda>"))], none, true⟩ 1 m_law, (List.forall_mem_cons.mpr ⟨tab_own X G t__law_right (own "_law_right" (by simp)), (List.forall_mem_cons.mpr ⟨tab_own X G t_law (own "law" (by simp)), (fun _ h => by cases h)⟩)⟩), (List.forall_mem_cons.mpr ⟨tn__law_right, (List.forall_mem_cons.mpr ⟨tn_law, (fun _ h => by cases h)⟩)⟩), (List.forall_mem_cons.mpr ⟨PySem.W.codeHd_of_K X th__law_right, (List.forall_mem_cons.mpr ⟨PySem.W.codeHd_of_K X th_law, (fun _ h => by cases h)⟩)⟩), fun s v => .of_eq rfl, fun H a ns hl _ hT hs => sp_lawT hc hl (List.forall_mem_cons.mpr ⟨hT (cc__law_right, Pt__law_right) (by simp), (List.forall_mem_cons.mpr ⟨hT (cc_law, Pt_law) (by simp), (fun _ h => by cases h)⟩)⟩) hs, fun base _ _ TB => ok_law (L := ⟨[(Pt__law_right, ((("_law_right" : Str) ++ ".<locals>.") ++ "<lambda>")), (Pt_law, ((("law" : Str) ++ ".<locals>.") ++ "<lambda>"))], none, true⟩) ⟨rfl, f0, _, F0, B0, PySem.W.mg_of X G a0, f1, _, F1, B1, PySem.W.mg_of X G a1, f2, _, F2, B2, PySem.W.mg_of X G a2, f3, _, F3, B3, PySem.W.mg_of X G a3, f4, _, F4, B4, PySem.W.mg_of X G a4, f5, _, F5, B5, PySem.W.mg_of X G a5, f6, _, F6, B6, PySem.W.mg_of X G a6, f7, _, F7, B7, PySem.W.mg_of X G a7, f8, _, F8, B8, PySem.W.mg_of X G a8, f9, _, F9, B9, PySem.W.mg_of X G a9, f10, _, F10, B10, PySem.W.mg_of X G a10, f11, _, F11, B11, PySem.W.mg_of X G a11, f12, _, F12, B12, PySem.W.mg_of X G a12, f13, _, F13, B13, PySem.W.mg_of X G a13, f14, _, F14, B14, PySem.W.mg_of X G a14, f15, _, F15, B15, PySem.W.mg_of X G a15, f16, _, F16, B16, PySem.W.mg_of X G a16, f17, _, F17, B17, PySem.W.mg_of X G a17, f18, _, F18, B18, PySem.W.mg_of X G a18, f19, _, F19, B19, PySem.W.mg_of X G a19, f20, _, F20, B20, PySem.W.mg_of X G a20, f21, _, F21, B21, PySem.W.mg_of X G a21, f22, _, F22, B22, PySem.W.mg_of X G a22, fa, _, F23, B23, PySem.W.mg_of X G a23, f24, _, F24, B24, PySem.W.mg_of X G a24, cc__law_right, Pt__law_right, TB (cc__law_right, Pt__law_right) (by simp), tab_code t__law_right a22 l22, by simp, (List.forall_mem_cons.mpr ⟨(fun _ => rfl), (List.forall_mem_cons.mpr ⟨(fun q => absurd q nd_law__law_right), (fun _ h => by cases h)⟩)⟩), cc_law, Pt_law, TB (cc_law, Pt_law) (by simp), tab_code t_law a23 l23, by simp, (List.forall_mem_cons.mpr ⟨(fun q => absurd q nd__law_right_law), (List.forall_mem_cons.mpr ⟨(fun _ => rfl), (fun _ h => by cases h)⟩)⟩), C_InvalidList, PySem.W.mg_of X G ea_InvalidList, ⟨_, PySem.W.mg_of X G ea_InvalidList, ex_InvalidList, ek_InvalidList, eb_InvalidList, et_InvalidList⟩, catch_one (PySem.W.mg_of X G ea_InvalidList) (PySem.W.exm_ref eb_InvalidList eh_InvalidList et_InvalidList es_InvalidList), ⟨_, PySem.W.mg_of X G q_LETTERS, _, rfl⟩, ⟨_, PySem.W.mg_of X G q_LONG, _, rfl⟩, ⟨_, PySem.W.mg_of X G q_SHORT, _, rfl⟩, ⟨_, PySem.W.mg_of X G q_WORDS, _, rfl⟩, PySem.W.mg_none_of X G z_abs, PySem.W.mg_none_of X G z_all, PySem.W.mg_none_of X G z_bool, PySem.W.mg_none_of X G z_int, PySem.W.mg_none_of X G z_isinstance, PySem.W.mg_none_of X G z_len, PySem.W.mg_none_of X G z_list, PySem.W.mg_none_of X G z_max, PySem.W.mg_none_of X G z_range, PySem.W.mg_none_of X G z_set, PySem.W.mg_none_of X G z_sorted, PySem.W.mg_none_of X G z_str, PySem.W.mg_none_of X G z_tuple, PySem.W.mg_none_of X G z_zip⟩⟩
end K77

open PySem PySem.W PyProof.Rows
set_option maxHeartbeats 0 in
theorem PySem.Challenge.cw_ringread_k77_whole_lists_over_lists_holds : PySem.Challenge.rw_ringread_k77_whole_lists_over_lists.Holds := by
  w_on; o_law; k_head; (case hw => w_witness2)
  k_fill
  refine Eng.walk_tabs (l := PySem.Challenge.rw_ringread_k77_whole_lists_over_lists) (n := 63) (k := 13) (x := "script") (CX := fun w => L2N.CX PySem.Challenge.rw_ringread_k77_whole_lists_over_lists.prog w) ["_law_right", "law"] rfl (by decide) rfl ⟨rfl, by decide, by decide⟩ (by decide +kernel) (fun w h Y => by first | exact PySem.W.km_in_of Y | exact PySem.W.kIn_of Y) ?F (fun _ _ _ _ _ h => by obtain ⟨_, _, _, _, _, _, _, _, _, _, _, _, z⟩ := h; exact z)
  case F =>
    intro w mg fa h _ hx KX G hmg own
    refine' K77.all_mk KX G hmg K77.law_true own ?a0 ?l0 ?c0 ?k0 ?a1 ?l1 ?c1 ?k1 ?a2 ?l2 ?c2 ?k2 ?a3 ?l3 ?c3 ?k3 ?a4 ?l4 ?c4 ?k4 ?a5 ?l5 ?c5 ?k5 ?a6 ?l6 ?c6 ?k6 ?a7 ?l7 ?c7 ?k7 ?a8 ?l8 ?c8 ?k8 ?a9 ?l9 ?c9 ?k9 ?a10 ?l10 ?c10 ?k10 ?a11 ?l11 ?c11 ?k11 ?a12 ?l12 ?c12 ?k12 ?a13 ?l13 ?c13 ?k13 ?a14 ?l14 ?c14 ?k14 ?a15 ?l15 ?c15 ?k15 ?a16 ?l16 ?c16 ?k16 ?a17 ?l17 ?c17 ?k17 ?a18 ?l18 ?c18 ?k18 ?a19 ?l19 ?c19 ?k19 ?a20 ?l20 ?c20 ?k20 ?a21 ?l21 ?c21 ?k21 ?a22 ?l22 ?c22 ?k22 ?a23 ?l23 ?c23 ?k23 ?a24 ?l24 ?c24 ?k24 ?cq__law_right ?lc__law_right ?hv__law_right ?th__law_right ?tn__law_right ?cq_law ?lc_law ?hv_law ?th_law ?tn_law ?nd__law_right_law ?nd_law__law_right ?ea_InvalidList ?eb_InvalidList ?et_InvalidList ?ex_InvalidList ?ek_InvalidList ?eh_InvalidList ?es_InvalidList ?q_LETTERS ?q_LONG ?q_SHORT ?q_WORDS ?z_abs ?z_all ?z_bool ?z_int ?z_isinstance ?z_len ?z_list ?z_max ?z_range ?z_set ?z_sorted ?z_str ?z_tuple ?z_zip
    (case a0 => k_is); (case l0 => k_is); (case c0 => k_is); (case k0 => k_is); (case a1 => k_is); (case l1 => k_is); (case c1 => k_is); (case k1 => k_is)
    (case a2 => k_is); (case l2 => k_is); (case c2 => k_is); (case k2 => k_is); (case a3 => k_is); (case l3 => k_is); (case c3 => k_is); (case k3 => k_is)
    (case a4 => k_is); (case l4 => k_is); (case c4 => k_is); (case k4 => k_is); (case a5 => k_is); (case l5 => k_is); (case c5 => k_is); (case k5 => k_is)
    (case a6 => k_is); (case l6 => k_is); (case c6 => k_is); (case k6 => k_is); (case a7 => k_is); (case l7 => k_is); (case c7 => k_is); (case k7 => k_is)
    (case a8 => k_is); (case l8 => k_is); (case c8 => k_is); (case k8 => k_is); (case a9 => k_is); (case l9 => k_is); (case c9 => k_is); (case k9 => k_is)
    (case a10 => k_is); (case l10 => k_is); (case c10 => k_is); (case k10 => k_is); (case a11 => k_is); (case l11 => k_is); (case c11 => k_is); (case k11 => k_is)
    (case a12 => k_is); (case l12 => k_is); (case c12 => k_is); (case k12 => k_is); (case a13 => k_is); (case l13 => k_is); (case c13 => k_is); (case k13 => k_is)
    (case a14 => k_is); (case l14 => k_is); (case c14 => k_is); (case k14 => k_is); (case a15 => k_is); (case l15 => k_is); (case c15 => k_is); (case k15 => k_is)
    (case a16 => k_is); (case l16 => k_is); (case c16 => k_is); (case k16 => k_is); (case a17 => k_is); (case l17 => k_is); (case c17 => k_is); (case k17 => k_is)
    (case a18 => k_is); (case l18 => k_is); (case c18 => k_is); (case k18 => k_is); (case a19 => k_is); (case l19 => k_is); (case c19 => k_is); (case k19 => k_is)
    (case a20 => k_is); (case l20 => k_is); (case c20 => k_is); (case k20 => k_is); (case a21 => k_is); (case l21 => k_is); (case c21 => k_is); (case k21 => k_is)
    (case a22 => k_is); (case l22 => k_is); (case c22 => k_is); (case k22 => k_is); (case a23 => k_is); (case l23 => k_is); (case c23 => k_is); (case k23 => k_is)
    (case a24 => k_is); (case l24 => k_is); (case c24 => k_is); (case k24 => k_is); (case cq__law_right => rfl); (case lc__law_right => k_is); (case hv__law_right => rfl); (case th__law_right => kernel_rfl)
    (case tn__law_right => kernel_rfl); (case cq_law => rfl); (case lc_law => k_is); (case hv_law => rfl); (case th_law => kernel_rfl); (case tn_law => kernel_rfl); (case nd__law_right_law => decide); (case nd_law__law_right => decide)
    (case ea_InvalidList => k_is); (case eb_InvalidList => k_is); (case et_InvalidList => k_is); (case ex_InvalidList => k_exc); (case ek_InvalidList => k_is); (case eh_InvalidList => k_is); (case es_InvalidList => (first | k_is | kernel_rfl)); (case q_LETTERS => k_is)
    (case q_LONG => k_is); (case q_SHORT => k_is); (case q_WORDS => k_is); (case z_abs => k_is); (case z_all => k_is); (case z_bool => k_is); (case z_int => k_is); (case z_isinstance => k_is)
    (case z_len => k_is); (case z_list => k_is); (case z_max => k_is); (case z_range => k_is); (case z_set => k_is); (case z_sorted => k_is); (case z_str => k_is); (case z_tuple => k_is)
    (case z_zip => k_is)

