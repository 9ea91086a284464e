import PyProof.Rows.All
import Wide.All
import OpenK.AllK
import Wide.FinOn
import HandS.ForMost
import HandS.TupAny
import HandS.TupMul
import HandS.Deep
import HandS.DeepEq
import HandS.IsInst
import HandS.CallSlots
import HandS.Lambda
import HandS.Zip
import HandS.Style
import HandS.DictComp
import HandS.DictTup
import HandS.SortOrd
import HandS.SortRule
import HandS.TupLe
import HandS.Strs
import HandS.RaiseMore
import HandS.SortInts
import HandS.More
import HandS.Replace
import HandS.Small
import KE.GoesEnum
import PySem.Challenge.RW_ringread_k81_whole_belts_cut_in_turn
set_option Elab.async false
set_option linter.all false
set_option maxRecDepth 100000
namespace Eng
open PySem PySem.Spec PyProof.Rows L2

/-! ### plain data -/
inductive Val where
  | non | bl (b : Bool) | int (i : Int) | str (s : List Nat) | tup (xs : List Val) | lst (xs : List Val) | dic (t : Bool) (kvs : List (Val × Val)) | glb (x : Str) | ty (n : String) | seq (xs : List Val) | exn (c : Str) (lim : Option Int)
/-- what an expression yields -/
inductive SV where
  | v (x : Val) | loc (l : Nat) | fl (xs : List Val) | fd (t : Bool) (kvs : List (Val × Val))
/-- a mutable cell -/
inductive SO where
  | dead | lst (xs : List Val) | dic (t : Bool) (kvs : List (Val × Val))
abbrev Sto := List SO
abbrev Env := List (Option SV)
structure Ex where
  cls : Str
  arg : Option Val
inductive Rv (α : Type) where
  | ok (a : α) (st : Sto) | exc (e : Ex) (st : Sto) | bad
inductive Rs where
  | nx (env : Env) (st : Sto) | rt (z : SV) (st : Sto) | exc (e : Ex) (env : Env) (st : Sto) | bad
abbrev Fe := Env → Sto → Rv SV
abbrev Ft := Env → Sto → Rv Bool
abbrev Fs := Env → Sto → Rs
def Rv.bind {α β : Type} (r : Rv α) (f : α → Sto → Rv β) : Rv β := match r with
  | .ok a st => f a st
  | .exc e st => .exc e st
  | .bad => .bad
abbrev toS (l : List Nat) : Str := ⟨l.toArray⟩
/-- signs that a text may have, not too many -/
def SOk (l : List Nat) : Bool := decide (l.length ≤ 1000000) && l.all fun c => decide (c < 1114112)

/-- the value that is read of a yield, now -/
def SV.val (st : Sto) : SV → Option Val
  | .v x => some x
  | .loc l => match st[l]? with
    | some (.lst xs) => some (.lst xs)
    | some (.dic t kvs) => some (.dic t kvs)
    | _ => none
  | .fl xs => some (.lst xs)
  | .fd t kvs => some (.dic t kvs)

def keyOf : Val → Option Key
  | .int i => some (.inl i)
  | .str l => some (.inr (toS l))
  | _ => none
def keysOf : List Val → Option (List Key)
  | [] => some []
  | x :: r => match keyOf x, keysOf r with
    | some k, some ks => some (k :: ks)
    | _, _ => none

/-! ### what of the module is known -/
structure Gc where
  K : PySem.W.Frag
  mg : Str → Option Value
  T : List (Addr × Str)
  ex : Option (Addr × Str × Option Addr)
/-- addresses of the cells -/
abbrev Rho := List (Option Addr)
def Tr (ρ : Rho) (a : Addr) : Prop := some a ∈ ρ

/-- a set of addresses: what may be written -/
abbrev Ts := Addr → Prop
mutual
/-- a frozen value -/
inductive RepV (G : Gc) (H : Hp) (T : Ts) : Val → V → Prop
  | non : RepV G H T .non .non
  | bl (b : Bool) : RepV G H T (.bl b) (.bl b)
  | int (i : Int) : RepV G H T (.int i) (.int i)
  | str (l : List Nat) : SOk l = true → RepV G H T (.str l) (.str (toS l))
  | tup {xs : List Val} {vs : List V} {a : Addr} : H a = some (.tup vs) → RepVs G H T xs vs → RepV G H T (.tup xs) (.ref a)
  | lst {xs : List Val} {vs : List V} {a : Addr} : H a = some (.lst vs) → ¬ T a → RepVs G H T xs vs → RepV G H T (.lst xs) (.ref a)
  | dicK {kvs : List (Val × Val)} {ks : List (Key × V)} {a : Addr} : H a = some (.dK ks) → ¬ T a → RepK G H T kvs ks → RepV G H T (.dic false kvs) (.ref a)
  | dicT {kvs : List (Val × Val)} {ks : List (List Key × V)} {a : Addr} : H a = some (.dT ks) → ¬ T a → RepT G H T kvs ks → RepV G H T (.dic true kvs) (.ref a)
  | glb {x : Str} {u : Value} {v : V} : G.mg x = some u → RelV v u → RepV G H T (.glb x) v
  | ty (n : String) : RepV G H T (.ty n) (.ty n)
  | seqH {xs : List Val} {vs : List V} {a : Addr} : Rd H a (.lst vs) → ¬ T a → RepVs G H T xs vs → RepV G H T (.seq xs) (.ref a)
  | seqK {xs : List Val} {vs : List V} {a : Addr} : (∀ H', SqL G.K H' a vs) → RepVs G H T xs vs → RepV G H T (.seq xs) (.ref a)
  | exn {c : Str} {lim : Option Int} {a : Addr} {d : Option Addr} : G.ex = some (a, c, d) → (∀ i, lim = some i → ∃ dx, d = some dx ∧ H dx = some (.xd [("limit", .int i)]) ∧ ¬ T dx) → RepV G H T (.exn c lim) (.ref a)
inductive RepVs (G : Gc) (H : Hp) (T : Ts) : List Val → List V → Prop
  | nil : RepVs G H T [] []
  | cons {x : Val} {v : V} {xs : List Val} {vs : List V} : RepV G H T x v → RepVs G H T xs vs → RepVs G H T (x :: xs) (v :: vs)
inductive RepK (G : Gc) (H : Hp) (T : Ts) : List (Val × Val) → List (Key × V) → Prop
  | nil : RepK G H T [] []
  | cons {x y : Val} {k : Key} {v : V} {kvs : List (Val × Val)} {ks : List (Key × V)} : keyOf x = some k → RepV G H T x (kV k) → RepV G H T y v → RepK G H T kvs ks → RepK G H T ((x, y) :: kvs) ((k, v) :: ks)
inductive RepT (G : Gc) (H : Hp) (T : Ts) : List (Val × Val) → List (List Key × V) → Prop
  | nil : RepT G H T [] []
  | cons {xs : List Val} {y : Val} {k : List Key} {v : V} {kvs : List (Val × Val)} {ks : List (List Key × V)} : keysOf xs = some k → RepVs G H T xs (k.map kV) → RepV G H T y v → RepT G H T kvs ks → RepT G H T ((.tup xs, y) :: kvs) ((k, v) :: ks)
end
/-- a value that is read now: the top may be a cell's object -/
inductive Now (G : Gc) (H : Hp) (T : Ts) : Val → V → Prop
  | rep {x : Val} {v : V} : RepV G H T x v → Now G H T x v
  | lst {xs : List Val} {vs : List V} {a : Addr} : H a = some (.lst vs) → RepVs G H T xs vs → Now G H T (.lst xs) (.ref a)
  | dicK {kvs : List (Val × Val)} {ks : List (Key × V)} {a : Addr} : H a = some (.dK ks) → RepK G H T kvs ks → Now G H T (.dic false kvs) (.ref a)
  | dicT {kvs : List (Val × Val)} {ks : List (List Key × V)} {a : Addr} : H a = some (.dT ks) → RepT G H T kvs ks → Now G H T (.dic true kvs) (.ref a)

inductive RepO (G : Gc) (H : Hp) (T : Ts) : SO → Addr → Prop
  | lst {xs : List Val} {vs : List V} {a : Addr} : H a = some (.lst vs) → RepVs G H T xs vs → RepO G H T (.lst xs) a
  | dicK {kvs : List (Val × Val)} {ks : List (Key × V)} {a : Addr} : H a = some (.dK ks) → RepK G H T kvs ks → RepO G H T (.dic false kvs) a
  | dicT {kvs : List (Val × Val)} {ks : List (List Key × V)} {a : Addr} : H a = some (.dT ks) → RepT G H T kvs ks → RepO G H T (.dic true kvs) a

/-- what may be written, and what is held back -/
abbrev TP (P : Ts) (ρ : Rho) : Ts := fun a => P a ∨ Tr ρ a
def Plus (T : Ts) (a : Addr) : Ts := fun b => T b ∨ b = a
def Plain (u : HO) : Prop := (∀ ps, u ≠ .tbl ps) ∧ (∀ xs, u ≠ .tup xs) ∧ (∀ o xs, u ≠ .frz o xs) ∧ (∀ φ, u ≠ .ext φ)
/-- the store; P: things held back (lists in the making) -/
structure RepS (G : Gc) (H : Hp) (P : Ts) (ρ : Rho) (st : Sto) : Prop where
  len : ρ.length = st.length
  nd : ∀ (l l' : Nat) (a : Addr), ρ[l]? = some (some a) → ρ[l']? = some (some a) → l = l'
  obj : ∀ (l : Nat) (a : Addr), ρ[l]? = some (some a) → ∃ o, st[l]? = some o ∧ RepO G H (TP P ρ) o a
  dead : ∀ (l : Nat), ρ[l]? = some none → st[l]? = some .dead
  tab : LamX.Tabs G.T H
  prv : ∀ a, P a → ∃ u, H a = some u ∧ Plain u
  apart : ∀ a, P a → ¬ Tr ρ a

/-- what is yielded; H0: the heap ahead of the expression -/
inductive RepX (G : Gc) (H0 H : Hp) (P : Ts) (ρ : Rho) (st : Sto) : SV → V → Prop
  | v {x : Val} {v : V} : RepV G H (TP P ρ) x v → RepX G H0 H P ρ st (.v x) v
  | loc {l : Nat} {a : Addr} : ρ[l]? = some (some a) → RepX G H0 H P ρ st (.loc l) (.ref a)
  | fl {xs : List Val} {vs : List V} {a : Addr} : H a = some (.lst vs) → H0 a = none → RepVs G H (TP (Plus P a) ρ) xs vs → RepS G H (Plus P a) ρ st → ¬ P a → RepX G H0 H P ρ st (.fl xs) (.ref a)
  | fdK {kvs : List (Val × Val)} {ks : List (Key × V)} {a : Addr} : H a = some (.dK ks) → H0 a = none → RepK G H (TP (Plus P a) ρ) kvs ks → RepS G H (Plus P a) ρ st → ¬ P a → RepX G H0 H P ρ st (.fd false kvs) (.ref a)
  | fdT {kvs : List (Val × Val)} {ks : List (List Key × V)} {a : Addr} : H a = some (.dT ks) → H0 a = none → RepT G H (TP (Plus P a) ρ) kvs ks → RepS G H (Plus P a) ρ st → ¬ P a → RepX G H0 H P ρ st (.fd true kvs) (.ref a)

/-- the slots: frozen values and cells -/
inductive RepZ (G : Gc) (H : Hp) (P : Ts) (ρ : Rho) : SV → V → Prop
  | v {x : Val} {v : V} : RepV G H (TP P ρ) x v → RepZ G H P ρ (.v x) v
  | loc {l : Nat} {a : Addr} : ρ[l]? = some (some a) → RepZ G H P ρ (.loc l) (.ref a)
structure RepE (G : Gc) (H : Hp) (P : Ts) (ρ : Rho) (env : Env) (σ : L2.St) : Prop where
  len : env.length = σ.length
  get : ∀ (i : Nat) (z : SV), env[i]? = some (some z) → ∃ v, σ[i]? = some (some v) ∧ RepZ G H P ρ z v

/-- what was is kept, but what may be written; new writable things are new things -/
structure Kp (T : Ts) (H : Hp) (T' : Ts) (H' : Hp) : Prop where
  keep : ∀ a o, ¬ T a → H a = some o → (∀ ps, o ≠ .tbl ps) → H' a = some o
  stay : ∀ a o, H a = some o → ∃ o', H' a = some o'
  new : ∀ a, T' a → T a ∨ H a = none
/-- what a statement may do: the cells in B may be bound anew; from n on they are the def's own -/
structure ExtS (B : List Nat) (n : Nat) (ρ : Rho) (H : Hp) (ρ' : Rho) (H' : Hp) : Prop where
  len : ρ'.length = ρ.length
  fix : ∀ l : Nat, (∀ j ∈ B, l ≠ n + j) → ρ'[l]? = ρ[l]?
  kp : Kp (Tr ρ) H (Tr ρ') H'

section
variable {G : Gc} {H H0 H1 H2 H' : Hp} {ρ ρ1 ρ2 ρ' : Rho} {T T1 T2 T' P P1 : Ts} {B B1 B2 : List Nat} {n : Nat} {st st' : Sto}
theorem Kp.refl : Kp T H T H := ⟨fun _ _ _ h _ => h, fun _ o h => ⟨o, h⟩, fun _ h => .inl h⟩
theorem Kp.none (a : Kp T H T1 H1) {p : Addr} (h : H1 p = Option.none) : H p = Option.none := by
  cases q : H p with
  | none => rfl
  | some o => obtain ⟨o', e⟩ := a.stay p o q; rw [h] at e; cases e
theorem Kp.trans (x : Kp T H T1 H1) (y : Kp T1 H1 T2 H2) : Kp T H T2 H2 := by
  refine ⟨fun a o na h t => ?_, fun a o h => ?_, fun a t => ?_⟩
  · refine y.keep a o (fun z => ?_) (x.keep a o na h t) t
    rcases x.new a z with z | z
    · exact na z
    · rw [h] at z; cases z
  · obtain ⟨o', e⟩ := x.stay a o h
    exact y.stay a o' e
  · rcases y.new a t with z | z
    · exact x.new a z
    · exact .inr (x.none z)
/-- with what is held back -/
theorem Kp.tp (x : Kp (Tr ρ) H (Tr ρ1) H1) : Kp (TP P ρ) H (TP P ρ1) H1 :=
  ⟨fun a o na h t => x.keep a o (fun z => na (.inr z)) h t, x.stay, fun a t => t.elim (fun z => .inl (.inl z)) fun z => (x.new a z).imp .inr id⟩
theorem ExtS.refl : ExtS B n ρ H ρ H := ⟨rfl, fun _ _ => rfl, Kp.refl⟩
theorem ExtS.of (k : Kp (Tr ρ) H (Tr ρ) H1) : ExtS B n ρ H ρ H1 := ⟨rfl, fun _ _ => rfl, k⟩
theorem ExtS.mono (x : ExtS B1 n ρ H ρ1 H1) (h : ∀ l ∈ B1, l ∈ B) : ExtS B n ρ H ρ1 H1 := ⟨x.len, fun l z => x.fix l fun j q => z j (h j q), x.kp⟩
theorem ExtS.trans (x : ExtS B n ρ H ρ1 H1) (y : ExtS B n ρ1 H1 ρ2 H2) : ExtS B n ρ H ρ2 H2 :=
  ⟨y.len.trans x.len, fun l h => (y.fix l h).trans (x.fix l h), x.kp.trans y.kp⟩
theorem ExtS.old (x : ExtS B n ρ H ρ1 H1) {l : Nat} (h : l < n) : ρ1[l]? = ρ[l]? := x.fix l fun j _ => by omega
theorem SO.plain {o : SO} {a : Addr} (r : RepO G H T o a) : ∃ u, H a = some u ∧ Plain u := by
  cases r with
  | lst h _ => exact ⟨_, h, by intros; simp, by intros; simp, by intros; simp, by intros; simp⟩
  | dicK h _ => exact ⟨_, h, by intros; simp, by intros; simp, by intros; simp, by intros; simp⟩
  | dicT h _ => exact ⟨_, h, by intros; simp, by intros; simp, by intros; simp, by intros; simp⟩
theorem tr_at {l : Nat} {a : Addr} (h : ρ[l]? = some (some a)) : Tr ρ a := List.mem_of_getElem? h
theorem at_tr {a : Addr} (t : Tr ρ a) : ∃ l : Nat, ρ[l]? = some (some a) := by
  obtain ⟨l, h1, h2⟩ := List.mem_iff_getElem.mp t
  exact ⟨l, by rw [List.getElem?_eq_getElem h1, h2]⟩
theorem RepS.tr (rs : RepS G H P ρ st) {a : Addr} (t : TP P ρ a) : ∃ u, H a = some u ∧ Plain u := by
  rcases t with t | t
  · exact rs.prv a t
  · obtain ⟨l, h⟩ := at_tr t
    obtain ⟨o, _, r⟩ := rs.obj l a h
    exact SO.plain r
theorem RepS.ntr (rs : RepS G H P ρ st) {a : Addr} (h : H a = none) : ¬ TP P ρ a := fun t => by
  obtain ⟨u, e, _⟩ := rs.tr t
  rw [h] at e; cases e
/-- what may be written is no tuple -/
def NoTup (H : Hp) (T : Ts) : Prop := ∀ a u, T a → H a = some u → (∀ xs, u ≠ .tup xs) ∧ (∀ o xs, u ≠ .frz o xs)
theorem RepS.nt (rs : RepS G H P ρ st) : NoTup H (TP P ρ) := fun a u t e => by
  obtain ⟨u', e', _, n1, n2, _⟩ := rs.tr t
  rw [e] at e'; cases e'; exact ⟨n1, n2⟩
theorem Kp.sqT (x : Kp T H T1 H1) (nt : NoTup H T) {a : Addr} {vs : List V} (h : SqT G.K H a vs) : SqT G.K H1 a vs := by
  rcases h with (h | ⟨o, h⟩) | h
  · exact .inl (.inl (x.keep _ _ (fun t => (nt _ _ t h).1 _ rfl) h (by intros; simp)))
  · exact .inl (.inr ⟨o, x.keep _ _ (fun t => (nt _ _ t h).2 _ _ rfl) h (by intros; simp)⟩)
  · exact .inr h
theorem Kp.ntr (x : Kp T H T1 H1) {a : Addr} {o : HO} (h : H a = some o) (nt : ¬ T a) : ¬ T1 a := fun t => by
  rcases x.new a t with z | z
  · exact nt z
  · rw [h] at z; cases z
theorem Kp.rd (x : Kp T H T1 H1) {a : Addr} {vs : List V} (na : ¬ T a) (h : Rd H a (.lst vs)) : Rd H1 a (.lst vs) := by
  rcases h with h | ⟨o, h⟩
  · exact .inl (x.keep _ _ na h (by intros; simp))
  · exact .inr ⟨o, x.keep _ _ na h (by intros; simp)⟩
theorem Kp.ntrL (x : Kp T H T1 H1) {a : Addr} {vs : List V} (h : Rd H a (.lst vs)) (na : ¬ T a) : ¬ T1 a := by
  rcases h with h | ⟨o, h⟩
  · exact x.ntr h na
  · exact x.ntr h na
mutual
theorem RepV.ext (x : Kp T H T1 H1) (nt : NoTup H T) : ∀ {y : Val} {v : V}, RepV G H T y v → RepV G H1 T1 y v
  | _, _, .non => .non
  | _, _, .bl b => .bl b
  | _, _, .int i => .int i
  | _, _, .str l h => .str l h
  | _, _, .tup h r => .tup (x.keep _ _ (fun t => (nt _ _ t h).1 _ rfl) h (by intros; simp)) (RepVs.ext x nt r)
  | _, _, .lst h t r => .lst (x.keep _ _ t h (by intros; simp)) (x.ntr h t) (RepVs.ext x nt r)
  | _, _, .dicK h t r => .dicK (x.keep _ _ t h (by intros; simp)) (x.ntr h t) (RepK.ext x nt r)
  | _, _, .dicT h t r => .dicT (x.keep _ _ t h (by intros; simp)) (x.ntr h t) (RepT.ext x nt r)
  | _, _, .glb h r => .glb h r
  | _, _, .ty n => .ty n
  | _, _, .seqH h t r => .seqH (x.rd t h) (x.ntrL h t) (RepVs.ext x nt r)
  | _, _, .seqK h r => .seqK h (RepVs.ext x nt r)
  | _, _, .exn h k => .exn h fun i e => let ⟨dx, e1, e2, e3⟩ := k i e; ⟨dx, e1, x.keep _ _ e3 e2 (by intros; simp), x.ntr e2 e3⟩
theorem RepVs.ext (x : Kp T H T1 H1) (nt : NoTup H T) : ∀ {ys : List Val} {vs : List V}, RepVs G H T ys vs → RepVs G H1 T1 ys vs
  | _, _, .nil => .nil
  | _, _, .cons r t => .cons (RepV.ext x nt r) (RepVs.ext x nt t)
theorem RepK.ext (x : Kp T H T1 H1) (nt : NoTup H T) : ∀ {ys : List (Val × Val)} {vs : List (Key × V)}, RepK G H T ys vs → RepK G H1 T1 ys vs
  | _, _, .nil => .nil
  | _, _, .cons k r q t => .cons k (RepV.ext x nt r) (RepV.ext x nt q) (RepK.ext x nt t)
theorem RepT.ext (x : Kp T H T1 H1) (nt : NoTup H T) : ∀ {ys : List (Val × Val)} {vs : List (List Key × V)}, RepT G H T ys vs → RepT G H1 T1 ys vs
  | _, _, .nil => .nil
  | _, _, .cons k r q t => .cons k (RepVs.ext x nt r) (RepV.ext x nt q) (RepT.ext x nt t)
end
theorem RepO.ext (x : Kp T H T1 H1) (nt : NoTup H T) {o : SO} {a : Addr} (ha : H1 a = H a) : RepO G H T o a → RepO G H1 T1 o a
  | .lst h r => .lst (ha.trans h) (RepVs.ext x nt r)
  | .dicK h r => .dicK (ha.trans h) (RepK.ext x nt r)
  | .dicT h r => .dicT (ha.trans h) (RepT.ext x nt r)

/-! ### the heap's steps -/
theorem kp_new {p : Addr} {o : HO} (h : H p = none) : Kp T H T (upd H p o) :=
  ⟨fun a u _ e _ => by rw [upd_ne (ne_of_none e h)]; exact e, fun a u e => ⟨u, by rw [upd_ne (ne_of_none e h)]; exact e⟩, fun _ t => .inl t⟩
/-- .. which is held back from now on -/
theorem kp_newP {p : Addr} {o : HO} (h : H p = none) : Kp (TP P ρ) H (TP (Plus P p) ρ) (upd H p o) :=
  ⟨fun a u _ e _ => by rw [upd_ne (ne_of_none e h)]; exact e, fun a u e => ⟨u, by rw [upd_ne (ne_of_none e h)]; exact e⟩, fun _ t => t.elim (fun z => z.elim (fun z => .inl (.inl z)) fun z => .inr (by rw [z]; exact h)) fun z => .inl (.inr z)⟩
theorem kp_write {a : Addr} {o : HO} (h : T a) : Kp T H T (upd H a o) :=
  ⟨fun b u nt e _ => by rw [upd_ne (fun z => nt (by rw [z]; exact h))]; exact e, fun b u e => by
    by_cases z : b = a
    · subst z; exact ⟨o, upd_same⟩
    · exact ⟨u, by rw [upd_ne z]; exact e⟩, fun _ t => .inl t⟩
theorem Tabs_new {p : Addr} {o : HO} {L : List (Addr × Str)} (t : LamX.Tabs L H) (h : H p = none) : LamX.Tabs L (upd H p o) := t.ext fun b u e => by rw [upd_ne (ne_of_none e h)]; exact e
theorem Tabs_write {a : Addr} {o u : HO} {L : List (Addr × Str)} (t : LamX.Tabs L H) (h : H a = some u) (n1 : ∀ ps, u ≠ .tbl ps) (n2 : ∀ φ, u ≠ .ext φ) : LamX.Tabs L (upd H a o) := fun q hq => by
  obtain ⟨ps, h1, h2, h3⟩ := t q hq
  refine ⟨ps, ?_, h2, fun pos cv hc => ?_⟩
  · rw [upd_ne (fun z => by rw [z, h] at h1; exact n1 ps (Option.some.inj h1))]; exact h1
  · obtain ⟨c, e1, e2⟩ := h3 pos cv hc
    refine ⟨c, e1, ?_⟩
    rw [upd_ne (fun z => by rw [z, h] at e2; exact n2 _ (Option.some.inj e2))]; exact e2
/-- a new thing -/
theorem RepS.fresh (rs : RepS G H P ρ st) {p : Addr} {o : HO} (h : H p = none) : RepS G (upd H p o) P ρ st :=
  ⟨rs.len, rs.nd, fun l a e => by
    obtain ⟨o', e1, r⟩ := rs.obj l a e
    obtain ⟨u, e2, _⟩ := SO.plain r
    exact ⟨o', e1, r.ext (kp_new h) rs.nt (upd_ne (ne_of_none e2 h))⟩, rs.dead, Tabs_new rs.tab h, fun a pa => by
    obtain ⟨u, e, q⟩ := rs.prv a pa
    exact ⟨u, by rw [upd_ne (ne_of_none e h)]; exact e, q⟩, rs.apart⟩
/-- .. held back -/
theorem RepS.freshP (rs : RepS G H P ρ st) {p : Addr} {o : HO} (h : H p = none) (ho : Plain o) : RepS G (upd H p o) (Plus P p) ρ st :=
  ⟨rs.len, rs.nd, fun l a e => by
    obtain ⟨o', e1, r⟩ := rs.obj l a e
    obtain ⟨u, e2, _⟩ := SO.plain r
    exact ⟨o', e1, r.ext (kp_newP h) rs.nt (upd_ne (ne_of_none e2 h))⟩, rs.dead, Tabs_new rs.tab h, fun a pa => by
    rcases pa with pa | pa
    · obtain ⟨u, e, q⟩ := rs.prv a pa
      exact ⟨u, by rw [upd_ne (ne_of_none e h)]; exact e, q⟩
    · subst pa; exact ⟨o, upd_same, ho⟩, fun a pa t => by
    rcases pa with pa | pa
    · exact rs.apart a pa t
    · subst pa; exact rs.ntr h (.inr t)⟩
/-- what is held back no longer -/
theorem RepS.drop {a : Addr} (rs : RepS G H (Plus P a) ρ st) : RepS G H P ρ st :=
  have x : Kp (TP (Plus P a) ρ) H (TP P ρ) H := ⟨fun _ _ _ h _ => h, fun _ o h => ⟨o, h⟩, fun _ t => .inl (t.elim (fun z => .inl (.inl z)) .inr)⟩
  ⟨rs.len, rs.nd, fun l b e => let ⟨o, e1, r⟩ := rs.obj l b e; ⟨o, e1, r.ext x rs.nt rfl⟩, rs.dead, rs.tab, fun b pb => rs.prv b (.inl pb), fun b pb => rs.apart b (.inl pb)⟩
theorem kp_drop {a : Addr} : Kp (TP (Plus P a) ρ) H (TP P ρ) H := ⟨fun _ _ _ h _ => h, fun _ o h => ⟨o, h⟩, fun _ t => .inl (t.elim (fun z => .inl (.inl z)) .inr)⟩
/-- a held back thing is written -/
theorem RepS.writeP (rs : RepS G H P ρ st) {p : Addr} {o : HO} (h : P p) (ho : Plain o) : RepS G (upd H p o) P ρ st := by
  have x : Kp (TP P ρ) H (TP P ρ) (upd H p o) := kp_write (.inl h)
  obtain ⟨u, e, q⟩ := rs.prv p h
  refine ⟨rs.len, rs.nd, fun l a e1 => ?_, rs.dead, Tabs_write rs.tab e q.1 q.2.2.2, fun a pa => ?_, rs.apart⟩
  · obtain ⟨o', e2, r⟩ := rs.obj l a e1
    exact ⟨o', e2, r.ext x rs.nt (upd_ne fun z => rs.apart p h (by rw [← z]; exact tr_at e1))⟩
  · by_cases z : a = p
    · subst z; exact ⟨o, upd_same, ho⟩
    · obtain ⟨u, e, q⟩ := rs.prv a pa
      exact ⟨u, by rw [upd_ne z]; exact e, q⟩
/-- a cell is written -/
theorem RepS.write (rs : RepS G H P ρ st) {l : Nat} {a : Addr} {o : HO} {so : SO} (h : ρ[l]? = some (some a)) (r : RepO G (upd H a o) (TP P ρ) so a) : RepS G (upd H a o) P ρ (st.set l so) := by
  have x : Kp (TP P ρ) H (TP P ρ) (upd H a o) := kp_write (.inr (tr_at h))
  obtain ⟨o0, e0, r0⟩ := rs.obj l a h
  have hl : l < st.length := (List.getElem?_eq_some_iff.mp e0).1
  refine ⟨by rw [List.length_set]; exact rs.len, rs.nd, fun l' a' e => ?_, fun l' e => ?_, ?_, fun b pb => ?_, rs.apart⟩
  · by_cases z : l' = l
    · subst z
      rw [h] at e; cases e
      exact ⟨so, List.getElem?_set_self hl, r⟩
    · obtain ⟨o', e1, r'⟩ := rs.obj l' a' e
      refine ⟨o', by rw [List.getElem?_set_ne (Ne.symm z)]; exact e1, r'.ext x rs.nt (upd_ne fun q => z (rs.nd l' l a (by rw [← q]; exact e) h))⟩
  · have z : l' ≠ l := fun z => by subst z; rw [h] at e; cases e
    rw [List.getElem?_set_ne (Ne.symm z)]; exact rs.dead l' e
  · obtain ⟨u, e1, n1, _, _, n2⟩ := SO.plain r0
    exact Tabs_write rs.tab e1 n1 n2
  · obtain ⟨u, e, q⟩ := rs.prv b pb
    exact ⟨u, by rw [upd_ne fun z => rs.apart b pb (by rw [z]; exact tr_at h)]; exact e, q⟩
/-- a cell is bound anew, to a thing that nothing else leans on -/
theorem RepS.bind {l : Nat} {a : Addr} {so : SO} (rs : RepS G H (Plus P a) ρ st) (hl : l < st.length) (np : ¬ P a) (r : RepO G H (TP (Plus P a) ρ) so a) :
    RepS G H P (ρ.set l (some a)) (st.set l so) := by
  have hl' : l < ρ.length := by rw [rs.len]; exact hl
  have nt : ¬ Tr ρ a := rs.apart a (.inr rfl)
  have ntp := rs.nt
  have x : Kp (TP (Plus P a) ρ) H (TP P (ρ.set l (some a))) H := ⟨fun _ _ _ h _ => h, fun _ o h => ⟨o, h⟩, fun b t => by
    rcases t with t | t
    · exact .inl (.inl (.inl t))
    · rcases List.mem_or_eq_of_mem_set t with t | t
      · exact .inl (.inr t)
      · exact .inl (.inl (.inr (Option.some.inj t)))⟩
  have key : ∀ {l1 : Nat} {b : Addr}, (ρ.set l (some a))[l1]? = some (some b) → (l1 = l ∧ b = a) ∨ (l1 ≠ l ∧ ρ[l1]? = some (some b)) := fun {l1 b} e => by
    by_cases z : l1 = l
    · subst z; rw [List.getElem?_set_self hl'] at e; exact .inl ⟨rfl, (Option.some.inj (Option.some.inj e)).symm⟩
    · rw [List.getElem?_set_ne (Ne.symm z)] at e; exact .inr ⟨z, e⟩
  refine ⟨by rw [List.length_set, List.length_set]; exact rs.len, fun l1 l2 b e1 e2 => ?_, fun l' b e => ?_, fun l' e => ?_, rs.tab, fun b pb => rs.prv b (.inl pb), fun b pb t => ?_⟩
  · rcases key e1 with ⟨z1, q1⟩ | ⟨z1, q1⟩ <;> rcases key e2 with ⟨z2, q2⟩ | ⟨z2, q2⟩
    · rw [z1, z2]
    · rw [q1] at q2; exact absurd (tr_at q2) nt
    · rw [q2] at q1; exact absurd (tr_at q1) nt
    · exact rs.nd _ _ _ q1 q2
  · rcases key e with ⟨z, q⟩ | ⟨z, q⟩
    · subst z; subst q
      exact ⟨so, List.getElem?_set_self hl, r.ext x ntp rfl⟩
    · obtain ⟨o', e1, r'⟩ := rs.obj l' b q
      exact ⟨o', by rw [List.getElem?_set_ne (Ne.symm z)]; exact e1, r'.ext x ntp rfl⟩
  · by_cases z : l' = l
    · subst z; rw [List.getElem?_set_self hl'] at e; cases e
    · rw [List.getElem?_set_ne (Ne.symm z)] at e ⊢
      exact rs.dead l' e
  · obtain ⟨l1, e⟩ := at_tr t
    rcases key e with ⟨z, q⟩ | ⟨z, q⟩
    · rw [q] at pb; exact np pb
    · exact rs.apart b (.inl pb) (tr_at q)
theorem kp_bind {l : Nat} {a : Addr} (h0 : H0 a = none) (k : Kp (Tr ρ) H0 (Tr ρ) H) : Kp (Tr ρ) H0 (Tr (ρ.set l (some a))) H :=
  ⟨k.keep, k.stay, fun b t => by
    rcases List.mem_or_eq_of_mem_set t with t | t
    · exact .inl t
    · exact .inr (by rw [Option.some.inj t]; exact h0)⟩
theorem kp_kill {l : Nat} : Kp (Tr ρ) H (Tr (ρ.set l none)) H :=
  ⟨fun _ _ _ h _ => h, fun _ o h => ⟨o, h⟩, fun b t => by
    rcases List.mem_or_eq_of_mem_set t with t | t
    · exact .inl t
    · cases t⟩
/-- a cell dies: its thing is frozen -/
theorem RepS.kill (rs : RepS G H P ρ st) {l : Nat} {a : Addr} (h : ρ[l]? = some (some a)) : RepS G H P (ρ.set l none) (st.set l .dead) := by
  have hl' : l < ρ.length := (List.getElem?_eq_some_iff.mp h).1
  have hl : l < st.length := by rw [← rs.len]; exact hl'
  have x : Kp (TP P ρ) H (TP P (ρ.set l none)) H := (kp_kill (ρ := ρ) (H := H) (l := l)).tp
  have key : ∀ {l1 : Nat} {b : Addr}, (ρ.set l none)[l1]? = some (some b) → l1 ≠ l ∧ ρ[l1]? = some (some b) := fun {l1 b} e => by
    by_cases z : l1 = l
    · subst z; rw [List.getElem?_set_self hl'] at e; cases e
    · rw [List.getElem?_set_ne (Ne.symm z)] at e; exact ⟨z, e⟩
  refine ⟨by rw [List.length_set, List.length_set]; exact rs.len, fun l1 l2 b e1 e2 => rs.nd _ _ _ (key e1).2 (key e2).2, fun l' b e => ?_, fun l' e => ?_, rs.tab, rs.prv, fun b pb t => ?_⟩
  · obtain ⟨z, e⟩ := key e
    obtain ⟨o', e1, r'⟩ := rs.obj l' b e
    exact ⟨o', by rw [List.getElem?_set_ne (Ne.symm z)]; exact e1, r'.ext x rs.nt rfl⟩
  · by_cases z : l' = l
    · subst z; exact List.getElem?_set_self hl
    · rw [List.getElem?_set_ne (Ne.symm z)] at e ⊢
      exact rs.dead l' e
  · obtain ⟨l1, e⟩ := at_tr t
    exact rs.apart b pb (tr_at (key e).2)
theorem kill_ntr (rs : RepS G H P ρ st) {l : Nat} {a : Addr} (h : ρ[l]? = some (some a)) : ¬ TP P (ρ.set l none) a := fun t => by
  have hl' : l < ρ.length := (List.getElem?_eq_some_iff.mp h).1
  rcases t with t | t
  · exact rs.apart a t (tr_at h)
  · obtain ⟨l', e⟩ := at_tr t
    by_cases z : l' = l
    · subst z; rw [List.getElem?_set_self hl'] at e; cases e
    · rw [List.getElem?_set_ne (Ne.symm z)] at e
      exact z (rs.nd _ _ _ e h)
/-- the value that is read -/
theorem RepX.now (rs : RepS G H P ρ st) {z : SV} {v : V} {x : Val} (r : RepX G H0 H P ρ st z v) (e : z.val st = some x) : Now G H (TP P ρ) x v := by
  cases r with
  | v r => cases e; exact .rep r
  | loc h =>
    obtain ⟨o, e1, ro⟩ := rs.obj _ _ h
    cases ro with
    | lst h1 r => simp only [SV.val, e1, Option.some.injEq] at e; subst e; exact .lst h1 r
    | dicK h1 r => simp only [SV.val, e1, Option.some.injEq] at e; subst e; exact .dicK h1 r
    | dicT h1 r => simp only [SV.val, e1, Option.some.injEq] at e; subst e; exact .dicT h1 r
  | fl h n0 r rp np => cases e; exact .lst h (RepVs.ext kp_drop rp.nt r)
  | fdK h n0 r rp np => cases e; exact .dicK h (RepK.ext kp_drop rp.nt r)
  | fdT h n0 r rp np => cases e; exact .dicT h (RepT.ext kp_drop rp.nt r)
end
end Eng

namespace Eng
open PySem PySem.Spec PyProof.Rows L2

/-- tables of code objects; the exception that a suite holds -/
structure Lx where
  T : List (Addr × Str)
  ex : Option (Addr × Str × Option Addr)
abbrev gx (L : Lx) (X : Cx) : Gc := ⟨X.K, X.mg, L.T, L.ex⟩
/-- an exception as it lies -/
def RepEx (G : Gc) (H : Hp) (e : Ex) (cls : Value) (d : Option Addr) : Prop :=
  G.mg e.cls = some cls ∧ (match e.arg with
    | none => True
    | some x => ∃ dx v, d = some dx ∧ H dx = some (.xd [("limit", v)]) ∧ RepV G H (fun _ => False) x v)
/-- the wish behind an expression -/
def Post (G : Gc) (W : WX) (σ : L2.St) (P : Ts) (ρ : Rho) (H : Hp) (r : Rv SV) (Q : VK) : Prop := match r with
  | .ok z st' => ∀ v H', Kp (Tr ρ) H (Tr ρ) H' → RepS G H' P ρ st' → RepX G H H' P ρ st' z v → Q v H'
  | .exc e st' => ∀ cls d H', Kp (Tr ρ) H (Tr ρ) H' → RepS G H' P ρ st' → RepEx G H' e cls d → W cls d σ H'
  | .bad => False
def PostB (G : Gc) (W : WX) (σ : L2.St) (P : Ts) (ρ : Rho) (H : Hp) (r : Rv Bool) (Q : Bool → Hp → Prop) : Prop := match r with
  | .ok b st' => ∀ H', Kp (Tr ρ) H (Tr ρ) H' → RepS G H' P ρ st' → Q b H'
  | .exc e st' => ∀ cls d H', Kp (Tr ρ) H (Tr ρ) H' → RepS G H' P ρ st' → RepEx G H' e cls d → W cls d σ H'
  | .bad => False
inductive RepZs (G : Gc) (H : Hp) (P : Ts) (ρ : Rho) : List SV → List V → Prop
  | nil : RepZs G H P ρ [] []
  | cons {z : SV} {v : V} {zs : List SV} {vs : List V} : RepZ G H P ρ z v → RepZs G H P ρ zs vs → RepZs G H P ρ (z :: zs) (v :: vs)
def PostA (G : Gc) (W : WX) (σ : L2.St) (P : Ts) (ρ : Rho) (H : Hp) (r : Rv (List SV)) (Q : List V → Hp → Prop) : Prop := match r with
  | .ok zs st' => ∀ vs H', Kp (Tr ρ) H (Tr ρ) H' → RepS G H' P ρ st' → RepZs G H' P ρ zs vs → Q vs H'
  | .exc e st' => ∀ cls d H', Kp (Tr ρ) H (Tr ρ) H' → RepS G H' P ρ st' → RepEx G H' e cls d → W cls d σ H'
  | .bad => False
def TEm (G : Gc) (W : WX) (f : Fe) : TE := fun σ H Q => ∃ env st ρ P, RepE G H P ρ env σ ∧ RepS G H P ρ st ∧ Post G W σ P ρ H (f env st) Q
def TTm (G : Gc) (W : WX) (f : Ft) : TT := fun σ H Q => ∃ env st ρ P, RepE G H P ρ env σ ∧ RepS G H P ρ st ∧ PostB G W σ P ρ H (f env st) Q
def TAm (G : Gc) (W : WX) (f : Env → Sto → Rv (List SV)) : TA := fun σ H Q => ∃ env st ρ P, RepE G H P ρ env σ ∧ RepS G H P ρ st ∧ PostA G W σ P ρ H (f env st) Q
abbrev EE (L : Lx) (X : Cx) (W : WX) (e : Expr) (f : Fe) : Prop := PE X e (TEm (gx L X) W f)
abbrev ET (L : Lx) (X : Cx) (W : WX) (e : Expr) (f : Ft) : Prop := PT X e (TTm (gx L X) W f)
abbrev EA (L : Lx) (X : Cx) (W : WX) (es : List Expr) (f : Env → Sto → Rv (List SV)) : Prop := PA X es (TAm (gx L X) W f)

theorem PE.weak {X : Cx} {e : Expr} {t t' : TE} (h : PE X e t) (w : ∀ σ H Q, t' σ H Q → t σ H Q) : PE X e t' := ⟨fun pins s σ H Q I q => h.run pins s σ H Q I (w σ H Q q)⟩
theorem PT.weak {X : Cx} {e : Expr} {t t' : TT} (h : PT X e t) (w : ∀ σ H Q, t' σ H Q → t σ H Q) : PT X e t' := ⟨fun pins s σ H Q I q => h.run pins s σ H Q I (w σ H Q q)⟩
theorem PW.weak {X : Cx} {e : Expr} {t t' : TT} (h : PW X e t) (w : ∀ σ H Q, t' σ H Q → t σ H Q) : PW X e t' := ⟨fun wh pins s σ H Q I q => h.run wh pins s σ H Q I (w σ H Q q)⟩
theorem PA.weak {X : Cx} {e : List Expr} {t t' : TA} (h : PA X e t) (w : ∀ σ H Q, t' σ H Q → t σ H Q) : PA X e t' := ⟨fun pos pins s σ H Q I q => h.run pos pins s σ H Q I (w σ H Q q)⟩
theorem PS.weak {X : Cx} {e : Stmt} {t t' : TS} (h : PS X e t) (w : ∀ D σ H, t' D σ H → t D σ H) : PS X e t' := ⟨fun pins s σ H D I q => h.run pins s σ H D I (w D σ H q)⟩
theorem PSs.weak {X : Cx} {e : List Stmt} {t t' : TS} (h : PSs X e t) (w : ∀ D σ H, t' D σ H → t D σ H) : PSs X e t' := ⟨fun pins s σ H D I q => h.run pins s σ H D I (w D σ H q)⟩
theorem PG.weak {X : Cx} {e : Expr} {t t' : TG} (h : PG X e t) (w : ∀ v σ H Q, t' v σ H Q → t v σ H Q) : PG X e t' := ⟨fun pins s σ H v u Q I r q => h.run pins s σ H v u Q I r (w v σ H Q q)⟩
theorem PI.weak {X : Cx} {tg e : Expr} {t t' : TI} (h : PI X tg e t) (w : ∀ σ H Q, t' σ H Q → t σ H Q) : PI X tg e t' := ⟨fun pins s σ H Q I q => h.run pins s σ H Q I (w σ H Q q)⟩

section
variable {G : Gc} {W : WX} {σ : L2.St} {H H0 H1 H2 H' : Hp} {ρ ρ1 ρ2 ρ' : Rho} {P P1 : Ts} {env env' : Env} {st st' st1 st2 : Sto}
theorem RepX.base {ρ0 ρ1 : Rho} {z : SV} {v : V} (k : Kp (Tr ρ0) H0 (Tr ρ1) H1) (r : RepX G H1 H P ρ st z v) : RepX G H0 H P ρ st z v := by
  cases r with
  | v r => exact .v r
  | loc h => exact .loc h
  | fl h n0 r rs np => exact .fl h (k.none n0) r rs np
  | fdK h n0 r rs np => exact .fdK h (k.none n0) r rs np
  | fdT h n0 r rs np => exact .fdT h (k.none n0) r rs np
def SV.froz : SV → SV
  | .fl xs => .v (.lst xs)
  | .fd t kvs => .v (.dic t kvs)
  | z => z
theorem RepX.z {z : SV} {v : V} (r : RepX G H0 H P ρ st z v) : RepZ G H P ρ z.froz v := by
  cases r with
  | v r => exact .v r
  | loc h => exact .loc h
  | fl h n0 r rp np => exact .v (.lst h (fun t => t.elim np (rp.apart _ (.inr rfl))) (RepVs.ext kp_drop rp.nt r))
  | fdK h n0 r rp np => exact .v (.dicK h (fun t => t.elim np (rp.apart _ (.inr rfl))) (RepK.ext kp_drop rp.nt r))
  | fdT h n0 r rp np => exact .v (.dicT h (fun t => t.elim np (rp.apart _ (.inr rfl))) (RepT.ext kp_drop rp.nt r))
theorem RepZ.ext (k : Kp (Tr ρ) H (Tr ρ) H1) (rs : RepS G H P ρ st) {z : SV} {v : V} (r : RepZ G H P ρ z v) : RepZ G H1 P ρ z v := by
  cases r with
  | v r => exact .v (r.ext k.tp rs.nt)
  | loc h => exact .loc h
theorem RepZ.x {z : SV} {v : V} (r : RepZ G H P ρ z v) : RepX G H0 H P ρ st z v := by
  cases r with
  | v r => exact .v r
  | loc h => exact .loc h
theorem RepZs.ext (k : Kp (Tr ρ) H (Tr ρ) H1) (rs : RepS G H P ρ st) : ∀ {zs : List SV} {vs : List V}, RepZs G H P ρ zs vs → RepZs G H1 P ρ zs vs
  | _, _, .nil => .nil
  | _, _, .cons r t => .cons (r.ext k rs) (RepZs.ext k rs t)
theorem froz_val (z : SV) (st : Sto) : z.froz.val st = z.val st := by cases z <;> rfl
theorem RepZ.now (rs : RepS G H P ρ st) {z : SV} {v : V} {x : Val} (r : RepZ G H P ρ z v) (e : z.val st = some x) : Now G H (TP P ρ) x v := RepX.now (H0 := H) rs r.x e
/-- what came earlier, read later -/
theorem RepX.now2 (rs : RepS G H P ρ st) (k : Kp (Tr ρ) H (Tr ρ) H1) (rs1 : RepS G H1 P ρ st1) {z : SV} {v : V} {x : Val} (r : RepX G H0 H P ρ st z v) (e : z.val st1 = some x) : Now G H1 (TP P ρ) x v :=
  RepZ.now rs1 ((r.z).ext k rs) (by rw [froz_val]; exact e)
theorem RepE.ext (k : Kp (Tr ρ) H (Tr ρ) H1) (rs : RepS G H P ρ st) (re : RepE G H P ρ env σ) : RepE G H1 P ρ env σ :=
  ⟨re.len, fun i z h => let ⟨v, e, r⟩ := re.get i z h; ⟨v, e, r.ext k rs⟩⟩
theorem Post.step {r : Rv SV} {Q : VK} (k : Kp (Tr ρ) H (Tr ρ) H1) (p : Post G W σ P ρ H r Q) : Post G W σ P ρ H1 r Q := by
  cases r with
  | ok z st' => exact fun v H' k' rs r => p v H' (k.trans k') rs (r.base k)
  | exc e st' => exact fun c d H' k' rs r => p c d H' (k.trans k') rs r
  | bad => exact p
theorem PostB.step {r : Rv Bool} {Q : Bool → Hp → Prop} (k : Kp (Tr ρ) H (Tr ρ) H1) (p : PostB G W σ P ρ H r Q) : PostB G W σ P ρ H1 r Q := by
  cases r with
  | ok z st' => exact fun H' k' rs => p H' (k.trans k') rs
  | exc e st' => exact fun c d H' k' rs r => p c d H' (k.trans k') rs r
  | bad => exact p
theorem PostA.step {r : Rv (List SV)} {Q : List V → Hp → Prop} (k : Kp (Tr ρ) H (Tr ρ) H1) (p : PostA G W σ P ρ H r Q) : PostA G W σ P ρ H1 r Q := by
  cases r with
  | ok z st' => exact fun v H' k' rs r => p v H' (k.trans k') rs r
  | exc e st' => exact fun c d H' k' rs r => p c d H' (k.trans k') rs r
  | bad => exact p
/-- one expression, and what is done with it -/
theorem Post.then {r : Rv SV} {f : SV → Sto → Rv SV} {Q Q' : VK} (p : Post G W σ P ρ H (r.bind f) Q) (w : ∀ z st1 v H1, Kp (Tr ρ) H (Tr ρ) H1 → RepS G H1 P ρ st1 → RepX G H H1 P ρ st1 z v → Post G W σ P ρ H1 (f z st1) Q → Q' v H1) : Post G W σ P ρ H r Q' := by
  cases r with
  | ok z st1 => exact fun v H1 k rs rx => w z st1 v H1 k rs rx (Post.step k p)
  | exc e st1 => exact p
  | bad => exact p
theorem Post.thenB {r : Rv SV} {f : SV → Sto → Rv Bool} {Q : Bool → Hp → Prop} {Q' : VK} (p : PostB G W σ P ρ H (r.bind f) Q) (w : ∀ z st1 v H1, Kp (Tr ρ) H (Tr ρ) H1 → RepS G H1 P ρ st1 → RepX G H H1 P ρ st1 z v → PostB G W σ P ρ H1 (f z st1) Q → Q' v H1) : Post G W σ P ρ H r Q' := by
  cases r with
  | ok z st1 => exact fun v H1 k rs rx => w z st1 v H1 k rs rx (PostB.step k p)
  | exc e st1 => exact p
  | bad => exact p
theorem Post.thenA {r : Rv SV} {f : SV → Sto → Rv (List SV)} {Q : List V → Hp → Prop} {Q' : VK} (p : PostA G W σ P ρ H (r.bind f) Q) (w : ∀ z st1 v H1, Kp (Tr ρ) H (Tr ρ) H1 → RepS G H1 P ρ st1 → RepX G H H1 P ρ st1 z v → PostA G W σ P ρ H1 (f z st1) Q → Q' v H1) : Post G W σ P ρ H r Q' := by
  cases r with
  | ok z st1 => exact fun v H1 k rs rx => w z st1 v H1 k rs rx (PostA.step k p)
  | exc e st1 => exact p
  | bad => exact p
theorem PostB.then {r : Rv Bool} {f : Bool → Sto → Rv SV} {Q : VK} {Q' : Bool → Hp → Prop} (p : Post G W σ P ρ H (r.bind f) Q) (w : ∀ z st1 H1, Kp (Tr ρ) H (Tr ρ) H1 → RepS G H1 P ρ st1 → Post G W σ P ρ H1 (f z st1) Q → Q' z H1) : PostB G W σ P ρ H r Q' := by
  cases r with
  | ok z st1 => exact fun H1 k rs => w z st1 H1 k rs (Post.step k p)
  | exc e st1 => exact p
  | bad => exact p
theorem PostB.thenB {r : Rv Bool} {f : Bool → Sto → Rv Bool} {Q Q' : Bool → Hp → Prop} (p : PostB G W σ P ρ H (r.bind f) Q) (w : ∀ z st1 H1, Kp (Tr ρ) H (Tr ρ) H1 → RepS G H1 P ρ st1 → PostB G W σ P ρ H1 (f z st1) Q → Q' z H1) : PostB G W σ P ρ H r Q' := by
  cases r with
  | ok z st1 => exact fun H1 k rs => w z st1 H1 k rs (PostB.step k p)
  | exc e st1 => exact p
  | bad => exact p
theorem PostA.then {r : Rv (List SV)} {f : List SV → Sto → Rv SV} {Q : VK} {Q' : List V → Hp → Prop} (p : Post G W σ P ρ H (r.bind f) Q) (w : ∀ z st1 v H1, Kp (Tr ρ) H (Tr ρ) H1 → RepS G H1 P ρ st1 → RepZs G H1 P ρ z v → Post G W σ P ρ H1 (f z st1) Q → Q' v H1) : PostA G W σ P ρ H r Q' := by
  cases r with
  | ok z st1 => exact fun v H1 k rs rx => w z st1 v H1 k rs rx (Post.step k p)
  | exc e st1 => exact p
  | bad => exact p
theorem PostA.thenA {r : Rv (List SV)} {f : List SV → Sto → Rv (List SV)} {Q Q' : List V → Hp → Prop} (p : PostA G W σ P ρ H (r.bind f) Q) (w : ∀ z st1 v H1, Kp (Tr ρ) H (Tr ρ) H1 → RepS G H1 P ρ st1 → RepZs G H1 P ρ z v → PostA G W σ P ρ H1 (f z st1) Q → Q' v H1) : PostA G W σ P ρ H r Q' := by
  cases r with
  | ok z st1 => exact fun v H1 k rs rx => w z st1 v H1 k rs rx (PostA.step k p)
  | exc e st1 => exact p
  | bad => exact p
end

/-! ### what ops are, on plain data -/
def eVar (i : Nat) : Fe := fun env st => match env[i]? with
  | some (some z) => .ok z st
  | _ => .bad
def eC (x : Val) : Fe := fun _ st => .ok (.v x) st
def outO (r : Option SV) (st : Sto) : Rv SV := match r with
  | some z => .ok z st
  | none => .bad
def e1 (o : Val → Option SV) (fa : Fe) : Fe := fun env st => (fa env st).bind fun x st1 => outO ((x.val st1).bind o) st1
def e2 (o : Val → Val → Option SV) (fa fb : Fe) : Fe := fun env st => (fa env st).bind fun x st1 => (fb env st1).bind fun y st2 => outO ((x.val st2).bind fun a => (y.val st2).bind fun b => o a b) st2
def outB (r : Option SV) (st : Sto) : Rv Bool := match r with
  | some (.v (.bl b)) => .ok b st
  | _ => .bad
def tV (fa : Fe) : Ft := fun env st => (fa env st).bind fun x st1 => outB (some x) st1
def tAnd (fa fb : Ft) : Ft := fun env st => (fa env st).bind fun b st1 => if b = true then fb env st1 else .ok false st1
def tOr (fa fb : Ft) : Ft := fun env st => (fa env st).bind fun b st1 => if b = true then .ok true st1 else fb env st1
def tNot (fa : Ft) : Ft := fun env st => (fa env st).bind fun b st1 => .ok (!b) st1
def asB : SV → Option Bool
  | .v (.bl b) => some b
  | _ => none
def eAnd (fa fb : Fe) : Fe := fun env st => (fa env st).bind fun x st1 => match asB x with
  | some true => fb env st1
  | some false => .ok (.v (.bl false)) st1
  | none => .bad
def eOr (fa fb : Fe) : Fe := fun env st => (fa env st).bind fun x st1 => match asB x with
  | some true => .ok (.v (.bl true)) st1
  | some false => fb env st1
  | none => .bad
def eNot (fa : Fe) : Fe := fun env st => (fa env st).bind fun x st1 => match asB x with
  | some b => .ok (.v (.bl (!b))) st1
  | none => .bad
def eIf (t : Ft) (fa fb : Fe) : Fe := fun env st => (t env st).bind fun b st1 => if b = true then fa env st1 else fb env st1
def aNil : Env → Sto → Rv (List SV) := fun _ st => .ok [] st
def aCons (fa : Fe) (fr : Env → Sto → Rv (List SV)) : Env → Sto → Rv (List SV) := fun env st => (fa env st).bind fun x st1 => (fr env st1).bind fun xs st2 => .ok (x.froz :: xs) st2

/-- ops: what of two values comes -/
def POp (G : Gc) (P : Ts) (ρ : Rho) (st : Sto) (H : Hp) (r : Option SV) (Q : VK) : Prop := match r with
  | some z => ∀ v H', Kp (Tr ρ) H (Tr ρ) H' → RepS G H' P ρ st → RepX G H H' P ρ st z v → Q v H'
  | none => False
def R2m (G : Gc) (o : Val → Val → Option SV) : R2 := fun x y H Q => ∃ ρ P st a b, RepS G H P ρ st ∧ Now G H (TP P ρ) a x ∧ Now G H (TP P ρ) b y ∧ POp G P ρ st H (o a b) Q
def R1m (G : Gc) (o : Val → Option SV) : V → Hp → VK → Prop := fun x H Q => ∃ ρ P st a, RepS G H P ρ st ∧ Now G H (TP P ρ) a x ∧ POp G P ρ st H (o a) Q
theorem POp.of {G : Gc} {W : WX} {σ : L2.St} {P : Ts} {ρ : Rho} {st : Sto} {H : Hp} {r : Option SV} {Q : VK} (p : Post G W σ P ρ H (outO r st) Q) : POp G P ρ st H r Q := by
  cases r with
  | some z => exact p
  | none => exact p

section
variable {L : Lx} {X : Cx} {W : WX} {a b c e : Expr} {es rest : List Expr} {fa fb fc : Fe} {ta tb : Ft} {pos : Pos}
theorem ee_var (i : Nat) {x : Str} (hN : X.N[i]? = some x := by rfl) (hv : Vis X.env.scope x := by first | exact Or.inl rfl | exact Or.inr (Or.inl rfl) | exact Or.inr (Or.inr rfl)) (hd : (x == ("__debug__" : Str)) = false := by decide)
    (hcd : (x == ("__classdict__" : Str)) = false := by decide) : EE L X W (.Name x pos) (eVar i) := by
  refine PE.weak (pe_var hN hv hd hcd) fun σ H Q ⟨env, st, ρ, P, re, rs, p⟩ => ?_
  unfold eVar at p
  cases h : env[i]? with
  | none => rw [h] at p; exact p.elim
  | some o =>
    cases o with
    | none => rw [h] at p; exact p.elim
    | some z =>
      rw [h] at p
      obtain ⟨v, e, r⟩ := re.get i z h
      exact ⟨v, e, p v H Kp.refl rs r.x⟩
theorem ee_C {t : V} {x : Val} (h : PE X e (tC t)) (r : ∀ H T, RepV (gx L X) H T x t) : EE L X W e (eC x) :=
  PE.weak h fun σ H Q ⟨env, st, ρ, P, re, rs, p⟩ => p t H Kp.refl rs (.v (r _ _))
theorem ee_int {i : Int} {j} : EE L X W (.Constant (.int i) j pos) (eC (.int i)) := ee_C pe_int fun _ _ => .int i
theorem ee_bl {i : Bool} {j} : EE L X W (.Constant (.bool i) j pos) (eC (.bl i)) := ee_C pe_bl fun _ _ => .bl i
theorem ee_non {j} : EE L X W (.Constant .none j pos) (eC .non) := ee_C pe_non fun _ _ => .non
theorem ee_str {s : Str} (l : List Nat) {j} (hs : s = toS l := by rfl) (hl : SOk l = true := by rfl) : EE L X W (.Constant (.str s) j pos) (eC (.str l)) := by
  subst hs
  exact ee_C pe_str fun _ _ => .str l hl

theorem two {ta' tb' : TE} {r : R2} {o : Val → Val → Option SV} (σ : L2.St) (H : Hp) (Q : VK) (h : TEm (gx L X) W (e2 o fa fb) σ H Q) (w : ∀ x y H2 Q, R2m (gx L X) o x y H2 Q → r x y H2 Q)
    (ea : ∀ σ H Q, TEm (gx L X) W fa σ H Q → ta' σ H Q) (eb : ∀ σ H Q, TEm (gx L X) W fb σ H Q → tb' σ H Q) : tOp r ta' tb' σ H Q := by
  obtain ⟨env, st, ρ, P, re, rs, p⟩ := h
  refine ea _ _ _ ⟨env, st, ρ, P, re, rs, p.then fun x st1 v H1 k1 rs1 rx p => ?_⟩
  refine eb _ _ _ ⟨env, st1, ρ, P, re.ext k1 rs, rs1, p.then fun y st2 u H2 k2 rs2 ry p => ?_⟩
  have p := POp.of p
  cases h1 : x.val st2 with
  | none => rw [h1] at p; exact p.elim
  | some a =>
    cases h2 : y.val st2 with
    | none => rw [h1, h2] at p; exact p.elim
    | some b =>
      rw [h1, h2] at p
      exact w _ _ _ _ ⟨ρ, P, st2, a, b, rs2, rx.now2 rs1 k2 rs2 h1, ry.now rs2 h2, p⟩
theorem ee_op {op : Operator} {o : Val → Val → Option SV} (ho : OpR X (binaryOp op) (R2m (gx L X) o)) (ha : EE L X W a fa) (hb : EE L X W b fb) : EE L X W (.BinOp a op b pos) (e2 o fa fb) :=
  PE.weak (pe_op ho ha hb) fun σ H Q h => two σ H Q h (fun _ _ _ _ q => q) (fun _ _ _ q => q) fun _ _ _ q => q
theorem ee_cmp {op : CmpOp} {o : Val → Val → Option SV} (ho : OpR X (compareOp op) (R2m (gx L X) o)) (ha : EE L X W a fa) (hb : EE L X W b fb) (hm : behindInMarks op b = false := by with_unfolding_all rfl) : EE L X W (.Compare a [op] [b] pos) (e2 o fa fb) :=
  PE.weak (pe_cmpR ho ha hb hm) fun σ H Q h => two σ H Q h (fun _ _ _ _ q => q) (fun _ _ _ q => q) fun _ _ _ q => q
theorem ee_ix {o : Val → Val → Option SV} (ho : IxR X (R2m (gx L X) o)) (ha : EE L X W a fa) (hb : EE L X W b fb) (hs : PlainIx b := by exact fun _ _ => rfl) : EE L X W (.Subscript a b pos) (e2 o fa fb) :=
  PE.weak (pe_ix ho ha hb hs) fun σ H Q h => two σ H Q h (fun _ _ _ _ q => q) (fun _ _ _ q => q) fun _ _ _ q => q
theorem one {ta' : TE} {o : Val → Option SV} (σ : L2.St) (H : Hp) (Q : VK) (h : TEm (gx L X) W (e1 o fa) σ H Q) (ea : ∀ σ H Q, TEm (gx L X) W fa σ H Q → ta' σ H Q) : ta' σ H fun x H1 => R1m (gx L X) o x H1 Q := by
  obtain ⟨env, st, ρ, P, re, rs, p⟩ := h
  refine ea _ _ _ ⟨env, st, ρ, P, re, rs, p.then fun x st1 v H1 k1 rs1 rx p => ?_⟩
  have p := POp.of p
  cases h1 : x.val st1 with
  | none => rw [h1] at p; exact p.elim
  | some a => rw [h1] at p; exact ⟨ρ, P, st1, a, rs1, rx.now rs1 h1, p⟩
theorem ee_un {op : UnaryOp} {o : Val → Option SV} (ho : UnR X (unaryOp op) (R1m (gx L X) o)) (ha : EE L X W a fa) : EE L X W (.UnaryOp op a pos) (e1 o fa) :=
  PE.weak (pe_un ho ha) fun σ H Q h => one σ H Q h fun _ _ _ q => q

/-! ### tests -/
theorem asB_some {z : SV} {b : Bool} (h : asB z = some b) : z = .v (.bl b) := by
  cases z with
  | v x => cases x <;> simp [asB] at h; subst h; rfl
  | _ => simp [asB] at h
theorem et_of {t : TE} (h : EE L X W a fa) (hp : ∀ {t : TE}, PE X a t → PT X a (tB t)) : ET L X W a (tV fa) := by
  refine PT.weak (hp h) fun σ H Q ⟨env, st, ρ, P, re, rs, p⟩ => ⟨env, st, ρ, P, re, rs, Post.thenB p fun z st1 v H1 k rs1 rx p => ?_⟩
  cases q : asB z with
  | none =>
    exfalso
    cases z with
    | v x => cases x <;> first | exact p | simp [asB] at q
    | _ => exact p
  | some b =>
    obtain rfl := asB_some q
    cases rx with
    | v r => cases r; exact ⟨b, rfl, p H1 Kp.refl rs1⟩
theorem et_val (h : EE L X W a fa) (he : ∀ whole, isTrue a X.env whole = (do let v ← whole; standAt a.pos; holding [v] (truthy v)) := by intro _; rfl) : ET L X W a (tV fa) := et_of (t := tC .non) h fun h => pt_val h he
theorem tTestB {t : TE} {o : TT} (h : ∀ σ H Q, o σ H Q → tTest t σ H Q) : ∀ σ H Q, o σ H Q → tTest t σ H Q := h
theorem et_cmp {op : CmpOp} {o : Val → Val → Option SV} (ho : OpR X (compareOp op) (R2m (gx L X) o)) (ha : EE L X W a fa) (hb : EE L X W b fb) (hm : behindInMarks op b = false := by with_unfolding_all rfl) : ET L X W (.Compare a [op] [b] pos) (tV (e2 o fa fb)) := by
  refine PT.weak (pt_cmpR ho ha hb hm) fun σ H Q ⟨env, st, ρ, P, re, rs, p⟩ => ?_
  have := two (r := R2m (gx L X) o) (ta' := TEm (gx L X) W fa) (tb' := TEm (gx L X) W fb) σ H (fun x H' => ∃ k, x = .bl k ∧ Q k H') ⟨env, st, ρ, P, re, rs, Post.thenB p fun z st1 v H1 k rs1 rx p => ?_⟩ (fun _ _ _ _ q => q) (fun _ _ _ q => q) (fun _ _ _ q => q)
  · exact this
  · cases q : asB z with
    | none =>
      exfalso
      cases z with
      | v x => cases x <;> first | exact p | simp [asB] at q
      | _ => exact p
    | some b =>
      obtain rfl := asB_some q
      cases rx with
      | v r => cases r; exact ⟨b, rfl, p H1 Kp.refl rs1⟩
theorem et_not (ha : ET L X W a ta) : ET L X W (.UnaryOp .Not a pos) (tNot ta) := by
  refine PT.weak (pt_not ha) fun σ H Q ⟨env, st, ρ, P, re, rs, p⟩ => ⟨env, st, ρ, P, re, rs, p.thenB fun z st1 H1 k rs1 p => ?_⟩
  exact p H1 Kp.refl rs1
abbrev EW (L : Lx) (X : Cx) (W : WX) (e : Expr) (f : Ft) : Prop := PW X e (TTm (gx L X) W f)
theorem ew_and1 (ha : ET L X W a ta) : EW L X W (.BoolOp .And [a] pos) ta := pw_and1 ha
theorem ew_or1 (ha : ET L X W a ta) : EW L X W (.BoolOp .Or [a] pos) ta := pw_or1 ha
theorem ew_and (ha : ET L X W a ta) (hb : EW L X W (.BoolOp .And (b :: rest) pos) tb) : EW L X W (.BoolOp .And (a :: b :: rest) pos) (tAnd ta tb) := by
  refine PW.weak (pw_and ha hb) fun σ H Q ⟨env, st, ρ, P, re, rs, p⟩ => ⟨env, st, ρ, P, re, rs, p.thenB fun z st1 H1 k rs1 p => ?_⟩
  cases z with
  | true => exact ⟨env, st1, ρ, P, re.ext k rs, rs1, p⟩
  | false => exact p H1 Kp.refl rs1
theorem ew_or (ha : ET L X W a ta) (hb : EW L X W (.BoolOp .Or (b :: rest) pos) tb) : EW L X W (.BoolOp .Or (a :: b :: rest) pos) (tOr ta tb) := by
  refine PW.weak (pw_or ha hb) fun σ H Q ⟨env, st, ρ, P, re, rs, p⟩ => ⟨env, st, ρ, P, re, rs, p.thenB fun z st1 H1 k rs1 p => ?_⟩
  cases z with
  | true => exact p H1 Kp.refl rs1
  | false => exact ⟨env, st1, ρ, P, re.ext k rs, rs1, p⟩
theorem et_w (h : EW L X W a ta) : ET L X W a ta := h.pt

/-! ### and, or, not, if as values -/
theorem bl_of {G : Gc} {H0 H : Hp} {P : Ts} {ρ : Rho} {st : Sto} {z : SV} {v : V} {b : Bool} (q : asB z = some b) (r : RepX G H0 H P ρ st z v) : v = .bl b := by
  obtain rfl := asB_some q
  cases r with
  | v r => cases r; rfl
theorem ee_one {op} (h : EE L X W a fa) : EE L X W (.BoolOp op [a] pos) fa := pe_one h
theorem ee_and (ha : EE L X W a fa) (hb : EE L X W (.BoolOp .And (b :: rest) pos) fb) : EE L X W (.BoolOp .And (a :: b :: rest) pos) (eAnd fa fb) := by
  refine PE.weak (pe_and ha hb) fun σ H Q ⟨env, st, ρ, P, re, rs, p⟩ => ⟨env, st, ρ, P, re, rs, p.then fun z st1 v H1 k rs1 rx p => ?_⟩
  cases q : asB z with
  | none => simp only [q] at p; exact p.elim
  | some b =>
    simp only [q] at p
    refine ⟨b, bl_of q rx, ?_⟩
    cases b with
    | true => exact ⟨env, st1, ρ, P, re.ext k rs, rs1, p⟩
    | false => exact p _ H1 Kp.refl rs1 (.v (.bl false))
theorem ee_or (ha : EE L X W a fa) (hb : EE L X W (.BoolOp .Or (b :: rest) pos) fb) : EE L X W (.BoolOp .Or (a :: b :: rest) pos) (eOr fa fb) := by
  refine PE.weak (pe_or ha hb) fun σ H Q ⟨env, st, ρ, P, re, rs, p⟩ => ⟨env, st, ρ, P, re, rs, p.then fun z st1 v H1 k rs1 rx p => ?_⟩
  cases q : asB z with
  | none => simp only [q] at p; exact p.elim
  | some b =>
    simp only [q] at p
    refine ⟨b, bl_of q rx, ?_⟩
    cases b with
    | true => exact p _ H1 Kp.refl rs1 (.v (.bl true))
    | false => exact ⟨env, st1, ρ, P, re.ext k rs, rs1, p⟩
theorem ee_not (ha : EE L X W a fa) : EE L X W (.UnaryOp .Not a pos) (eNot fa) := by
  refine PE.weak (pe_not ha) fun σ H Q ⟨env, st, ρ, P, re, rs, p⟩ => ⟨env, st, ρ, P, re, rs, p.then fun z st1 v H1 k rs1 rx p => ?_⟩
  cases q : asB z with
  | none => simp only [q] at p; exact p.elim
  | some b =>
    simp only [q] at p
    exact ⟨b, bl_of q rx, p _ H1 Kp.refl rs1 (.v (.bl _))⟩
theorem ee_if (hc : ET L X W c ta) (ha : EE L X W a fa) (hb : EE L X W b fb) : EE L X W (.IfExp c a b pos) (eIf ta fa fb) := by
  refine PE.weak (pe_ifExp hc ha hb) fun σ H Q ⟨env, st, ρ, P, re, rs, p⟩ => ⟨env, st, ρ, P, re, rs, PostB.then p fun z st1 H1 k rs1 p => ?_⟩
  cases z with
  | true => exact ⟨env, st1, ρ, P, re.ext k rs, rs1, p⟩
  | false => exact ⟨env, st1, ρ, P, re.ext k rs, rs1, p⟩
/-! ### argument lists -/
variable {fr : Env → Sto → Rv (List SV)}
theorem ea_nil : EA L X W [] aNil := PA.weak pa_nil fun σ H Q ⟨env, st, ρ, P, re, rs, p⟩ => p [] H Kp.refl rs .nil
theorem ea_cons (ha : EE L X W e fa) (hr : EA L X W es fr) (hs : starEach (e :: es) X.env = (false, eval e X.env) :: starEach es X.env := by rfl) : EA L X W (e :: es) (aCons fa fr) := by
  refine PA.weak (pa_cons ha hr hs) fun σ H Q ⟨env, st, ρ, P, re, rs, p⟩ => ⟨env, st, ρ, P, re, rs, Post.thenA p fun z st1 v H1 k rs1 rx p => ?_⟩
  refine ⟨env, st1, ρ, P, re.ext k rs, rs1, p.thenA fun zs st2 vs H2 k2 rs2 rz p => ?_⟩
  exact p _ H2 Kp.refl rs2 (.cons ((rx.z).ext k2 rs1) rz)
end
end Eng

namespace Eng
open PySem PySem.Spec PyProof.Rows L2

/-! ### a chain of two comparisons -/
def eChain (o o' : Val → Val → Option SV) (fa fb fc : Fe) : Fe := fun env st => (fa env st).bind fun x st1 => (fb env st1).bind fun y st2 =>
  match ((x.val st2).bind fun a => (y.val st2).bind fun b => o a b).bind asB with
  | some true => (fc env st2).bind fun z st3 => outO ((y.val st3).bind fun b => (z.val st3).bind fun c => o' b c) st3
  | some false => .ok (.v (.bl false)) st2
  | none => .bad
section
variable {L : Lx} {X : Cx} {W : WX} {a b c e : Expr} {es rest : List Expr} {fa fb fc : Fe} {ta tb : Ft} {pos : Pos} {op op' : CmpOp} {o o' : Val → Val → Option SV}
theorem chain_tm (σ : L2.St) (H : Hp) (Q : VK) (h : TEm (gx L X) W (eChain o o' fa fb fc) σ H Q) : tChain (R2m (gx L X) o) (R2m (gx L X) o') (TEm (gx L X) W fa) (TEm (gx L X) W fb) (TEm (gx L X) W fc) σ H Q := by
  obtain ⟨env, st, ρ, P, re, rs, p⟩ := h
  refine ⟨env, st, ρ, P, re, rs, Post.then p fun x st1 v H1 k1 rs1 rx p => ?_⟩
  refine ⟨env, st1, ρ, P, re.ext k1 rs, rs1, Post.then p fun y st2 u H2 k2 rs2 ry p => ?_⟩
  cases h1 : x.val st2 with
  | none => rw [h1] at p; exact p.elim
  | some a =>
    cases h2 : y.val st2 with
    | none => rw [h1, h2] at p; exact p.elim
    | some b =>
      rw [h1, h2] at p
      refine ⟨ρ, P, st2, a, b, rs2, rx.now2 rs1 k2 rs2 h1, ry.now rs2 h2, ?_⟩
      have p : Post (gx L X) W σ P ρ H2 (match (o a b).bind asB with
        | some true => (fc env st2).bind fun z st3 => outO ((y.val st3).bind fun b => (z.val st3).bind fun c => o' b c) st3
        | some false => .ok (.v (.bl false)) st2
        | none => .bad) Q := p
      cases h3 : o a b with
      | none => rw [h3] at p; exact p.elim
      | some r =>
        rw [h3] at p
        intro v' H3 k3 rs3 rx3
        have p : Post (gx L X) W σ P ρ H2 (match asB r with
          | some true => (fc env st2).bind fun z st3 => outO ((y.val st3).bind fun b => (z.val st3).bind fun c => o' b c) st3
          | some false => .ok (.v (.bl false)) st2
          | none => .bad) Q := p
        cases h4 : asB r with
        | none => simp only [h4] at p; exact p.elim
        | some k =>
          simp only [h4] at p
          refine ⟨k, bl_of h4 rx3, ?_⟩
          cases k with
          | false => exact p _ H3 k3 rs3 (.v (.bl false))
          | true =>
            refine ⟨env, st2, ρ, P, ((re.ext k1 rs).ext k2 rs1).ext k3 rs2, rs3, Post.then (Post.step k3 p) fun z st4 w4 H4 k4 rs4 rz p => ?_⟩
            have p := POp.of p
            cases h5 : y.val st4 with
            | none => rw [h5] at p; exact p.elim
            | some b' =>
              cases h6 : z.val st4 with
              | none => rw [h5, h6] at p; exact p.elim
              | some c' =>
                rw [h5, h6] at p
                exact ⟨ρ, P, st4, b', c', rs4, ry.now2 rs2 (k3.trans k4) rs4 h5, rz.now rs4 h6, p⟩
theorem ee_chain (ho : OpR X (compareOp op) (R2m (gx L X) o)) (ho' : OpR X (compareOp op') (R2m (gx L X) o')) (ha : EE L X W a fa) (hb : EE L X W b fb) (hc : EE L X W c fc)
    (hm : lastMarks [op, op'] [b, c] = false := by with_unfolding_all rfl) : EE L X W (.Compare a [op, op'] [b, c] pos) (eChain o o' fa fb fc) :=
  PE.weak (pe_chain ho ho' ha hb hc hm) chain_tm
theorem tB_of {G : Gc} {f : Fe} {σ : L2.St} {H : Hp} {Q : Bool → Hp → Prop} (h : TTm G W (tV f) σ H Q) : TEm G W f σ H fun x H' => ∃ k, x = .bl k ∧ Q k H' := by
  obtain ⟨env, st, ρ, P, re, rs, p⟩ := h
  refine ⟨env, st, ρ, P, re, rs, Post.thenB p fun z st1 v H1 k rs1 rx p => ?_⟩
  cases q : asB z with
  | none =>
    exfalso
    cases z with
    | v x => cases x <;> first | exact p | simp [asB] at q
    | _ => exact p
  | some b =>
    obtain rfl := asB_some q
    cases rx with
    | v r => cases r; exact ⟨b, rfl, p H1 Kp.refl rs1⟩
theorem et_chain (ho : OpR X (compareOp op) (R2m (gx L X) o)) (ho' : OpR X (compareOp op') (R2m (gx L X) o')) (ha : EE L X W a fa) (hb : EE L X W b fb) (hc : EE L X W c fc)
    (hm : lastMarks [op, op'] [b, c] = false := by with_unfolding_all rfl) : ET L X W (.Compare a [op, op'] [b, c] pos) (tV (eChain o o' fa fb fc)) :=
  PT.weak (pt_chain ho ho' ha hb hc hm) fun σ H Q h => chain_tm _ _ _ (tB_of h)
end

/-! ### statements -/
def PostS (G : Gc) (W : WX) (B : List Nat) (n : Nat) (P : Ts) (ρ : Rho) (H : Hp) (r : Rs) (D : Ends) : Prop := match r with
  | .nx env' st' => ∀ σ' H' ρ', ExtS B n ρ H ρ' H' → RepS G H' P ρ' st' → RepE G H' P ρ' env' σ' → D.nx σ' H'
  | .rt z st' => ∀ v H' ρ', ExtS B n ρ H ρ' H' → RepS G H' P ρ' st' → RepX G H H' P ρ' st' z v → D.rt v H'
  | .exc e env' st' => ∀ cls d σ' H' ρ', ExtS B n ρ H ρ' H' → RepS G H' P ρ' st' → RepE G H' P ρ' env' σ' → RepEx G H' e cls d → W cls d σ' H'
  | .bad => False
def TSm (G : Gc) (W : WX) (B : List Nat) (n : Nat) (f : Fs) : TS := fun D σ H => ∃ env st ρ P, RepE G H P ρ env σ ∧ RepS G H P ρ st ∧ PostS G W B n P ρ H (f env st) D
abbrev ES (L : Lx) (X : Cx) (W : WX) (B : List Nat) (n : Nat) (s : Stmt) (f : Fs) : Prop := PS X s (TSm (gx L X) W B n f)
abbrev ESs (L : Lx) (X : Cx) (W : WX) (B : List Nat) (n : Nat) (s : List Stmt) (f : Fs) : Prop := PSs X s (TSm (gx L X) W B n f)

def Rs.andThen (r : Rs) (g : Fs) : Rs := match r with
  | .nx env st => g env st
  | r => r
def Rv.toS (env : Env) (r : Rv SV) (f : SV → Sto → Rs) : Rs := match r with
  | .ok z st => f z st
  | .exc e st => .exc e env st
  | .bad => .bad
def Rv.toSB (env : Env) (r : Rv Bool) (f : Bool → Sto → Rs) : Rs := match r with
  | .ok z st => f z st
  | .exc e st => .exc e env st
  | .bad => .bad
def sNil : Fs := fun env st => .nx env st
def sBad : Fs := fun _ _ => .bad
def sSeq (f g : Fs) : Fs := fun env st => (f env st).andThen g
def sExpr (fa : Fe) : Fs := fun env st => (fa env st).toS env fun _ st1 => .nx env st1
def sRet (fa : Fe) : Fs := fun env st => (fa env st).toS env fun z st1 => .rt z st1
def sIf (t : Ft) (f g : Fs) : Fs := fun env st => (t env st).toSB env fun b st1 => if b = true then f env st1 else g env st1

section
variable {G : Gc} {W : WX} {σ : L2.St} {H H0 H1 H2 H' : Hp} {ρ ρ1 ρ2 ρ' : Rho} {P : Ts} {env env' : Env} {st st' st1 st2 : Sto} {B B1 B2 : List Nat} {n : Nat} {D D' : Ends} {r : Rs}
theorem PostS.step (x : ExtS B n ρ H ρ1 H1) (p : PostS G W B n P ρ H r D) : PostS G W B n P ρ1 H1 r D := by
  cases r with
  | nx e s => exact fun σ' H' ρ' x' => p σ' H' ρ' (x.trans x')
  | rt z s => exact fun v H' ρ' x' rs rx => p v H' ρ' (x.trans x') rs (rx.base x.kp)
  | exc e en s => exact fun c d σ' H' ρ' x' => p c d σ' H' ρ' (x.trans x')
  | bad => exact p
theorem PostS.kp (k : Kp (Tr ρ) H (Tr ρ) H1) (p : PostS G W B n P ρ H r D) : PostS G W B n P ρ H1 r D := p.step (.of k)
theorem PostS.imp (h : ∀ l ∈ B1, l ∈ B) (p : PostS G W B n P ρ H r D) : PostS G W B1 n P ρ H r D := by
  cases r with
  | nx e s => exact fun σ' H' ρ' x' => p σ' H' ρ' (x'.mono h)
  | rt z s => exact fun v H' ρ' x' => p v H' ρ' (x'.mono h)
  | exc e en s => exact fun c d σ' H' ρ' x' => p c d σ' H' ρ' (x'.mono h)
  | bad => exact p
theorem PostS.then {f : Fs} (h1 : ∀ l ∈ B1, l ∈ B) (p : PostS G W B n P ρ H (r.andThen f) D) {Nx : L2.St → Hp → Prop}
    (w : ∀ env' st' σ' H' ρ', ExtS B n ρ H ρ' H' → RepS G H' P ρ' st' → RepE G H' P ρ' env' σ' → PostS G W B n P ρ' H' (f env' st') D → Nx σ' H') : PostS G W B1 n P ρ H r { D with nx := Nx } := by
  cases r with
  | nx e s => exact fun σ' H' ρ' x rs re => w e s σ' H' ρ' (x.mono h1) rs re (p.step (x.mono h1))
  | rt z s => exact fun v H' ρ' x' => p v H' ρ' (x'.mono h1)
  | exc e en s => exact fun c d σ' H' ρ' x' => p c d σ' H' ρ' (x'.mono h1)
  | bad => exact p
theorem Post.thenS {r : Rv SV} {f : SV → Sto → Rs} {Q : VK} (re : RepE G H P ρ env σ) (rs : RepS G H P ρ st) (p : PostS G W B n P ρ H (r.toS env f) D) (w : ∀ z st1 v H1, Kp (Tr ρ) H (Tr ρ) H1 → RepS G H1 P ρ st1 → RepX G H H1 P ρ st1 z v → PostS G W B n P ρ H1 (f z st1) D → Q v H1) : Post G W σ P ρ H r Q := by
  cases r with
  | ok z st1 => exact fun v H1 k rs rx => w z st1 v H1 k rs rx (p.kp k)
  | exc e st1 => exact fun c d H1 k rs1 rx => p c d σ H1 ρ (.of k) rs1 (re.ext k rs) rx
  | bad => exact p
theorem PostB.thenS {r : Rv Bool} {f : Bool → Sto → Rs} {Q : Bool → Hp → Prop} (re : RepE G H P ρ env σ) (rs : RepS G H P ρ st) (p : PostS G W B n P ρ H (r.toSB env f) D) (w : ∀ z st1 H1, Kp (Tr ρ) H (Tr ρ) H1 → RepS G H1 P ρ st1 → PostS G W B n P ρ H1 (f z st1) D → Q z H1) : PostB G W σ P ρ H r Q := by
  cases r with
  | ok z st1 => exact fun H1 k rs => w z st1 H1 k rs (p.kp k)
  | exc e st1 => exact fun c d H1 k rs1 rx => p c d σ H1 ρ (.of k) rs1 (re.ext k rs) rx
  | bad => exact p
theorem RepE.set (re : RepE G H P ρ env σ) {z : SV} {v : V} (r : RepZ G H P ρ z v) (i : Nat) : RepE G H P ρ (env.set i (some z)) (σ.set i (some v)) := by
  refine ⟨by rw [List.length_set, List.length_set]; exact re.len, fun j y e => ?_⟩
  by_cases h : j = i
  · subst h
    have hl : j < env.length := by
      have := (List.getElem?_eq_some_iff.mp e).1
      rw [List.length_set] at this; exact this
    rw [List.getElem?_set_self hl] at e
    cases e
    exact ⟨v, List.getElem?_set_self (by rw [← re.len]; exact hl), r⟩
  · rw [List.getElem?_set_ne (Ne.symm h)] at e ⊢
    exact re.get j y e
end
section
variable {L : Lx} {X : Cx} {W : WX} {a b c e : Expr} {fa fb fc : Fe} {ta tb : Ft} {pos : Pos} {s : Stmt} {rest sa sb : List Stmt} {f g : Fs} {B B1 B2 : List Nat} {n : Nat}
theorem es_nil : ESs L X W [] n [] sNil := PSs.weak pss_nil fun D σ H ⟨env, st, ρ, P, re, rs, p⟩ => p σ H ρ .refl rs re
theorem es_cons (h1 : ES L X W B1 n s f) (h2 : ESs L X W B2 n rest g) : ESs L X W (B1 ++ B2) n (s :: rest) (sSeq f g) := by
  refine PSs.weak (pss_cons h1 h2) fun D σ H ⟨env, st, ρ, P, re, rs, p⟩ => ⟨env, st, ρ, P, re, rs, p.then (fun l hl => List.mem_append_left _ hl) fun env' st' σ' H' ρ' x rs' re' p => ?_⟩
  exact ⟨env', st', ρ', P, re', rs', p.imp fun l hl => List.mem_append_right _ hl⟩
theorem es_one (h1 : ES L X W B n s f) : ESs L X W B n [s] f := pss_one h1
theorem es_bad : ES L X W B n s sBad := PS.weak ps_never fun D σ H ⟨env, st, ρ, P, re, rs, p⟩ => p
theorem es_expr (ha : EE L X W e fa) (hs : swapsWith e none pos.line X.env = pure false := by rfl) : ES L X W [] n (.Expr e pos) (sExpr fa) := by
  refine PS.weak (ps_expr ha hs) fun D σ H ⟨env, st, ρ, P, re, rs, p⟩ => ⟨env, st, ρ, P, re, rs, Post.thenS re rs p fun z st1 v H1 k rs1 rx p => ?_⟩
  exact p σ H1 ρ .refl rs1 (re.ext k rs)
theorem es_ret (ha : EE L X W e fa) : ES L X W [] n (.Return (some e) pos) (sRet fa) := by
  refine PS.weak (ps_ret ha) fun D σ H ⟨env, st, ρ, P, re, rs, p⟩ => ⟨env, st, ρ, P, re, rs, ?_⟩
  unfold sRet at p
  cases h : fa env st with
  | ok z st1 => rw [h] at p; exact fun v H1 k rs1 rx => p v H1 ρ (.of k) rs1 rx
  | exc e st1 => rw [h] at p; exact fun c d H1 k rs1 rx => p c d σ H1 ρ (.of k) rs1 (re.ext k rs) rx
  | bad => rw [h] at p; exact p
theorem es_if (hc : ET L X W c ta) (ha : ESs L X W B1 n sa f) (hb : ESs L X W B2 n sb g) : ES L X W (B1 ++ B2) n (.If c sa sb pos) (sIf ta f g) := by
  refine PS.weak (ps_if hc ha hb) fun D σ H ⟨env, st, ρ, P, re, rs, p⟩ => ⟨env, st, ρ, P, re, rs, PostB.thenS re rs p fun z st1 H1 k rs1 p => ?_⟩
  cases z with
  | true => exact ⟨env, st1, ρ, P, re.ext k rs, rs1, p.imp fun l hl => List.mem_append_left _ hl⟩
  | false => exact ⟨env, st1, ρ, P, re.ext k rs, rs1, p.imp fun l hl => List.mem_append_right _ hl⟩
end

/-! ### names bound: a frozen value, a cell -/
def killE (l : Nat) (env : Env) : Env := env.map fun z => match z with
  | some (.loc l') => if l' = l then none else some (.loc l')
  | z => z
/-- to a frozen value; a cell that is handed on dies -/
def frz (n : Nat) (B : List Nat) (z : SV) (env : Env) (st : Sto) : Option (SV × Env × Sto) := match z with
  | .v x => some (.v x, env, st)
  | .fl xs => some (.v (.lst xs), env, st)
  | .fd t kvs => some (.v (.dic t kvs), env, st)
  | .loc l => if n ≤ l ∧ (l - n) ∈ B then (match st[l]? with
    | some (.lst xs) => some (.v (.lst xs), killE l env, st.set l .dead)
    | some (.dic t kvs) => some (.v (.dic t kvs), killE l env, st.set l .dead)
    | _ => none) else none
/-- to the cell n + j -/
def bnd (n j : Nat) (z : SV) (env : Env) (st : Sto) : Option (SV × Env × Sto) := if n + j < st.length then (match z with
  | .fl xs => some (.loc (n + j), killE (n + j) env, st.set (n + j) (.lst xs))
  | .fd t kvs => some (.loc (n + j), killE (n + j) env, st.set (n + j) (.dic t kvs))
  | _ => none) else none
inductive Md where
  | f | c (j : Nat)
def Md.run (m : Md) (n : Nat) (B : List Nat) (z : SV) (env : Env) (st : Sto) : Option (SV × Env × Sto) := match m with
  | .f => frz n B z env st
  | .c j => bnd n j z env st
def Md.cells : Md → List Nat
  | .f => []
  | .c j => [j]
section
variable {G : Gc} {W : WX} {σ : L2.St} {H H0 H1 H2 H' : Hp} {ρ ρ1 ρ2 ρ' : Rho} {P : Ts} {env env' : Env} {st st' st1 st2 : Sto} {B B1 B2 : List Nat} {n : Nat}
theorem killE_get {l i : Nat} {z : SV} (h : (killE l env)[i]? = some (some z)) : env[i]? = some (some z) ∧ z ≠ .loc l := by
  unfold killE at h
  rw [List.getElem?_map] at h
  cases q : env[i]? with
  | none => rw [q] at h; cases h
  | some o =>
    rw [q] at h
    cases o with
    | none => cases h
    | some y =>
      cases y with
      | loc l' =>
        simp only [Option.map_some] at h
        split at h
        · cases h
        · cases h; exact ⟨rfl, fun e => by cases e; contradiction⟩
      | v x => cases h; exact ⟨rfl, fun e => by cases e⟩
      | fl x => cases h; exact ⟨rfl, fun e => by cases e⟩
      | fd x => cases h; exact ⟨rfl, fun e => by cases e⟩
theorem killE_rep {l : Nat} {o : Option Addr} (re : RepE G H P ρ env σ) (x : Kp (TP P ρ) H (TP P (ρ.set l o)) H1) (nt : NoTup H (TP P ρ)) : RepE G H1 P (ρ.set l o) (killE l env) σ := by
  refine ⟨by unfold killE; rw [List.length_map]; exact re.len, fun i z h => ?_⟩
  obtain ⟨e, ne⟩ := killE_get h
  obtain ⟨v, e1, r⟩ := re.get i z e
  refine ⟨v, e1, ?_⟩
  cases r with
  | v r => exact .v (r.ext x nt)
  | loc q => exact .loc (by rw [List.getElem?_set_ne (fun z => ne (by rw [z]))]; exact q)
/-- what is bound is so -/
theorem md_ok {m : Md} {z : SV} {v : V} {z' : SV} (re : RepE G H0 P ρ env σ) (rs0 : RepS G H0 P ρ st) (k : Kp (Tr ρ) H0 (Tr ρ) H) (rs : RepS G H P ρ st1) (rx : RepX G H0 H P ρ st1 z v) (h : m.run n B z env st1 = some (z', env', st')) :
    ∃ ρ', ExtS (B ++ m.cells) n ρ H0 ρ' H ∧ RepS G H P ρ' st' ∧ RepE G H P ρ' env' σ ∧ RepZ G H P ρ' z' v := by
  have re1 := re.ext k rs0
  cases m with
  | f =>
    have h : frz n B z env st1 = some (z', env', st') := h
    cases rx with
    | v r => cases h; exact ⟨ρ, .of k, rs, re1, .v r⟩
    | @loc l a q =>
      simp only [frz] at h
      split at h
      · rename_i hl
        obtain ⟨o, e1, ro⟩ := rs.obj l a q
        have nt := kill_ntr rs q
        have x : Kp (TP P ρ) H (TP P (ρ.set l none)) H := (kp_kill (ρ := ρ) (H := H) (l := l)).tp
        have ex : ExtS (B ++ Md.f.cells) n ρ H0 (ρ.set l none) H := ⟨List.length_set, fun l' hl' => List.getElem?_set_ne fun z => hl' (l - n) (List.mem_append_left _ hl.2) (by omega), k.trans kp_kill⟩
        rw [e1] at h
        cases ro with
        | lst h1 r => cases h; exact ⟨_, ex, rs.kill q, killE_rep re1 x rs.nt, .v (.lst h1 nt (RepVs.ext x rs.nt r))⟩
        | dicK h1 r => cases h; exact ⟨_, ex, rs.kill q, killE_rep re1 x rs.nt, .v (.dicK h1 nt (RepK.ext x rs.nt r))⟩
        | dicT h1 r => cases h; exact ⟨_, ex, rs.kill q, killE_rep re1 x rs.nt, .v (.dicT h1 nt (RepT.ext x rs.nt r))⟩
      · cases h
    | fl h1 n0 r rp np => cases h; exact ⟨ρ, .of k, rs, re1, (RepX.fl h1 n0 r rp np).z⟩
    | fdK h1 n0 r rp np => cases h; exact ⟨ρ, .of k, rs, re1, (RepX.fdK h1 n0 r rp np).z⟩
    | fdT h1 n0 r rp np => cases h; exact ⟨ρ, .of k, rs, re1, (RepX.fdT h1 n0 r rp np).z⟩
  | c j =>
    have h : bnd n j z env st1 = some (z', env', st') := h
    unfold bnd at h
    split at h
    · rename_i hl
      have go : ∀ {a : Addr} {so : SO}, H0 a = none → RepS G H (Plus P a) ρ st1 → ¬ P a → RepO G H (TP (Plus P a) ρ) so a →
          ∃ ρ', ExtS (B ++ (Md.c j).cells) n ρ H0 ρ' H ∧ RepS G H P ρ' (st1.set (n + j) so) ∧ RepE G H P ρ' (killE (n + j) env) σ ∧ RepZ G H P ρ' (.loc (n + j)) (.ref a) := fun {a so} n0 rp np ro => by
        have hl' : n + j < ρ.length := by rw [rs.len]; exact hl
        have x : Kp (Tr ρ) H0 (Tr (ρ.set (n + j) (some a))) H := kp_bind n0 k
        refine ⟨ρ.set (n + j) (some a), ⟨List.length_set, fun l' hl' => List.getElem?_set_ne fun z => hl' j (List.mem_append_right _ List.mem_cons_self) z.symm, x⟩, rp.bind hl np ro, killE_rep re x.tp rs0.nt, .loc (List.getElem?_set_self hl')⟩
      cases rx with
      | v r => cases h
      | loc q => cases h
      | fl h1 n0 r rp np => cases h; exact go n0 rp np (.lst h1 r)
      | fdK h1 n0 r rp np => cases h; exact go n0 rp np (.dicK h1 r)
      | fdT h1 n0 r rp np => cases h; exact go n0 rp np (.dicT h1 r)
    · cases h
end
def sSet (m : Md) (n : Nat) (B : List Nat) (i : Nat) (fa : Fe) : Fs := fun env st => (fa env st).toS env fun z st1 => match m.run n B z env st1 with
  | some (z', env', st') => .nx (env'.set i (some z')) st'
  | none => .bad
section
variable {L : Lx} {X : Cx} {W : WX} {a b c e : Expr} {fa fb fc : Fe} {pos : Pos} {B : List Nat} {n : Nat}
theorem set_tm {m : Md} {i : Nat} (D : Ends) (σ : L2.St) (H : Hp) (h : TSm (gx L X) W (B ++ m.cells) n (sSet m n B i fa) D σ H) : tAsg (TEm (gx L X) W fa) (gName i) D σ H := by
  obtain ⟨env, st, ρ, P, re, rs, p⟩ := h
  refine ⟨env, st, ρ, P, re, rs, ?_⟩
  unfold sSet at p
  cases h : fa env st with
  | ok z st1 =>
    rw [h] at p
    intro v H1 k rs1 rx
    cases q : m.run n B z env st1 with
    | none => simp only [Rv.toS, q] at p; exact p.elim
    | some r =>
      obtain ⟨z', env', st'⟩ := r
      simp only [Rv.toS, q] at p
      obtain ⟨ρ', x, rs', re', rz⟩ := md_ok re rs k rs1 rx q
      exact p _ H1 ρ' x rs' (re'.set rz i)
  | exc e st1 => rw [h] at p; exact fun c d H1 k rs1 rx => p c d σ H1 ρ (.of k) rs1 (re.ext k rs) rx
  | bad => rw [h] at p; exact p
theorem es_set {i : Nat} {x : Str} {pos' : Pos} (m : Md) (B : List Nat) (hN : X.N.Nodup) (ha : EE L X W e fa) (hi : X.N[i]? = some x := by rfl) (hx : Loc X.env.scope x := by first | exact .inl rfl | exact .inr rfl) (hs : swapsWith e (some (.Name x pos')) pos.line X.env = pure false := by rfl)
    (hf : X.fn x = true ∨ X.env.scope.names.lookup x = some .local := by first | exact .inl rfl | exact .inr rfl) : ES L X W (B ++ m.cells) n (.Assign [.Name x pos'] e pos) (sSet m n B i fa) :=
  PS.weak (ps_set hN hi hx ha hs hf) set_tm
end
end Eng

namespace Eng
open PySem PySem.Spec PyProof.Rows L2

/-! ### several names at once -/
inductive Rb where
  | ok (zs : List SV) (env : Env) (st : Sto) | exc (e : Ex) (env : Env) (st : Sto) | bad
abbrev Fb := Env → Sto → Rb
def bNil : Fb := fun env st => .ok [] env st
def Rb.cons (z : SV) : Rb → Rb
  | .ok zs env st => .ok (z :: zs) env st
  | r => r
def bCons (m : Md) (n : Nat) (B : List Nat) (fa : Fe) (fr : Fb) : Fb := fun env st => match fa env st with
  | .ok z st1 => match m.run n B z env st1 with
    | some (z', env', st') => (fr env' st').cons z'
    | none => .bad
  | .exc e st1 => .exc e env st1
  | .bad => .bad
def PostM (G : Gc) (W : WX) (σ : L2.St) (B : List Nat) (n : Nat) (P : Ts) (ρ : Rho) (H : Hp) (r : Rb) (Q : List V → Hp → Prop) : Prop := match r with
  | .ok zs env' st' => ∀ vs H' ρ', ExtS B n ρ H ρ' H' → RepS G H' P ρ' st' → RepE G H' P ρ' env' σ → RepZs G H' P ρ' zs vs → Q vs H'
  | .exc e env' st' => ∀ cls d H' ρ', ExtS B n ρ H ρ' H' → RepS G H' P ρ' st' → RepE G H' P ρ' env' σ → RepEx G H' e cls d → W cls d σ H'
  | .bad => False
def TMm (G : Gc) (W : WX) (B : List Nat) (n : Nat) (f : Fb) : TA := fun σ H Q => ∃ env st ρ P, RepE G H P ρ env σ ∧ RepS G H P ρ st ∧ PostM G W σ B n P ρ H (f env st) Q
abbrev EM (L : Lx) (X : Cx) (W : WX) (B : List Nat) (n : Nat) (es : List Expr) (f : Fb) : Prop := PA X es (TMm (gx L X) W B n f)
section
variable {L : Lx} {X : Cx} {W : WX} {a b c e : Expr} {es : List Expr} {fa fb fc : Fe} {fr : Fb} {pos : Pos} {B B1 B2 : List Nat} {n : Nat}
theorem em_nil : EM L X W [] n [] bNil := PA.weak pa_nil fun σ H Q ⟨env, st, ρ, P, re, rs, p⟩ => p [] H ρ .refl rs re .nil
theorem RepZ.extS {G : Gc} {H H1 : Hp} {P : Ts} {ρ ρ1 : Rho} {st : Sto} {z : SV} {v : V} (x : ExtS B2 n ρ H ρ1 H1) (rs : RepS G H P ρ st) (hz : ∀ l, z = .loc l → ∀ j ∈ B2, l ≠ n + j) (r : RepZ G H P ρ z v) : RepZ G H1 P ρ1 z v := by
  cases r with
  | v r => exact .v (r.ext x.kp.tp rs.nt)
  | loc q => exact .loc (by rw [x.fix _ (hz _ rfl)]; exact q)
theorem em_cons (m : Md) (B : List Nat) (ha : EE L X W e fa) (hr : EM L X W B2 n es fr) (hd : ∀ j ∈ m.cells, j ∉ B2 := by decide) (hs : starEach (e :: es) X.env = (false, eval e X.env) :: starEach es X.env := by rfl) :
    EM L X W ((B ++ m.cells) ++ B2) n (e :: es) (bCons m n B fa fr) := by
  refine PA.weak (pa_cons ha hr hs) fun σ H Q ⟨env, st, ρ, P, re, rs, p⟩ => ⟨env, st, ρ, P, re, rs, ?_⟩
  unfold bCons at p
  cases h : fa env st with
  | ok z st1 =>
    rw [h] at p
    intro v H1 k rs1 rx
    cases q : m.run n B z env st1 with
    | none => simp only [q] at p; exact p.elim
    | some r =>
      obtain ⟨z', env', st'⟩ := r
      simp only [q] at p
      obtain ⟨ρ', x, rs', re', rz⟩ := md_ok re rs k rs1 rx q
      have x' : ExtS ((B ++ m.cells) ++ B2) n ρ H ρ' H1 := x.mono fun l h => List.mem_append_left _ h
      refine ⟨env', st', ρ', P, re', rs', ?_⟩
      cases h2 : fr env' st' with
      | ok zs en s2 =>
        rw [h2] at p
        intro vs H2 ρ2 x2 rs2 re2 rz2
        refine p (v :: vs) H2 ρ2 (x'.trans (x2.mono fun l h => List.mem_append_right _ h)) rs2 re2 (.cons (rz.extS x2 rs' fun l e j hj => ?_) rz2)
        subst e
        cases m with
        | f =>
          exfalso
          have q : frz n B z env st1 = some (.loc l, env', st') := q
          cases z with
          | loc l1 =>
            simp only [frz] at q
            split at q
            · split at q <;> cases q
            · cases q
          | _ => cases q
        | c j0 =>
          have q : bnd n j0 z env st1 = some (.loc l, env', st') := q
          unfold bnd at q
          split at q
          · have hj0 := hd j0 List.mem_cons_self
            have : l = n + j0 := by cases z <;> cases q <;> rfl
            intro z
            exact hj0 (by
              have : j = j0 := by omega
              exact this ▸ hj)
          · cases q
      | exc e en s2 =>
        rw [h2] at p
        exact fun c d H2 ρ2 x2 => p c d H2 ρ2 (x'.trans (x2.mono fun l h => List.mem_append_right _ h))
      | bad => rw [h2] at p; exact p
  | exc e st1 => rw [h] at p; exact fun c d H1 k rs1 rx => p c d H1 ρ (.of k) rs1 (re.ext k rs) rx
  | bad => rw [h] at p; exact p
end
def setAll (env : Env) : List Nat → List SV → Option Env
  | [], [] => some env
  | i :: is, z :: zs => setAll (env.set i (some z)) is zs
  | _, _ => none
def Rb.toS (r : Rb) (f : List SV → Env → Sto → Rs) : Rs := match r with
  | .ok zs env st => f zs env st
  | .exc e env st => .exc e env st
  | .bad => .bad
/-- a, b = x, y with plain names -/
def sPar (is : List Nat) (fb : Fb) : Fs := fun env st => (fb env st).toS fun zs env' st' => match setAll env' is zs with
  | some env2 => .nx env2 st'
  | none => .bad
section
variable {L : Lx} {X : Cx} {W : WX} {a b c e : Expr} {es : List Expr} {fa fc : Fe} {fb : Fb} {pos : Pos} {B B1 B2 : List Nat} {n : Nat}
theorem PostM.toS {G : Gc} {σ : L2.St} {H : Hp} {P : Ts} {ρ : Rho} {r : Rb} {f : List SV → Env → Sto → Rs} {D : Ends} {Q : List V → Hp → Prop} (p : PostS G W B n P ρ H (r.toS f) D)
    (w : ∀ zs env' st' vs H' ρ', ExtS B n ρ H ρ' H' → RepS G H' P ρ' st' → RepE G H' P ρ' env' σ → RepZs G H' P ρ' zs vs → PostS G W B n P ρ' H' (f zs env' st') D → Q vs H') : PostM G W σ B n P ρ H r Q := by
  cases r with
  | ok zs en s => exact fun vs H' ρ' x rs re rz => w zs en s vs H' ρ' x rs re rz (p.step x)
  | exc e en s => exact fun c d H' ρ' x rs re rx => p c d σ H' ρ' x rs re rx
  | bad => exact p
theorem es_par2 {i j : Nat} {x y : Str} {px py pt : Pos} {kt k2 pt2} (hc : X.calm = true) (hN : X.N.Nodup) (ha : EM L X W B n [a, b] fb) (hi : X.N[i]? = some x := by rfl) (hj : X.N[j]? = some y := by rfl) (hij : i ≠ j := by decide)
    (hx : X.env.scope.names.lookup x = some .local := by rfl) (hy : X.env.scope.names.lookup y = some .local := by rfl)
    (hw : swappedStores [.Tuple [.Name x px, .Name y py] kt pt] (.Tuple [a, b] k2 pt2) X.env = pure (some [x, y]) := by with_unfolding_all rfl)
    (hs : swapsWithSole [.Tuple [.Name x px, .Name y py] kt pt] (.Tuple [a, b] k2 pt2) pos.line X.env = pure false := by rfl) :
    ES L X W B n (.Assign [.Tuple [.Name x px, .Name y py] kt pt] (.Tuple [a, b] k2 pt2) pos) (sPar [i, j] fb) := by
  refine PS.weak (ps_par hc hN hi hj hij hx hy ha hw hs) fun D σ H ⟨env, st, ρ, P, re, rs, p⟩ => ⟨env, st, ρ, P, re, rs, PostM.toS p fun zs env' st' vs H' ρ' x rs' re' rz p => ?_⟩
  cases rz with
  | nil => exact p.elim
  | cons r1 t =>
    cases t with
    | nil => exact p.elim
    | cons r2 t =>
      cases t with
      | nil => exact ⟨_, _, rfl, p _ H' ρ' .refl rs' ((re'.set r1 i).set r2 j)⟩
      | cons r3 t => exact p.elim
theorem es_par3 {i j l : Nat} {x y z : Str} {px py pz pt : Pos} {kt k2 pt2} (hc : X.calm = true) (hN : X.N.Nodup) (ha : EM L X W B n [a, b, c] fb) (hi : X.N[i]? = some x := by rfl) (hj : X.N[j]? = some y := by rfl) (hl : X.N[l]? = some z := by rfl) (hij : i ≠ j := by decide) (hil : i ≠ l := by decide) (hjl : j ≠ l := by decide)
    (hx : X.env.scope.names.lookup x = some .local := by rfl) (hy : X.env.scope.names.lookup y = some .local := by rfl) (hz : X.env.scope.names.lookup z = some .local := by rfl)
    (hw : swappedStores [.Tuple [.Name x px, .Name y py, .Name z pz] kt pt] (.Tuple [a, b, c] k2 pt2) X.env = pure (some [x, y, z]) := by with_unfolding_all rfl)
    (hs : swapsWithSole [.Tuple [.Name x px, .Name y py, .Name z pz] kt pt] (.Tuple [a, b, c] k2 pt2) pos.line X.env = pure false := by rfl) :
    ES L X W B n (.Assign [.Tuple [.Name x px, .Name y py, .Name z pz] kt pt] (.Tuple [a, b, c] k2 pt2) pos) (sPar [i, j, l] fb) := by
  refine PS.weak (ps_par3 hc hN hi hj hl hij hil hjl hx hy hz ha hw hs) fun D σ H ⟨env, st, ρ, P, re, rs, p⟩ => ⟨env, st, ρ, P, re, rs, PostM.toS p fun zs env' st' vs H' ρ' x rs' re' rz p => ?_⟩
  cases rz with
  | nil => exact p.elim
  | cons r1 t =>
    cases t with
    | nil => exact p.elim
    | cons r2 t =>
      cases t with
      | nil => exact p.elim
      | cons r3 t =>
        cases t with
        | nil => exact ⟨_, _, _, rfl, p _ H' ρ' .refl rs' (((re'.set r1 i).set r2 j).set r3 l)⟩
        | cons r4 t => exact p.elim
end
/-! ### targets in general -/
abbrev Fg := SV → Fs
def PostG (G : Gc) (B : List Nat) (n : Nat) (P : Ts) (ρ : Rho) (H : Hp) (r : Rs) (Q : L2.St → Hp → Prop) : Prop := match r with
  | .nx env' st' => ∀ σ' H' ρ', ExtS B n ρ H ρ' H' → RepS G H' P ρ' st' → RepE G H' P ρ' env' σ' → Q σ' H'
  | _ => False
def TGm (G : Gc) (B : List Nat) (n : Nat) (g : Fg) : TG := fun v σ H Q => ∃ env st ρ P z, RepE G H P ρ env σ ∧ RepS G H P ρ st ∧ RepZ G H P ρ z v ∧ PostG G B n P ρ H (g z env st) Q
def TGsm (G : Gc) (B : List Nat) (n : Nat) (g : List SV → Fs) : TGs := fun vs σ H Q => ∃ env st ρ P zs, RepE G H P ρ env σ ∧ RepS G H P ρ st ∧ RepZs G H P ρ zs vs ∧ PostG G B n P ρ H (g zs env st) Q
abbrev EG (L : Lx) (X : Cx) (B : List Nat) (n : Nat) (t : Expr) (g : Fg) : Prop := PG X t (TGm (gx L X) B n g)
abbrev EGs (L : Lx) (X : Cx) (B : List Nat) (n : Nat) (ts : List Expr) (g : List SV → Fs) : Prop := PGs X ts (TGsm (gx L X) B n g)
def gN (i : Nat) : Fg := fun z env st => .nx (env.set i (some z)) st
def gsNil : List SV → Fs := fun zs env st => match zs with
  | [] => .nx env st
  | _ => .bad
def gsCons (g : Fg) (r : List SV → Fs) : List SV → Fs := fun zs env st => match zs with
  | z :: zs => (g z env st).andThen (r zs)
  | [] => .bad
/-- targets = the display of a tuple -/
def sTup (fb : Fb) (g : List SV → Fs) : Fs := fun env st => (fb env st).toS fun zs env' st' => match g zs env' st' with
  | .nx env2 st2 => .nx env2 st2
  | _ => .bad
def BLen (fb : Fb) (k : Nat) : Prop := ∀ env st zs env' st', fb env st = .ok zs env' st' → zs.length = k
theorem blen_nil : BLen bNil 0 := fun env st zs env' st' h => by cases h; rfl
theorem blen_cons {m : Md} {n k : Nat} {B : List Nat} {fa : Fe} {fr : Fb} (h : BLen fr k) : BLen (bCons m n B fa fr) (k + 1) := fun env st zs env' st' e => by
  unfold bCons at e
  split at e
  · split at e
    · rename_i z s1 _ _ z' en s2 _
      cases q : fr en s2 with
      | ok ys en3 s3 => rw [q] at e; cases e; exact congrArg (· + 1) (h _ _ _ _ _ q)
      | exc _ _ _ => rw [q] at e; cases e
      | bad => rw [q] at e; cases e
    · cases e
  · cases e
  · cases e
theorem PGs.weak {X : Cx} {e : List Expr} {t t' : TGs} (h : PGs X e t) (w : ∀ v σ H Q, t' v σ H Q → t v σ H Q) : PGs X e t' := ⟨fun pins s σ H v u Q I r q => h.run pins s σ H v u Q I r (w v σ H Q q)⟩
section
variable {L : Lx} {X : Cx} {W : WX} {a b c e t : Expr} {es ts : List Expr} {fa fc fo fi : Fe} {fb : Fb} {pos : Pos} {B B1 B2 : List Nat} {n : Nat} {g : Fg} {gr : List SV → Fs}
theorem PostG.imp {G : Gc} {P : Ts} {ρ : Rho} {H : Hp} {r : Rs} {Q : L2.St → Hp → Prop} (h : ∀ l ∈ B1, l ∈ B) (p : PostG G B n P ρ H r Q) : PostG G B1 n P ρ H r Q := by
  cases r with
  | nx e s => exact fun σ' H' ρ' x => p σ' H' ρ' (x.mono h)
  | _ => exact p
theorem PostG.step {G : Gc} {P : Ts} {ρ ρ1 : Rho} {H H1 : Hp} {r : Rs} {Q : L2.St → Hp → Prop} (x : ExtS B n ρ H ρ1 H1) (p : PostG G B n P ρ H r Q) : PostG G B n P ρ1 H1 r Q := by
  cases r with
  | nx e s => exact fun σ' H' ρ' x' => p σ' H' ρ' (x.trans x')
  | _ => exact p
theorem eg_name (i : Nat) {x : Str} (hN : X.N.Nodup) (hi : X.N[i]? = some x := by rfl) (hx : Loc X.env.scope x := by first | exact .inl rfl | exact .inr rfl)
    (hf : X.fn x = true ∨ X.env.scope.names.lookup x = some .local := by first | exact .inl rfl | exact .inr rfl) : EG L X [] n (.Name x pos) (gN i) :=
  PG.weak (pg_name hN hi hx hf) fun v σ H Q ⟨env, st, ρ, P, z, re, rs, rz, p⟩ => p _ H ρ .refl rs (re.set rz i)
theorem egs_nil : EGs L X [] n [] gsNil := PGs.weak pgs_nil fun vs σ H Q ⟨env, st, ρ, P, zs, re, rs, rz, p⟩ => by
  cases rz with
  | nil => exact ⟨rfl, p σ H ρ .refl rs re⟩
  | cons _ _ => exact p.elim
theorem egs_cons (h1 : EG L X [] n t g) (h2 : EGs L X [] n ts gr) (hs : (assignEach (t :: ts) X.env).map (·.2) = assign t X.env :: (assignEach ts X.env).map (·.2) := by rfl) : EGs L X [] n (t :: ts) (gsCons g gr) :=
  PGs.weak (pgs_cons h1 h2 hs) fun vs σ H Q ⟨env, st, ρ, P, zs, re, rs, rz, p⟩ => by
    cases rz with
    | nil => exact p.elim
    | @cons z v zs vs r t' =>
      refine ⟨v, vs, rfl, env, st, ρ, P, z, re, rs, r, ?_⟩
      have p : PostG (gx L X) [] n P ρ H ((g z env st).andThen (gr zs)) Q := p
      cases h : g z env st with
      | nx en s =>
        rw [h] at p
        intro σ' H' ρ' x rs' re'
        have k : ∀ {zs : List SV} {vs : List V}, RepZs (gx L X) H P ρ zs vs → RepZs (gx L X) H' P ρ' zs vs := fun {zs vs} q => by
          induction q with
          | nil => exact .nil
          | cons r _ ih => exact .cons (r.extS x rs fun _ _ j hj => absurd hj (by simp)) ih
        exact ⟨en, s, ρ', P, zs, re', rs', k t', PostG.step x p⟩
      | rt _ _ => rw [h] at p; exact p.elim
      | exc _ _ _ => rw [h] at p; exact p.elim
      | bad => rw [h] at p; exact p.elim
theorem es_tup {k kt : Nat} {px pe : Pos} (hc : X.calm = true) (ha : EM L X W B n es fb) (hg : EGs L X [] n ts gr) (hn : (assignEach ts X.env).length = es.length := by rfl) (hst : (assignEach ts X.env).findIdx? (·.1) = none := by rfl)
    (hw : swappedStores [.Tuple ts k px] (.Tuple es kt pe) X.env = pure none := by with_unfolding_all rfl) (hl : es.length ≤ sizeLine := by decide)
    (hs : swapsWithSole [.Tuple ts k px] (.Tuple es kt pe) pos.line X.env = pure false := by rfl) (h1 : (assignEach [.Tuple ts k px] X.env).map (·.2) = [assign (.Tuple ts k px) X.env] := by rfl)
    (hlen : BLen fb es.length) :
    ES L X W B n (.Assign [.Tuple ts k px] (.Tuple es kt pe) pos) (sTup fb gr) := by
  refine PS.weak (ps_asg (pe_tup ha) (pg_tup hc hg hn hst) hs hw h1) fun D σ H ⟨env, st, ρ, P, re, rs, p⟩ => ⟨env, st, ρ, P, re, rs, ?_⟩
  unfold sTup at p
  cases hz : fb env st with
  | bad => rw [hz] at p; exact p
  | exc e en s => rw [hz] at p; exact fun c d H' ρ' x rs re rx => p c d σ H' ρ' x rs re rx
  | ok zs env' st' =>
    rw [hz] at p
    intro vs H' ρ' x rs' re' rz
    have hvl : ∀ {zs : List SV} {vs : List V}, RepZs (gx L X) H' P ρ' zs vs → zs.length = vs.length := fun q => by
      induction q with
      | nil => rfl
      | cons _ _ ih => exact congrArg (· + 1) ih
    have e1 := hvl rz
    have e2 := hlen env st zs env' st' hz
    refine ⟨by rw [← e1, e2]; exact hl, fun p' hp => ?_⟩
    have k := kp_new (T := Tr ρ') (o := HO.tup vs) hp
    have rs2 : RepS (gx L X) (upd H' p' (.tup vs)) P ρ' st' := rs'.fresh hp
    refine ⟨p', vs, rfl, .inl (.inl upd_same), by rw [← e1]; exact e2, env', st', ρ', P, zs, re'.ext k rs', rs2, rz.ext k rs', ?_⟩
    have p : PostS (gx L X) W B n P ρ H (match gr zs env' st' with
      | .nx env2 st2 => .nx env2 st2
      | _ => .bad) D := p
    cases h : gr zs env' st' with
    | nx en s =>
      rw [h] at p
      exact fun σ3 H3 ρ3 x3 rs3 re3 => p σ3 H3 ρ3 ((x.trans (.of k)).trans (x3.mono fun _ h => absurd h (by simp))) rs3 re3
    | rt _ _ => rw [h] at p; exact p.elim
    | exc _ _ _ => rw [h] at p; exact p.elim
    | bad => rw [h] at p; exact p.elim
/-! ### o[i] = v: a cell's thing written -/
/-- what a store makes of a cell -/
def gSt (o : SO → Val → Val → Option SO) (fo fi : Fe) : Fg := fun z env st => match fo env st with
  | .ok (.loc l) st1 => match fi env st1 with
    | .ok y st2 => match st2[l]?, y.val st2, z with
      | some so, some k, .v x => match o so k x with
        | some so' => .nx env (st2.set l so')
        | none => .bad
      | _, _, _ => .bad
    | _ => .bad
  | _ => .bad
def SetM (X : Cx) (G : Gc) (t : V → V → V → Hp → (Hp → Prop) → Prop) (o : SO → Val → Val → Option SO) : Prop :=
  ∀ (H : Hp) (P : Ts) (ρ : Rho) (st : Sto) (l : Nat) (a : Addr) (so so' : SO) (y z : V) (k x : Val) (Q : Hp → Prop), RepS G H P ρ st → ρ[l]? = some (some a) → st[l]? = some so → Now G H (TP P ρ) k y → RepV G H (TP P ρ) x z → o so k x = some so' →
    (∀ H', Kp (Tr ρ) H (Tr ρ) H' → RepS G H' P ρ (st.set l so') → Q H') → t (.ref a) y z H Q
theorem eg_sub {o i : Expr} {tset : TSet} {os : SO → Val → Val → Option SO} (ho : EE L X (fun _ _ _ _ => False) o fo) (hi : EE L X (fun _ _ _ _ => False) i fi) (hs : PSet X tset) (hm : SetM X (gx L X) tset os)
    (ha : ∀ v, assign (.Subscript o i pos) X.env v = (do
      let ov ← holding [v] (eval o X.env)
      let iv ← holding [v, ov] (eval i X.env)
      standAt pos
      holding [v, ov, iv] (setItem ov iv v)
      release [v, ov, iv] []) := by intro _; rfl) : EG L X [] n (.Subscript o i pos) (gSt os fo fi) := by
  refine PG.weak (pg_sub ho hi hs ha) fun v σ H Q ⟨env, st, ρ, P, z, re, rs, rz, p⟩ => ⟨env, st, ρ, P, re, rs, ?_⟩
  unfold gSt at p
  cases h1 : fo env st with
  | bad => rw [h1] at p; exact p
  | exc e s => rw [h1] at p; exact p.elim
  | ok zo st1 =>
    rw [h1] at p
    intro ov H1 k1 rs1 rx1
    cases rx1 with
    | v _ => exact p.elim
    | fl _ _ _ _ _ => exact p.elim
    | fdK _ _ _ _ _ => exact p.elim
    | fdT _ _ _ _ _ => exact p.elim
    | @loc l a ql =>
      refine ⟨env, st1, ρ, P, re.ext k1 rs, rs1, ?_⟩
      cases h2 : fi env st1 with
      | bad => simp only [h2] at p; exact p
      | exc e s => simp only [h2] at p; exact p.elim
      | ok y st2 =>
        simp only [h2] at p
        intro iv H2 k2 rs2 rx2
        cases e1 : st2[l]? with
        | none => simp only [e1] at p; exact p.elim
        | some so =>
          cases e2 : y.val st2 with
          | none => simp only [e1, e2] at p; exact p.elim
          | some kk =>
            cases rz with
            | loc _ => simp only [e1, e2] at p; exact p.elim
            | @v x _ r =>
              simp only [e1, e2] at p
              cases e3 : os so kk x with
              | none => simp only [e3] at p; exact p.elim
              | some so' =>
                simp only [e3] at p
                refine hm H2 P ρ st2 l a so so' iv v kk x _ rs2 ql e1 (rx2.now rs2 e2) ((r.ext k1.tp rs.nt).ext k2.tp rs1.nt) e3 fun H3 k3 rs3 => ?_
                exact p σ H3 ρ (.of ((k1.trans k2).trans k3)) rs3 (((re.ext k1 rs).ext k2 rs1).ext k3 rs2)
/-- one target -/
def sAsg (fa : Fe) (g : Fg) : Fs := fun env st => (fa env st).toS env fun z st1 => match z.froz with
  | .v x => (match g (.v x) env st1 with
    | .nx env' st' => .nx env' st'
    | _ => .bad)
  | _ => .bad
theorem es_asg (ha : EE L X W e fa) (hg : EG L X [] n t g) (hs : swapsWithSole [t] e pos.line X.env = pure false := by rfl) (hw : swappedStores [t] e X.env = pure none := by rfl)
    (h1 : (assignEach [t] X.env).map (·.2) = [assign t X.env] := by rfl) : ES L X W [] n (.Assign [t] e pos) (sAsg fa g) := by
  refine PS.weak (ps_asg ha hg hs hw h1) fun D σ H ⟨env, st, ρ, P, re, rs, p⟩ => ⟨env, st, ρ, P, re, rs, Post.thenS re rs p fun z st1 v H1 k rs1 rx p => ?_⟩
  have rz := rx.z
  cases h : z.froz with
  | v x =>
    rw [h] at rz
    simp only [h] at p
    refine ⟨env, st1, ρ, P, .v x, re.ext k rs, rs1, rz, ?_⟩
    cases h2 : g (.v x) env st1 with
    | nx en s => rw [h2] at p; exact p
    | rt _ _ => rw [h2] at p; exact p.elim
    | exc _ _ _ => rw [h2] at p; exact p.elim
    | bad => rw [h2] at p; exact p.elim
  | loc l => simp only [h] at p; exact p.elim
  | fl l => simp only [h] at p; exact p.elim
  | fd l => simp only [h] at p; exact p.elim
end
end Eng

namespace Eng
open PySem PySem.Spec PyProof.Rows L2

/-! ### what is walked -/
inductive Src where
  | seq (xs : List Val) | cell (l : Nat)
abbrev Fi := Env → Sto → Rv Src
/-- the walk gives these, from the heap H0 on -/
def WalkS (G : Gc) (P0 : Ts) (ρ0 : Rho) (H0 : Hp) (J : It) (xs : List Val) : Prop :=
  ∀ (i : Nat) (H : Hp) (P : Ts) (ρ : Rho) (st : Sto), Kp (TP P0 ρ0) H0 (TP P ρ) H → RepS G H P ρ st →
    (∀ x, xs[i]? = some x → J.go i H ∧ ∀ v H', J.yld i H v H' → Kp (Tr ρ) H (Tr ρ) H' ∧ RepS G H' P ρ st ∧ RepV G H' (TP P ρ) x v) ∧ (xs.length ≤ i → J.stop i H)
def WalkC (G : Gc) (ρ0 : Rho) (J : It) (l : Nat) : Prop :=
  ∀ (i : Nat) (H : Hp) (P : Ts) (ρ : Rho) (st : Sto) (ys : List Val), ρ[l]? = ρ0[l]? → RepS G H P ρ st → st[l]? = some (.lst ys) →
    (∀ x, ys[i]? = some x → J.go i H ∧ ∀ v H', J.yld i H v H' → Kp (Tr ρ) H (Tr ρ) H' ∧ RepS G H' P ρ st ∧ RepV G H' (TP P ρ) x v) ∧ (ys.length ≤ i → J.stop i H)
def Walk (G : Gc) (P0 : Ts) (ρ0 : Rho) (H0 : Hp) (J : It) : Src → Prop
  | .seq xs => WalkS G P0 ρ0 H0 J xs
  | .cell l => WalkC G ρ0 J l
def PostI (G : Gc) (W : WX) (σ : L2.St) (P : Ts) (ρ : Rho) (H : Hp) (r : Rv Src) (R : It → Hp → Prop) : Prop := match r with
  | .ok s st' => ∀ J H', Kp (Tr ρ) H (Tr ρ) H' → RepS G H' P ρ st' → Walk G P ρ H' J s → R J H'
  | .exc e st' => ∀ cls d H', Kp (Tr ρ) H (Tr ρ) H' → RepS G H' P ρ st' → RepEx G H' e cls d → W cls d σ H'
  | .bad => False
def TIm (G : Gc) (W : WX) (f : Fi) : TI := fun σ H R => ∃ env st ρ P, RepE G H P ρ env σ ∧ RepS G H P ρ st ∧ PostI G W σ P ρ H (f env st) R
abbrev EI (L : Lx) (X : Cx) (W : WX) (tg e : Expr) (f : Fi) : Prop := PI X tg e (TIm (gx L X) W f)
/-- read as a sequence: a tuple, a text, a frozen list, a cell's list -/
def srcOf : SV → Sto → Option Src
  | .v (.tup xs), _ => some (.seq xs)
  | .v (.lst xs), _ => some (.seq xs)
  | .v (.str s), _ => some (.seq (s.map fun c => .str [c]))
  | .fl xs, _ => some (.seq xs)
  | .loc l, st => match st[l]? with
    | some (.lst _) => some (.cell l)
    | _ => none
  | _, _ => none
def iTupF (fa : Fe) : Fi := fun env st => (fa env st).bind fun z st1 => match z with
  | .v (.tup xs) => .ok (.seq xs) st1
  | _ => .bad
def iStrF (fa : Fe) : Fi := fun env st => (fa env st).bind fun z st1 => match z with
  | .v (.str s) => .ok (.seq (s.map fun c => .str [c])) st1
  | _ => .bad
def iLstF (fa : Fe) : Fi := fun env st => (fa env st).bind fun z st1 => match z with
  | .v (.lst xs) => .ok (.seq xs) st1
  | .fl xs => .ok (.seq xs) st1
  | .loc l => (match st1[l]? with
    | some (.lst _) => .ok (.cell l) st1
    | _ => .bad)
  | _ => .bad
def rngI (lo : Int) (n : Nat) : List Val := (List.range n).map fun k : Nat => .int (lo + (k : Int))
def rngC (lo c : Int) (n : Nat) : List Val := (List.range n).map fun k : Nat => .int (lo + (k : Int) * c)
def small (i : Int) : Bool := decide (-1000000 ≤ i) && decide (i ≤ 1000000)
def iRng1F (fa : Env → Sto → Rv (List SV)) : Fi := fun env st => (fa env st).bind fun zs st1 => match zs with
  | [.v (.int j)] => if small j = true then .ok (.seq (rngI 0 j.toNat)) st1 else .bad
  | _ => .bad
def iRng2F (fa : Env → Sto → Rv (List SV)) : Fi := fun env st => (fa env st).bind fun zs st1 => match zs with
  | [.v (.int i), .v (.int j)] => if (small i && small j) = true then .ok (.seq (rngI i (j - i).toNat)) st1 else .bad
  | _ => .bad
/-- range(i, j, c), c above 0 -/
def rngLen (i j c : Int) : Nat := if i < j then ((j - i - 1) / c + 1).toNat else 0
def iRng3F (fa : Env → Sto → Rv (List SV)) : Fi := fun env st => (fa env st).bind fun zs st1 => match zs with
  | [.v (.int i), .v (.int j), .v (.int c)] => if (small i && small j && small c && decide (0 < c)) = true then .ok (.seq (rngC i c (rngLen i j c))) st1 else .bad
  | _ => .bad
/-- zip(a, b) of two tuples, two lists -/
def zipV : List Val → List Val → List Val
  | x :: xs, y :: ys => .tup [x, y] :: zipV xs ys
  | _, _ => []
def iZipTF (fa : Env → Sto → Rv (List SV)) : Fi := fun env st => (fa env st).bind fun zs st1 => match zs with
  | [.v (.tup xs), .v (.tup ys)] => .ok (.seq (zipV xs ys)) st1
  | _ => .bad
def iZipLF (fa : Env → Sto → Rv (List SV)) : Fi := fun env st => (fa env st).bind fun zs st1 => match zs with
  | [.v (.lst xs), .v (.lst ys)] => .ok (.seq (zipV xs ys)) st1
  | _ => .bad

section
variable {G : Gc} {H H0 H1 H2 H' : Hp} {ρ ρ0 ρ1 ρ' : Rho} {T P P0 : Ts} {st st' : Sto}
theorem RepVs.len : ∀ {xs : List Val} {vs : List V}, RepVs G H T xs vs → xs.length = vs.length
  | _, _, .nil => rfl
  | _, _, .cons _ t => congrArg (· + 1) (RepVs.len t)
theorem RepVs.get : ∀ {xs : List Val} {vs : List V} {i : Nat} {x : Val}, RepVs G H T xs vs → xs[i]? = some x → ∃ v, vs[i]? = some v ∧ RepV G H T x v
  | _, _, _, _, .nil, e => by simp at e
  | _, _, 0, _, .cons r _, e => by simp at e; subst e; exact ⟨_, rfl, r⟩
  | _, _, i + 1, _, .cons _ t, e => by
    obtain ⟨v, h1, h2⟩ := RepVs.get (i := i) t (by simpa using e)
    exact ⟨v, by simpa using h1, h2⟩
theorem low_vs {a : Addr} (rp : RepS G H (Plus P a) ρ st) {xs : List Val} {vs : List V} (r : RepVs G H (TP (Plus P a) ρ) xs vs) : RepVs G H (TP P ρ) xs vs := r.ext kp_drop rp.nt
theorem walk_tup {K : PySem.W.Frag} (hK : G.K = K) {a : Addr} {xs : List Val} {vs : List V} (nt : NoTup H0 (TP P0 ρ0)) (h : H0 a = some (.tup vs)) (r : RepVs G H0 (TP P0 ρ0) xs vs) : WalkS G P0 ρ0 H0 (Itt K a) xs := by
  subst hK
  intro i H P ρ st k rs
  have hq := k.sqT (G := G) nt (.inl (.inl h))
  have hr := RepVs.ext k nt r
  refine ⟨fun x hx => ?_, fun hl => ⟨vs, hq, by rw [← hr.len]; exact hl⟩⟩
  obtain ⟨v, e, rv⟩ := hr.get hx
  refine ⟨⟨vs, v, hq, e⟩, fun u H' y => ?_⟩
  obtain ⟨rfl, hy⟩ := y
  rw [hy vs hq] at e; cases e
  exact ⟨Kp.refl, rs, rv⟩
theorem walk_lst {K : PySem.W.Frag} {a : Addr} {xs : List Val} {vs : List V} (nt : NoTup H0 (TP P0 ρ0)) (h : H0 a = some (.lst vs)) (ha : ¬ TP P0 ρ0 a) (r : RepVs G H0 (TP P0 ρ0) xs vs) : WalkS G P0 ρ0 H0 (Itl K a) xs := by
  intro i H P ρ st k rs
  have hq : SqL K H a vs := .inl (.inl (k.keep _ _ ha h (by intros; simp)))
  have hr := RepVs.ext k nt r
  refine ⟨fun x hx => ?_, fun hl => ⟨vs, hq, by rw [← hr.len]; exact hl⟩⟩
  obtain ⟨v, e, rv⟩ := hr.get hx
  refine ⟨⟨vs, v, hq, e⟩, fun u H' y => ?_⟩
  obtain ⟨rfl, hy⟩ := y
  rw [hy vs hq] at e; cases e
  exact ⟨Kp.refl, rs, rv⟩
theorem walk_cell {K : PySem.W.Frag} {a : Addr} {l : Nat} (h : ρ0[l]? = some (some a)) : WalkC G ρ0 (Itl K a) l := by
  intro i H P ρ st ys hl rs hy
  rw [h] at hl
  obtain ⟨o, e, ro⟩ := rs.obj l a hl
  rw [hy] at e; cases e
  cases ro with
  | @lst _ vs _ ha r =>
    have hq : SqL K H a vs := .inl (.inl ha)
    refine ⟨fun x hx => ?_, fun hl => ⟨vs, hq, by rw [← r.len]; exact hl⟩⟩
    obtain ⟨v, e, rv⟩ := r.get hx
    refine ⟨⟨vs, v, hq, e⟩, fun u H' y => ?_⟩
    obtain ⟨rfl, hy⟩ := y
    rw [hy vs hq] at e; cases e
    exact ⟨Kp.refl, rs, rv⟩
theorem sok_one {s : List Nat} {i c : Nat} (h : SOk s = true) (e : s[i]? = some c) : SOk [c] = true := by
  unfold SOk at h ⊢
  simp only [Bool.and_eq_true, List.all_eq_true, decide_eq_true_eq] at h ⊢
  exact ⟨by simp, fun x hx => by
    have : x = c := by simpa using hx
    subst this
    exact h.2 x (List.mem_of_getElem? e)⟩
theorem walk_str (s : List Nat) (hs : SOk s = true) : WalkS G P0 ρ0 H0 (Its (toS s)) (s.map fun c => .str [c]) := by
  intro i H P ρ st k rs
  refine ⟨fun x hx => ?_, fun hl => by show s.length ≤ i; simpa using hl⟩
  rw [List.getElem?_map] at hx
  cases q : s[i]? with
  | none => rw [q] at hx; cases hx
  | some c =>
    rw [q] at hx; cases hx
    have hi : i < s.length := (List.getElem?_eq_some_iff.mp q).1
    refine ⟨by simpa [Its] using hi, fun u H' y => ?_⟩
    obtain ⟨rfl, c', e, rfl⟩ := y
    have e : s[i]? = some c' := by simpa using e
    rw [q] at e; cases e
    exact ⟨Kp.refl, rs, .str [c] (sok_one hs q)⟩
theorem walk_rng (lo : Int) (n : Nat) : WalkS G P0 ρ0 H0 (Itr lo n) (rngI lo n) := by
  intro i H P ρ st k rs
  refine ⟨fun x hx => ?_, fun hl => by show n ≤ i; simpa [rngI] using hl⟩
  unfold rngI at hx
  rw [List.getElem?_map] at hx
  by_cases hi : i < n
  · rw [List.getElem?_range hi] at hx; cases hx
    refine ⟨hi, fun u H' y => ?_⟩
    obtain ⟨rfl, rfl⟩ := y
    exact ⟨Kp.refl, rs, .int _⟩
  · rw [List.getElem?_eq_none (by simpa using hi)] at hx; cases hx
theorem walk_rngC (lo c : Int) (n : Nat) : WalkS G P0 ρ0 H0 (Itc lo c n) (rngC lo c n) := by
  intro i H P ρ st k rs
  refine ⟨fun x hx => ?_, fun hl => by show n ≤ i; simpa [rngC] using hl⟩
  unfold rngC at hx
  rw [List.getElem?_map] at hx
  by_cases hi : i < n
  · rw [List.getElem?_range hi] at hx; cases hx
    refine ⟨hi, fun u H' y => ?_⟩
    obtain ⟨rfl, rfl⟩ := y
    exact ⟨Kp.refl, rs, .int _⟩
  · rw [List.getElem?_eq_none (by simpa using hi)] at hx; cases hx
theorem zipV_get : ∀ {xs ys : List Val} {i : Nat} {z : Val}, (zipV xs ys)[i]? = some z → ∃ x y, xs[i]? = some x ∧ ys[i]? = some y ∧ z = .tup [x, y]
  | x :: xs, y :: ys, 0, z, h => by simp [zipV] at h; exact ⟨x, y, rfl, rfl, h.symm⟩
  | x :: xs, y :: ys, i + 1, z, h => by
    obtain ⟨a, b, h1, h2, h3⟩ := zipV_get (xs := xs) (ys := ys) (i := i) (by simpa [zipV] using h)
    exact ⟨a, b, by simpa using h1, by simpa using h2, h3⟩
  | [], _, _, _, h => by simp [zipV] at h
  | _ :: _, [], _, _, h => by simp [zipV] at h
theorem zipV_len : ∀ (xs ys : List Val), (zipV xs ys).length = min xs.length ys.length
  | x :: xs, y :: ys => by simp only [zipV, List.length_cons, zipV_len xs ys]; omega
  | [], _ => by simp [zipV]
  | _ :: _, [] => by simp [zipV]
theorem yield_pair {T : Addr} {x y : Val} {v u : V} (rs : RepS G H P ρ st) (hT : H T = none) (rx : RepV G H (TP P ρ) x v) (ry : RepV G H (TP P ρ) y u) :
    Kp (Tr ρ) H (Tr ρ) (upd H T (.tup [v, u])) ∧ RepS G (upd H T (.tup [v, u])) P ρ st ∧ RepV G (upd H T (.tup [v, u])) (TP P ρ) (.tup [x, y]) (.ref T) := by
  have k : Kp (Tr ρ) H (Tr ρ) (upd H T (.tup [v, u])) := kp_new hT
  exact ⟨k, rs.fresh hT, .tup upd_same (.cons (rx.ext k.tp rs.nt) (.cons (ry.ext k.tp rs.nt) .nil))⟩
theorem walk_zipT {K : PySem.W.Frag} (hK : G.K = K) {a b : Addr} {xs ys : List Val} {vs us : List V} (nt : NoTup H0 (TP P0 ρ0)) (h : H0 a = some (.tup vs)) (r : RepVs G H0 (TP P0 ρ0) xs vs) (h' : H0 b = some (.tup us)) (r' : RepVs G H0 (TP P0 ρ0) ys us) :
    WalkS G P0 ρ0 H0 (RZ.ItzT K a b) (zipV xs ys) := by
  subst hK
  intro i H P ρ st k rs
  have hq := k.sqT (G := G) nt (.inl (.inl h))
  have hr := RepVs.ext k nt r
  have hq' := k.sqT (G := G) nt (.inl (.inl h'))
  have hr' := RepVs.ext k nt r'
  refine ⟨fun z hz => ?_, fun hl => ⟨vs, us, hq, hq', by rw [← hr.len, ← hr'.len]; rw [zipV_len] at hl; omega⟩⟩
  obtain ⟨x, y, hx, hy, rfl⟩ := zipV_get hz
  obtain ⟨v, e, rv⟩ := hr.get hx
  obtain ⟨u, e', rv'⟩ := hr'.get hy
  refine ⟨⟨vs, us, v, u, hq, hq', e, e'⟩, fun w H' q => ?_⟩
  obtain ⟨T, v', u', rfl, hT, rfl, f1, f2⟩ := q
  rw [f1 vs hq] at e; cases e
  rw [f2 us hq'] at e'; cases e'
  exact yield_pair rs hT rv rv'
theorem walk_zipL {K : PySem.W.Frag} {a b : Addr} {xs ys : List Val} {vs us : List V} (nt : NoTup H0 (TP P0 ρ0)) (h : H0 a = some (.lst vs)) (ha : ¬ TP P0 ρ0 a) (r : RepVs G H0 (TP P0 ρ0) xs vs) (h' : H0 b = some (.lst us)) (hb : ¬ TP P0 ρ0 b) (r' : RepVs G H0 (TP P0 ρ0) ys us) :
    WalkS G P0 ρ0 H0 (Itz K a b) (zipV xs ys) := by
  intro i H P ρ st k rs
  have hq : SqL K H a vs := .inl (.inl (k.keep _ _ ha h (by intros; simp)))
  have hr := RepVs.ext k nt r
  have hq' : SqL K H b us := .inl (.inl (k.keep _ _ hb h' (by intros; simp)))
  have hr' := RepVs.ext k nt r'
  refine ⟨fun z hz => ?_, fun hl => ⟨vs, us, hq, hq', by rw [← hr.len, ← hr'.len]; rw [zipV_len] at hl; omega⟩⟩
  obtain ⟨x, y, hx, hy, rfl⟩ := zipV_get hz
  obtain ⟨v, e, rv⟩ := hr.get hx
  obtain ⟨u, e', rv'⟩ := hr'.get hy
  refine ⟨⟨vs, us, v, u, hq, hq', e, e'⟩, fun w H' q => ?_⟩
  obtain ⟨T, v', u', rfl, hT, rfl, f1, f2⟩ := q
  rw [f1 vs hq] at e; cases e
  rw [f2 us hq'] at e'; cases e'
  exact yield_pair rs hT rv rv'
end
theorem Post.thenI {G : Gc} {W : WX} {σ : L2.St} {H : Hp} {ρ : Rho} {P : Ts} {r : Rv SV} {f : SV → Sto → Rv Src} {R : It → Hp → Prop} {Q' : VK} (p : PostI G W σ P ρ H (r.bind f) R) (w : ∀ z st1 v H1, Kp (Tr ρ) H (Tr ρ) H1 → RepS G H1 P ρ st1 → RepX G H H1 P ρ st1 z v → PostI G W σ P ρ H1 (f z st1) R → Q' v H1) : Post G W σ P ρ H r Q' := by
  cases r with
  | ok z st1 =>
    refine fun v H1 k rs rx => w z st1 v H1 k rs rx ?_
    have p : PostI G W σ P ρ H (f z st1) R := p
    cases h : f z st1 with
    | ok s st' => rw [h] at p; exact fun J H' k' rs' wk => p J H' (k.trans k') rs' wk
    | exc e st' => rw [h] at p; exact fun c d H' k' rs' r => p c d H' (k.trans k') rs' r
    | bad => rw [h] at p; exact p
  | exc e st1 => exact p
  | bad => exact p
theorem PostA.thenI {G : Gc} {W : WX} {σ : L2.St} {H : Hp} {ρ : Rho} {P : Ts} {r : Rv (List SV)} {f : List SV → Sto → Rv Src} {R : It → Hp → Prop} {Q' : List V → Hp → Prop} (p : PostI G W σ P ρ H (r.bind f) R) (w : ∀ z st1 v H1, Kp (Tr ρ) H (Tr ρ) H1 → RepS G H1 P ρ st1 → RepZs G H1 P ρ z v → PostI G W σ P ρ H1 (f z st1) R → Q' v H1) : PostA G W σ P ρ H r Q' := by
  cases r with
  | ok z st1 =>
    refine fun v H1 k rs rx => w z st1 v H1 k rs rx ?_
    have p : PostI G W σ P ρ H (f z st1) R := p
    cases h : f z st1 with
    | ok s st' => rw [h] at p; exact fun J H' k' rs' wk => p J H' (k.trans k') rs' wk
    | exc e st' => rw [h] at p; exact fun c d H' k' rs' r => p c d H' (k.trans k') rs' r
    | bad => rw [h] at p; exact p
  | exc e st1 => exact p
  | bad => exact p
section
variable {L : Lx} {X : Cx} {W : WX} {tg a b c e : Expr} {fa fb fc : Fe} {fr : Env → Sto → Rv (List SV)} {pos p : Pos}
theorem ei_tup (ha : EE L X W e fa) : EI L X W tg e (iTupF fa) := by
  refine PI.weak (pi_tup ha) fun σ H R ⟨env, st, ρ, P, re, rs, p⟩ => ⟨env, st, ρ, P, re, rs, Post.thenI p fun z st1 v H1 k rs1 rx p => ?_⟩
  cases rx with
  | v r =>
    cases r with
    | tup h r => exact ⟨_, rfl, ⟨_, .inl (.inl h)⟩, p _ H1 Kp.refl rs1 (walk_tup rfl rs1.nt h r)⟩
    | _ => exact p.elim
  | _ => exact p.elim
theorem ei_str (ha : EE L X W e fa) : EI L X W tg e (iStrF fa) := by
  refine PI.weak (pi_str ha) fun σ H R ⟨env, st, ρ, P, re, rs, p⟩ => ⟨env, st, ρ, P, re, rs, Post.thenI p fun z st1 v H1 k rs1 rx p => ?_⟩
  cases rx with
  | v r =>
    cases r with
    | str s h => exact ⟨_, rfl, p _ H1 Kp.refl rs1 (walk_str s h)⟩
    | _ => exact p.elim
  | _ => exact p.elim
theorem ei_lst (ha : EE L X W e fa) : EI L X W tg e (iLstF fa) := by
  refine PI.weak (pi_list ha) fun σ H R ⟨env, st, ρ, P, re, rs, p⟩ => ⟨env, st, ρ, P, re, rs, Post.thenI p fun z st1 v H1 k rs1 rx p => ?_⟩
  cases rx with
  | v r =>
    cases r with
    | lst h nt r => exact ⟨_, rfl, ⟨_, .inl (.inl h)⟩, p _ H1 Kp.refl rs1 (walk_lst rs1.nt h nt r)⟩
    | _ => exact p.elim
  | fl h n0 r rp np => exact ⟨_, rfl, ⟨_, .inl (.inl h)⟩, p _ H1 Kp.refl rs1 (walk_lst rs1.nt h (fun t => t.elim np (rp.apart _ (.inr rfl))) (low_vs rp r))⟩
  | fdK _ _ _ _ _ => exact p.elim
  | fdT _ _ _ _ _ => exact p.elim
  | @loc l a q =>
    obtain ⟨o, e, ro⟩ := rs1.obj l a q
    cases ro with
    | lst h r => simp only [e] at p; exact ⟨_, rfl, ⟨_, .inl (.inl h)⟩, p _ H1 Kp.refl rs1 (walk_cell q)⟩
    | dicK h r => simp only [e] at p; exact p.elim
    | dicT h r => simp only [e] at p; exact p.elim
theorem small_bd {i : Int} (h : small i = true) : -(2 ^ 62) ≤ i ∧ i < 2 ^ 62 := by
  unfold small at h
  simp only [Bool.and_eq_true, decide_eq_true_eq] at h
  omega
theorem ei_rng1 (hg : Gl X "range") (hm : X.mg "range" = none) (ha : EA L X W [a] fr) (hs : starEach [a] X.env = [(false, eval a X.env)] := by rfl) : EI L X W tg (.Call (.Name "range" p) [a] [] pos) (iRng1F fr) := by
  refine PI.weak (pi_range1 hg hm ha hs) fun σ H R ⟨env, st, ρ, P, re, rs, p⟩ => ⟨env, st, ρ, P, re, rs, PostA.thenI p fun z st1 v H1 k rs1 rx p => ?_⟩
  split at p
  · rename_i j
    split at p
    · rename_i hj
      have b := small_bd hj
      cases rx with
      | cons r t => cases t; cases r with
        | v r => cases r; exact ⟨j, rfl, b.1, b.2, p _ H1 Kp.refl rs1 (walk_rng 0 _)⟩
    · exact p.elim
  · exact p.elim
theorem ei_rng2 (hg : Gl X "range") (hm : X.mg "range" = none) (ha : EA L X W [a, b] fr) (hs : starEach [a, b] X.env = [(false, eval a X.env), (false, eval b X.env)] := by rfl) (hs2 : starEach [b] X.env = [(false, eval b X.env)] := by rfl) : EI L X W tg (.Call (.Name "range" p) [a, b] [] pos) (iRng2F fr) := by
  refine PI.weak (pi_range2 hg hm ha hs hs2) fun σ H R ⟨env, st, ρ, P, re, rs, p⟩ => ⟨env, st, ρ, P, re, rs, PostA.thenI p fun z st1 v H1 k rs1 rx p => ?_⟩
  split at p
  · rename_i i j
    split at p
    · rename_i hj
      rw [Bool.and_eq_true] at hj
      have b := small_bd hj.1
      have b' := small_bd hj.2
      cases rx with
      | cons r t => cases t with
        | cons r' t => cases t; cases r with
          | v r => cases r; cases r' with
            | v r' => cases r'; exact ⟨i, j, rfl, ⟨b.1, b.2, b'.1, b'.2⟩, p _ H1 Kp.refl rs1 (walk_rng i _)⟩
    · exact p.elim
  · exact p.elim
theorem rgC_of {i j c : Int} (hi : small i = true) (hj : small j = true) (hc : small c = true) (h0 : 0 < c) : RgC i j c (rngLen i j c) := by
  unfold small at hi hj hc
  simp only [Bool.and_eq_true, decide_eq_true_eq] at hi hj hc
  have sz : Builtin.Range.rangeSize i j c = ((rngLen i j c : Nat) : Int) := by
    unfold Builtin.Range.rangeSize rngLen
    rw [if_pos h0]
    split
    · have : 0 ≤ (j - i - 1) / c := Int.ediv_nonneg (by omega) (by omega)
      omega
    · rfl
  have up : Builtin.Range.rangeSize i j c ≤ 2000001 := by
    unfold Builtin.Range.rangeSize
    rw [if_pos h0]
    split
    · have : (j - i - 1) / c ≤ j - i - 1 := Int.ediv_le_self _ (by omega)
      omega
    · omega
  have dn : 0 ≤ Builtin.Range.rangeSize i j c := by rw [sz]; exact Int.natCast_nonneg _
  refine ⟨by omega, by omega, ?_, sz⟩
  unfold Builtin.Range.small
  have f : ∀ x : Int, -100000000 ≤ x → x ≤ 100000000 → Builtin.Range.rangeFitsLong x = true := fun x h1 h2 => by
    unfold Builtin.Range.rangeFitsLong
    simp only [Bool.and_eq_true, decide_eq_true_eq]
    omega
  simp only [f i (by omega) (by omega), f j (by omega) (by omega), f c (by omega) (by omega), f _ (by omega : -100000000 ≤ Builtin.Range.rangeSize i j c) (by omega), f (j + (c - 1)) (by omega) (by omega), if_pos (show c > 0 from h0), Bool.true_and, Bool.and_true, Bool.or_true]
theorem ei_rng3 (hg : Gl X "range") (hm : X.mg "range" = none) (ha : EA L X W [a, b, c] fr) (hs : starEach [a, b, c] X.env = (false, eval a X.env) :: starEach [b, c] X.env := by rfl) (hpl : (backTo pos (starEach [b, c] X.env)).any (·.1) = false := by rfl) : EI L X W tg (.Call (.Name "range" p) [a, b, c] [] pos) (iRng3F fr) := by
  refine PI.weak (pi_range3 hg hm ha hs hpl) fun σ H R ⟨env, st, ρ, P, re, rs, p⟩ => ⟨env, st, ρ, P, re, rs, PostA.thenI p fun z st1 v H1 k rs1 rx p => ?_⟩
  split at p
  · rename_i i j c'
    split at p
    · rename_i hj
      simp only [Bool.and_eq_true, decide_eq_true_eq] at hj
      cases rx with
      | cons r t => cases t with
        | cons r' t => cases t with
          | cons r2 t => cases t; cases r with
            | v r => cases r; cases r' with
              | v r' => cases r'; cases r2 with
                | v r2 => cases r2; exact ⟨i, j, c', _, rfl, rgC_of hj.1.1.1 hj.1.1.2 hj.1.2 hj.2, p _ H1 Kp.refl rs1 (walk_rngC i c' _)⟩
    · exact p.elim
  · exact p.elim
theorem ei_zipT {elts : List Expr} {kk : Nat} {tpos : Pos} (hg : Gl X "zip") (hm : X.mg "zip" = none) (ha : EA L X W [a, b] fr) (hs : starEach [a, b] X.env = (false, eval a X.env) :: starEach [b] X.env := by rfl) (hpl : (backTo pos (starEach [b] X.env)).any (·.1) = false := by rfl) : EI L X W (.Tuple elts kk tpos) (.Call (.Name "zip" p) [a, b] [] pos) (iZipTF fr) := by
  refine PI.weak (RZ.pi_zipA hg hm ha hs hpl) fun σ H R ⟨env, st, ρ, P, re, rs, p⟩ => ⟨env, st, ρ, P, re, rs, PostA.thenI p fun z st1 v H1 k rs1 rx p => ?_⟩
  split at p
  · cases rx with
    | cons r t => cases t with
      | cons r' t => cases t; cases r with
        | v r => cases r with
          | tup h r => cases r' with
            | v r' => cases r' with
              | tup h' r' => exact ⟨_, _, _, _, rfl, .inr ⟨.inl (.inl h), .inl (.inl h'), p _ H1 Kp.refl rs1 (walk_zipT rfl rs1.nt h r h' r')⟩⟩
  · exact p.elim
theorem ei_zipL {elts : List Expr} {kk : Nat} {tpos : Pos} (hg : Gl X "zip") (hm : X.mg "zip" = none) (ha : EA L X W [a, b] fr) (hs : starEach [a, b] X.env = (false, eval a X.env) :: starEach [b] X.env := by rfl) (hpl : (backTo pos (starEach [b] X.env)).any (·.1) = false := by rfl) : EI L X W (.Tuple elts kk tpos) (.Call (.Name "zip" p) [a, b] [] pos) (iZipLF fr) := by
  refine PI.weak (RZ.pi_zipA hg hm ha hs hpl) fun σ H R ⟨env, st, ρ, P, re, rs, p⟩ => ⟨env, st, ρ, P, re, rs, PostA.thenI p fun z st1 v H1 k rs1 rx p => ?_⟩
  split at p
  · cases rx with
    | cons r t => cases t with
      | cons r' t => cases t; cases r with
        | v r => cases r with
          | lst h nt r => cases r' with
            | v r' => cases r' with
              | lst h' nt' r' => exact ⟨_, _, _, _, rfl, .inl ⟨.inl (.inl h), .inl (.inl h'), p _ H1 Kp.refl rs1 (walk_zipL rs1.nt h nt r h' nt' r')⟩⟩
  · exact p.elim
end
end Eng

namespace Eng
open PySem PySem.Spec PyProof.Rows L2

/-! ### patterns: a name, a tuple of names -/
inductive Pat where
  | n (i : Nat) | t (is : List Nat)
def bindP (p : Pat) (x : Val) (env : Env) : Option Env := match p with
  | .n i => some (env.set i (some (.v x)))
  | .t is => match x with
    | .tup xs => setAll env is (xs.map .v)
    | _ => none
def Pat.names : Pat → List Nat
  | .n i => [i]
  | .t is => is
def Wiped (is : List Nat) (σ σ' : L2.St) : Prop := ∀ ws : List Nat, (∀ i ∈ is, i ∈ ws) → wipe σ' ws = wipe σ ws
theorem wipe_set {σ : L2.St} {i : Nat} {o : Option V} : ∀ {ws : List Nat}, i ∈ ws → wipe (σ.set i o) ws = wipe σ ws
  | [], h => by simp at h
  | v :: ws, h => by
    by_cases e : i = v
    · subst e
      have key : ∀ ws : List Nat, (wipe (σ.set i o) ws).set i none = (wipe σ ws).set i none := fun ws => by
        induction ws with
        | nil => show (σ.set i o).set i none = σ.set i none; simp
        | cons w ws ih =>
          show ((wipe (σ.set i o) ws).set w none).set i none = ((wipe σ ws).set w none).set i none
          by_cases q : w = i
          · subst q; rw [ih]
          · rw [List.set_comm _ _ q, ih, List.set_comm _ _ (Ne.symm q)]
      exact key ws
    · show (wipe (σ.set i o) ws).set v none = (wipe σ ws).set v none
      rw [wipe_set ((List.mem_cons.mp h).resolve_left e)]
theorem wipe_wipe {σ : L2.St} : ∀ {vs ws : List Nat}, (∀ i ∈ vs, i ∈ ws) → wipe (wipe σ vs) ws = wipe σ ws
  | [], _, _ => rfl
  | v :: vs, ws, h => by
    show wipe ((wipe σ vs).set v none) ws = wipe σ ws
    rw [wipe_set (h v List.mem_cons_self), wipe_wipe fun i hi => h i (List.mem_cons_of_mem _ hi)]
def gNames : List Nat → TGs
  | [] => gNil
  | i :: is => gCons (gName i) (gNames is)
/-- how a pattern is stored -/
inductive EP1 (X : Cx) : Pat → TG → Prop
  | n {i : Nat} : EP1 X (.n i) (gName i)
  | t {is : List Nat} : EP1 X (.t is) (gTup X.K is.length (gNames is))
section
variable {G : Gc} {W : WX} {σ : L2.St} {H H0 H1 H2 H' : Hp} {ρ ρ1 ρ2 ρ' : Rho} {P : Ts} {env env' : Env} {st st' st1 st2 : Sto}
theorem gNames_ok {Q : L2.St → Hp → Prop} : ∀ {is : List Nat} {xs : List Val} {vs : List V} {env env' : Env} {σ : L2.St}, RepE G H P ρ env σ → RepVs G H (TP P ρ) xs vs → setAll env is (xs.map .v) = some env' →
    (∀ σ', RepE G H P ρ env' σ' → Wiped is σ σ' → Q σ' H) → gNames is vs σ H Q
  | [], [], [], env, env', σ, re, rv, h, q => by
    cases h
    exact ⟨rfl, q σ re fun ws _ => rfl⟩
  | [], _ :: _, _, _, _, _, _, _, h, _ => by cases h
  | [], [], _ :: _, _, _, _, _, rv, _, _ => by cases rv
  | i :: is, [], _, _, _, _, _, _, h, _ => by cases h
  | i :: is, x :: xs, v :: vs, env, env', σ, re, rv, h, q => by
    cases rv with
    | cons r t =>
      refine ⟨v, vs, rfl, ?_⟩
      show gNames is vs (σ.set i (some v)) H Q
      refine gNames_ok (re.set (.v r) i) t h fun σ' re' w => q σ' re' fun ws hw => ?_
      rw [w ws fun j hj => hw j (List.mem_cons_of_mem _ hj), wipe_set (hw i List.mem_cons_self)]
  | _ :: _, _ :: _, [], _, _, _, _, rv, _, _ => by cases rv
theorem pat_ok {X : Cx} {p : Pat} {g : TG} {L : Lx} {x : Val} {v : V} {Q : L2.St → Hp → Prop} (h : EP1 X p g) (re : RepE (gx L X) H P ρ env σ) (rv : RepV (gx L X) H (TP P ρ) x v) (hb : bindP p x env = some env')
    (q : ∀ σ', RepE (gx L X) H P ρ env' σ' → Wiped p.names σ σ' → Q σ' H) : g v σ H Q := by
  cases h with
  | @n i =>
    cases hb
    exact q _ (re.set (.v rv) i) fun ws hw => wipe_set (hw i List.mem_cons_self)
  | @t is =>
    cases rv with
    | tup hq r =>
      refine ⟨_, _, rfl, .inl (.inl hq), ?_, gNames_ok re r hb q⟩
      have : ∀ {is : List Nat} {zs : List SV} {env env' : Env}, setAll env is zs = some env' → zs.length = is.length := fun {is} => by
        induction is with
        | nil => intro zs _ _ h; cases zs with
          | nil => rfl
          | cons _ _ => cases h
        | cons i is ih => intro zs _ _ h; cases zs with
          | nil => cases h
          | cons z zs => exact congrArg (· + 1) (ih h)
      have l := this hb
      rw [List.length_map] at l
      rw [← r.len, l]
    | _ => cases hb
end

/-! ### for -/
def forSeq (bd : Val → Fs) : List Val → Fs
  | [], env, st => .nx env st
  | x :: r, env, st => (bd x env st).andThen (forSeq bd r)
def forCell (bd : Val → Fs) (l : Nat) : Nat → Nat → Fs
  | 0, _, _, _ => .bad
  | k + 1, i, env, st => match st[l]? with
    | some (.lst ys) => match ys[i]? with
      | none => .nx env st
      | some x => (bd x env st).andThen (forCell bd l k (i + 1))
    | _ => .bad
def fuelN : Nat := 100000
def sFor (fi : Fi) (p : Pat) (n : Nat) (B : List Nat) (body : Fs) : Fs := fun env st => match fi env st with
  | .ok (.seq xs) st1 => forSeq (fun x env st => match bindP p x env with | some env' => body env' st | none => .bad) xs env st1
  | .ok (.cell l) st1 => if n ≤ l ∧ (l - n) ∈ B then .bad else forCell (fun x env st => match bindP p x env with | some env' => body env' st | none => .bad) l fuelN 0 env st1
  | .exc e st1 => .exc e env st1
  | .bad => .bad
section
variable {L : Lx} {X : Cx} {W : WX} {tg iter : Expr} {fi : Fi} {p : Pat} {g : TG} {pos : Pos} {body : List Stmt} {fb : Fs} {B : List Nat} {n : Nat}
theorem es_for (hp : PassesOwn (model X.prog X.w) X.A X.env X.xe) (hc : X.calm = true) (hi : EI L X W tg iter fi) (hg : PG X tg g) (hpat : EP1 X p g) (hb : ESs L X W B n body fb) (hs : ∀ x, foldedSetIterable iter X.env x = pure x := by intro _; rfl) :
    ES L X W B n (.For tg iter body [] pos) (sFor fi p n B fb) := by
  refine PS.weak (ps_for hp hc hi hg hb hs) fun D σ H ⟨env, st, ρ, P, re, rs, q⟩ => ⟨env, st, ρ, P, re, rs, ?_⟩
  unfold sFor at q
  cases h : fi env st with
  | exc e st1 => rw [h] at q; exact fun c d H1 k rs1 rx => q c d σ H1 ρ (.of k) rs1 (re.ext k rs) rx
  | bad => rw [h] at q; exact q
  | ok s st1 =>
    rw [h] at q
    intro J H1 k1 rs1 wk
    have re1 := re.ext k1 rs
    -- one turn
    have turn : ∀ {x : Val} {env2 : Env} {σ2 : L2.St} {H2 : Hp} {ρ2 : Rho} {st2 : Sto} {nxt : Fs} {v : V} {H3 : Hp} {Nx : L2.St → Hp → Prop}, RepE (gx L X) H2 P ρ2 env2 σ2 → RepS (gx L X) H2 P ρ2 st2 →
        PostS (gx L X) W B n P ρ2 H2 (((match bindP p x env2 with | some env' => fb env' st2 | none => .bad) : Rs).andThen nxt) D → Kp (Tr ρ2) H2 (Tr ρ2) H3 → RepS (gx L X) H3 P ρ2 st2 → RepV (gx L X) H3 (TP P ρ2) x v →
        (∀ env' st' σ' H' ρ', ExtS B n ρ2 H2 ρ' H' → RepS (gx L X) H' P ρ' st' → RepE (gx L X) H' P ρ' env' σ' → PostS (gx L X) W B n P ρ' H' (nxt env' st') D → Nx σ' H') →
        g v σ2 H3 fun σ4 H4 => TSm (gx L X) W B n fb { D with nx := Nx, ct := Nx, bk := D.nx } σ4 H4 := fun {x env2 σ2 H2 ρ2 st2 nxt v H3 Nx} re2 rs2 q2 k3 rs3 rv w => by
      cases hb : bindP p x env2 with
      | none => rw [hb] at q2; exact q2.elim
      | some env' =>
        rw [hb] at q2
        refine pat_ok hpat (re2.ext k3 rs2) rv hb fun σ4 re4 _ => ⟨env', st2, ρ2, P, re4, rs3, ?_⟩
        exact (PostS.then (fun l h => h) (PostS.kp k3 q2) fun env5 st5 σ5 H5 ρ5 x5 rs5 re5 q5 => w env5 st5 σ5 H5 ρ5 ((ExtS.of k3).trans x5) rs5 re5 q5)
    cases s with
    | seq xs =>
      have q : PostS (gx L X) W B n P ρ H (forSeq (fun x env st => match bindP p x env with | some env' => fb env' st | none => .bad) xs env st1) D := q
      refine ⟨fun i m σ2 H2 => ∃ env2 st2 ρ2, m = xs.length - i ∧ ExtS B n ρ H1 ρ2 H2 ∧ RepE (gx L X) H2 P ρ2 env2 σ2 ∧ RepS (gx L X) H2 P ρ2 st2 ∧ PostS (gx L X) W B n P ρ2 H2 (forSeq (fun x env st => match bindP p x env with | some env' => fb env' st | none => .bad) (xs.drop i) env2 st2) D,
        ⟨xs.length, env, st1, ρ, rfl, .refl, re1, rs1, q.kp k1⟩, fun i m σ2 H2 hW => ?_⟩
      obtain ⟨env2, st2, ρ2, hm, x2, re2, rs2, q2⟩ := hW
      have w := wk i H2 P ρ2 st2 x2.kp.tp rs2
      by_cases hi : i < xs.length
      · have e1 : xs.drop i = xs[i] :: xs.drop (i + 1) := List.drop_eq_getElem_cons hi
        rw [e1] at q2
        obtain ⟨hgo, hy⟩ := w.1 xs[i] (List.getElem?_eq_getElem hi)
        refine .inr ⟨hgo, fun σ' H' => ∃ env' st' ρ', ExtS B n ρ H1 ρ' H' ∧ RepE (gx L X) H' P ρ' env' σ' ∧ RepS (gx L X) H' P ρ' st' ∧ PostS (gx L X) W B n P ρ' H' (forSeq (fun x env st => match bindP p x env with | some env' => fb env' st | none => .bad) (xs.drop (i + 1)) env' st') D, fun σ' H' hN => ?_, fun v H3 yy => ?_⟩
        · obtain ⟨env', st', ρ', a, b, c, d⟩ := hN
          exact ⟨xs.length - (i + 1), by omega, env', st', ρ', rfl, a, b, c, d⟩
        · obtain ⟨k3, rs3, rv⟩ := hy v H3 yy
          exact turn re2 rs2 q2 k3 rs3 rv fun env' st' σ' H' ρ' x' rs' re' q' => ⟨env', st', ρ', x2.trans x', re', rs', q'⟩
      · rw [List.drop_eq_nil_of_le (by omega)] at q2
        exact .inl ⟨w.2 (by omega), q2 σ2 H2 ρ2 .refl rs2 re2⟩
    | cell l =>
      have q : PostS (gx L X) W B n P ρ H (if n ≤ l ∧ (l - n) ∈ B then .bad else forCell (fun x env st => match bindP p x env with | some env' => fb env' st | none => .bad) l fuelN 0 env st1) D := q
      split at q
      · exact q.elim
      · rename_i hl
        have fix : ∀ {ρ2 : Rho} {H2 : Hp}, ExtS B n ρ H1 ρ2 H2 → ρ2[l]? = ρ[l]? := fun x => x.fix l fun j hj z => hl ⟨by omega, by rw [show l - n = j by omega]; exact hj⟩
        refine ⟨fun i m σ2 H2 => ∃ env2 st2 ρ2, ExtS B n ρ H1 ρ2 H2 ∧ RepE (gx L X) H2 P ρ2 env2 σ2 ∧ RepS (gx L X) H2 P ρ2 st2 ∧ PostS (gx L X) W B n P ρ2 H2 (forCell (fun x env st => match bindP p x env with | some env' => fb env' st | none => .bad) l m i env2 st2) D,
          ⟨fuelN, env, st1, ρ, .refl, re1, rs1, q.kp k1⟩, fun i m σ2 H2 hW => ?_⟩
        obtain ⟨env2, st2, ρ2, x2, re2, rs2, q2⟩ := hW
        cases m with
        | zero => exact q2.elim
        | succ m =>
          have q2 : PostS (gx L X) W B n P ρ2 H2 (match st2[l]? with
            | some (.lst ys) => match ys[i]? with
              | none => .nx env2 st2
              | some x => ((match bindP p x env2 with | some env' => fb env' st2 | none => .bad) : Rs).andThen (forCell (fun x env st => match bindP p x env with | some env' => fb env' st | none => .bad) l m (i + 1))
            | _ => .bad) D := q2
          cases hs : st2[l]? with
          | none => rw [hs] at q2; exact q2.elim
          | some o =>
            cases o with
            | dead => rw [hs] at q2; exact q2.elim
            | dic _ => rw [hs] at q2; exact q2.elim
            | lst ys =>
              rw [hs] at q2
              have w := wk i H2 P ρ2 st2 ys (fix x2) rs2 hs
              cases hx : ys[i]? with
              | none =>
                simp only [hx] at q2
                exact .inl ⟨w.2 (List.getElem?_eq_none_iff.mp hx), q2 σ2 H2 ρ2 .refl rs2 re2⟩
              | some x =>
                simp only [hx] at q2
                obtain ⟨hgo, hy⟩ := w.1 x hx
                refine .inr ⟨hgo, fun σ' H' => ∃ env' st' ρ', ExtS B n ρ H1 ρ' H' ∧ RepE (gx L X) H' P ρ' env' σ' ∧ RepS (gx L X) H' P ρ' st' ∧ PostS (gx L X) W B n P ρ' H' (forCell (fun x env st => match bindP p x env with | some env' => fb env' st | none => .bad) l m (i + 1) env' st') D, fun σ' H' hN => ?_, fun v H3 yy => ?_⟩
                · obtain ⟨env', st', ρ', a, b, c, d⟩ := hN
                  exact ⟨m, by omega, env', st', ρ', a, b, c, d⟩
                · obtain ⟨k3, rs3, rv⟩ := hy v H3 yy
                  exact turn re2 rs2 q2 k3 rs3 rv fun env' st' σ' H' ρ' x' rs' re' q' => ⟨env', st', ρ', x2.trans x', re', rs', q'⟩
end
/-! ### while -/
def whileF (t : Ft) (body : Fs) : Nat → Fs
  | 0, _, _ => .bad
  | k + 1, env, st => (t env st).toSB env fun b st1 => if b = true then (body env st1).andThen (whileF t body k) else .nx env st1
def sWhile (t : Ft) (body : Fs) : Fs := whileF t body fuelN
section
variable {L : Lx} {X : Cx} {W : WX} {c : Expr} {tc : Ft} {pos : Pos} {body : List Stmt} {fb : Fs} {B : List Nat} {n : Nat}
theorem es_while (hp : PassesOwn (model X.prog X.w) X.A X.env X.xe) (hc : ET L X W c tc) (hb : ESs L X W B n body fb) : ES L X W B n (.While c body [] pos) (sWhile tc fb) := by
  refine PS.weak (ps_while hp hc hb) fun D σ H ⟨env, st, ρ, P, re, rs, q⟩ => ?_
  refine ⟨fun m σ2 H2 => ∃ env2 st2 ρ2, RepE (gx L X) H2 P ρ2 env2 σ2 ∧ RepS (gx L X) H2 P ρ2 st2 ∧ PostS (gx L X) W B n P ρ2 H2 (whileF tc fb m env2 st2) D, ⟨fuelN, env, st, ρ, re, rs, q⟩, fun m σ2 H2 hW => ?_⟩
  obtain ⟨env2, st2, ρ2, re2, rs2, q2⟩ := hW
  cases m with
  | zero => exact q2.elim
  | succ m =>
    refine ⟨env2, st2, ρ2, P, re2, rs2, PostB.thenS re2 rs2 q2 fun b st3 H3 k3 rs3 q3 => ?_⟩
    cases b with
    | false => exact q3 σ2 H3 ρ2 .refl rs3 (re2.ext k3 rs2)
    | true =>
      refine ⟨fun σ' H' => ∃ env' st' ρ', RepE (gx L X) H' P ρ' env' σ' ∧ RepS (gx L X) H' P ρ' st' ∧ PostS (gx L X) W B n P ρ' H' (whileF tc fb m env' st') D, fun σ' H' hN => ?_, env2, st3, ρ2, P, re2.ext k3 rs2, rs3, ?_⟩
      · obtain ⟨env', st', ρ', a, b, c⟩ := hN
        exact ⟨m, by omega, env', st', ρ', a, b, c⟩
      · exact PostS.then (fun l h => h) q3 fun env' st' σ' H' ρ' x' rs' re' q' => ⟨env', st', ρ', re', rs', q'⟩
end
/-! ### list comprehensions -/
def wipeE (env : Env) : List Nat → Env
  | [] => env
  | v :: vs => (wipeE env vs).set v none
def compSeq (p : Pat) (t : Ft) (fe : Fe) (env0 : Env) : List Val → List Val → Sto → Rv (List Val)
  | [], acc, st => .ok acc st
  | x :: r, acc, st => match bindP p x env0 with
    | some env => (t env st).bind fun b st1 => if b = true then (fe env st1).bind fun z st2 => match z.froz with
        | .v y => compSeq p t fe env0 r (acc ++ [y]) st2
        | _ => .bad
      else compSeq p t fe env0 r acc st1
    | none => .bad
def compCell (p : Pat) (t : Ft) (fe : Fe) (env0 : Env) (l : Nat) : Nat → Nat → List Val → Sto → Rv (List Val)
  | 0, _, _, _ => .bad
  | k + 1, i, acc, st => match st[l]? with
    | some (.lst ys) => match ys[i]? with
      | none => .ok acc st
      | some x => match bindP p x env0 with
        | some env => (t env st).bind fun b st1 => if b = true then (fe env st1).bind fun z st2 => match z.froz with
            | .v y => if acc.length < 1000000 then compCell p t fe env0 l k (i + 1) (acc ++ [y]) st2 else .bad
            | _ => .bad
          else compCell p t fe env0 l k (i + 1) acc st1
        | none => .bad
    | _ => .bad
/-- a new list; nothing is let out of a comprehension -/
def Rv.fresh (r : Rv (List Val)) : Rv SV := match r with
  | .ok ys st => .ok (.fl ys) st
  | _ => .bad
def eComp (fi : Fi) (p : Pat) (t : Ft) (fe : Fe) (vs : List Nat) : Fe := fun env st => (fi env st).bind fun s st1 => match s with
  | .seq xs => if xs.length ≤ 1000000 then (compSeq p t fe (wipeE env vs) xs [] st1).fresh else .bad
  | .cell l => (compCell p t fe (wipeE env vs) l fuelN 0 [] st1).fresh
def tYesF : Ft := fun _ st => .ok true st
abbrev W0 : WX := fun _ _ _ _ => False
section
variable {G : Gc} {W : WX} {σ : L2.St} {H H0 H1 H2 H' : Hp} {ρ ρ1 ρ2 ρ' : Rho} {P : Ts} {env env' : Env} {st st' st1 st2 : Sto}
theorem wipeE_len : ∀ vs : List Nat, (wipeE env vs).length = env.length
  | [] => rfl
  | v :: vs => by show ((wipeE env vs).set v none).length = _; rw [List.length_set, wipeE_len vs]
theorem RepE.wipe (re : RepE G H P ρ env σ) : ∀ vs : List Nat, RepE G H P ρ (wipeE env vs) (L2.wipe σ vs)
  | [] => re
  | v :: vs => by
    have ih := RepE.wipe re vs
    refine ⟨by show ((wipeE env vs).set v none).length = ((L2.wipe σ vs).set v none).length; rw [List.length_set, List.length_set]; exact ih.len, fun i z h => ?_⟩
    have h : ((wipeE env vs).set v none)[i]? = some (some z) := h
    by_cases e : i = v
    · subst e
      rw [List.getElem?_set] at h
      simp at h
    · rw [List.getElem?_set_ne (Ne.symm e)] at h
      obtain ⟨u, e1, r⟩ := ih.get i z h
      exact ⟨u, by show ((L2.wipe σ vs).set v none)[i]? = _; rw [List.getElem?_set_ne (Ne.symm e)]; exact e1, r⟩
theorem RepVs.app {T : Ts} : ∀ {xs : List Val} {vs : List V} {y : Val} {u : V}, RepVs G H T xs vs → RepV G H T y u → RepVs G H T (xs ++ [y]) (vs ++ [u])
  | _, _, _, _, .nil, r => .cons r .nil
  | _, _, _, _, .cons r t, q => .cons r (RepVs.app t q)
theorem RepE.plus {a : Addr} (re : RepE G H P ρ env σ) (h0 : H a = none) (rs : RepS G H P ρ st) {o : HO} : RepE G (upd H a o) (Plus P a) ρ env σ :=
  ⟨re.len, fun i z h => let ⟨v, e, r⟩ := re.get i z h; ⟨v, e, by
    cases r with
    | v r => exact .v (r.ext (kp_newP h0) rs.nt)
    | loc q => exact .loc q⟩⟩
end
section
variable {L : Lx} {X : Cx} {W : WX} {tg iter elt : Expr} {fi : Fi} {p : Pat} {g : TG} {t : Ft} {fe : Fe} {vs : List Nat}
/-- the comprehension's reading -/
theorem comp_tm (hpat : EP1 X p g) (hv : ∀ i ∈ p.names, i ∈ vs) (σ : L2.St) (H : Hp) (Q : VK) (h : TEm (gx L X) W (eComp fi p t fe vs) σ H Q) (hz : 1000000 < sizeLine := by decide) :
    tLc (TIm (gx L X) W fi) g (TTm (gx L X) W0 t) (TEm (gx L X) W0 fe) vs σ H Q := by
  obtain ⟨env, st, ρ, P, re, rs, q⟩ := h
  refine ⟨env, st, ρ, P, re, rs, ?_⟩
  unfold eComp at q
  cases hf : fi env st with
  | exc e st1 => rw [hf] at q; exact q
  | bad => rw [hf] at q; exact q
  | ok s st1 =>
    rw [hf] at q
    intro J H1 k1 rs1 wk D hD
    have h0D : H D = none := k1.none hD
    have rsD : RepS (gx L X) (upd H1 D (.lst [])) (Plus P D) ρ st1 := rs1.freshP hD ⟨by intros; simp, by intros; simp, by intros; simp, by intros; simp⟩
    have nP : ¬ P D := fun t => rs1.ntr hD (.inl t)
    have reD : RepE (gx L X) (upd H1 D (.lst [])) (Plus P D) ρ (wipeE env vs) (L2.wipe σ vs) := (re.ext k1 rs).plus hD rs1 |>.wipe vs
    -- the state between two turns
    let St := fun (acc : List Val) (st2 : Sto) (H2 : Hp) => Kp (Tr ρ) H (Tr ρ) H2 ∧ Kp (TP (Plus P D) ρ) (upd H1 D (.lst [])) (TP (Plus P D) ρ) H2 ∧ RepS (gx L X) H2 (Plus P D) ρ st2 ∧ ∃ us, H2 D = some (.lst us) ∧ RepVs (gx L X) H2 (TP (Plus P D) ρ) acc us
    have st0 : St [] st1 (upd H1 D (.lst [])) := ⟨k1.trans (kp_new hD), Kp.refl, rsD, [], upd_same, .nil⟩
    -- the end
    have fin : ∀ {acc : List Val} {st2 : Sto} {H2 : Hp}, St acc st2 H2 → Post (gx L X) W σ P ρ H (.ok (.fl acc) st2) Q → Q (.ref D) H2 := fun {acc st2 H2} hS q2 => by
      obtain ⟨k2, _, rs2, us, e, rv⟩ := hS
      exact q2 _ H2 k2 rs2.drop (.fl e h0D rv rs2 nP)
    -- one turn
    have turn : ∀ {x : Val} {acc : List Val} {st2 : Sto} {H2 : Hp} {v : V} {H3 : Hp} {nA nN : List Val → Sto → Rv (List Val)} {Qv : Rv (List Val) → Prop} {Nx : Hp → Prop}, St acc st2 H2 → acc.length < sizeLine →
        Qv (match bindP p x (wipeE env vs) with
          | some env => (t env st2).bind fun b st1 => if b = true then (fe env st1).bind fun z st2 => match z.froz with
              | .v y => nA (acc ++ [y]) st2
              | _ => .bad
            else nN acc st1
          | none => .bad) → (¬ Qv .bad) → (∀ e s, ¬ Qv (.exc e s)) → Kp (Tr ρ) H2 (Tr ρ) H3 → RepS (gx L X) H3 (Plus P D) ρ st2 → RepV (gx L X) H3 (TP (Plus P D) ρ) x v →
        (∀ y st4 H4, St (acc ++ [y]) st4 H4 → Qv (nA (acc ++ [y]) st4) → Nx H4) → (∀ st4 H4, St acc st4 H4 → Qv (nN acc st4) → Nx H4) →
        g v (L2.wipe σ vs) H3 fun σ2 H2 => L2.wipe σ2 vs = L2.wipe σ vs ∧ TTm (gx L X) W0 t σ2 H2 fun b H3 =>
          if b = true then TEm (gx L X) W0 fe σ2 H3 fun y H4 => ∃ acc, H4 D = some (.lst acc) ∧ acc.length < sizeLine ∧ Nx (upd H4 D (.lst (acc ++ [y]))) else Nx H3 := fun {x acc st2 H2 v H3 nA nN Qv Nx} hS hl hq nb ne k3 rs3 rv wA wN => by
      obtain ⟨k2, kB, rs2, us, eD, rus⟩ := hS
      cases hb : bindP p x (wipeE env vs) with
      | none => rw [hb] at hq; exact (nb hq).elim
      | some env' =>
        rw [hb] at hq
        have re3 : RepE (gx L X) H3 (Plus P D) ρ (wipeE env vs) (L2.wipe σ vs) := ⟨reD.len, fun i z h => by
          obtain ⟨u, e, r⟩ := reD.get i z h
          refine ⟨u, e, ?_⟩
          cases r with
          | v r => exact .v ((r.ext kB rsD.nt).ext k3.tp rs2.nt)
          | loc q => exact .loc q⟩
        refine pat_ok hpat re3 rv hb fun σ4 re4 hw => ⟨?_, ?_⟩
        · rw [hw vs hv, wipe_wipe fun i h => h]
        · refine ⟨env', st2, ρ, Plus P D, re4, rs3, ?_⟩
          cases ht : t env' st2 with
          | bad => simp only [ht, Rv.bind] at hq; exact nb hq
          | exc e s => simp only [ht, Rv.bind] at hq; exact (ne _ _ hq).elim
          | ok b st4 =>
            simp only [ht, Rv.bind] at hq
            intro H4 k4 rs4
            have nD : ¬ Tr ρ D := rs2.apart D (.inr rfl)
            have eD4 : H4 D = some (.lst us) := (k3.trans k4).keep D _ nD eD (by intros; simp)
            have rus4 := rus.ext (k3.trans k4).tp rs2.nt
            have kB4 := (kB.trans k3.tp).trans k4.tp
            have kA4 := (k2.trans k3).trans k4
            cases b with
            | false =>
              simp only [Bool.false_eq_true, if_false] at hq ⊢
              exact wN st4 H4 ⟨kA4, kB4, rs4, us, eD4, rus4⟩ hq
            | true =>
              simp only [if_true] at hq ⊢
              refine ⟨env', st4, ρ, Plus P D, re4.ext k4 rs3, rs4, ?_⟩
              cases hfe : fe env' st4 with
              | bad => simp only [hfe] at hq; exact nb hq
              | exc e s => simp only [hfe] at hq; exact (ne _ _ hq).elim
              | ok z st5 =>
                simp only [hfe] at hq
                intro y H5 k5 rs5 rx
                have rz := rx.z
                cases hz : z.froz with
                | loc _ => simp only [hz] at hq; exact (nb hq).elim
                | fl _ => simp only [hz] at hq; exact (nb hq).elim
                | fd _ => simp only [hz] at hq; exact (nb hq).elim
                | v yv =>
                  rw [hz] at rz
                  simp only [hz] at hq
                  cases rz with
                  | v ry =>
                    have eD5 : H5 D = some (.lst us) := k5.keep D _ nD eD4 (by intros; simp)
                    refine ⟨us, eD5, by rw [← rus.len]; exact hl, ?_⟩
                    have kw : Kp (TP (Plus P D) ρ) H5 (TP (Plus P D) ρ) (upd H5 D (.lst (us ++ [y]))) := kp_write (.inl (.inr rfl))
                    have k6 := kA4.trans k5
                    refine wA yv st5 _ ⟨⟨fun a o na e nt => ?_, fun a o e => ?_, fun a t => .inl t⟩, (kB4.trans k5.tp).trans kw, rs5.writeP (.inr rfl) ⟨by intros; simp, by intros; simp, by intros; simp, by intros; simp⟩, us ++ [y], upd_same, RepVs.app ((rus4.ext k5.tp rs4.nt).ext kw rs5.nt) (ry.ext kw rs5.nt)⟩ hq
                    · rw [upd_ne (ne_of_none e h0D)]; exact k6.keep a o na e nt
                    · obtain ⟨o', e'⟩ := k6.stay a o e; exact ⟨o', by rw [upd_ne (ne_of_none e h0D)]; exact e'⟩
    let Qv := fun r : Rv (List Val) => Post (gx L X) W σ P ρ H r.fresh Q
    have nb : ¬ Qv .bad := fun z => z
    have ne : ∀ e s, ¬ Qv (.exc e s) := fun _ _ z => z
    cases s with
    | seq xs =>
      have q : Post (gx L X) W σ P ρ H (if xs.length ≤ 1000000 then (compSeq p t fe (wipeE env vs) xs [] st1).fresh else .bad) Q := q
      split at q
      · rename_i hxl
        refine ⟨fun i m H2 => ∃ acc st2, m = xs.length - i ∧ acc.length ≤ i ∧ St acc st2 H2 ∧ Qv (compSeq p t fe (wipeE env vs) (xs.drop i) acc st2), ⟨xs.length, [], st1, rfl, Nat.le_refl _, st0, q⟩, fun i m H2 hW => ?_⟩
        obtain ⟨acc, st2, hm, hl, hS, hq⟩ := hW
        have w := wk i H2 (Plus P D) ρ st2 ((kp_newP hD).trans hS.2.1) hS.2.2.1
        by_cases hi : i < xs.length
        · rw [List.drop_eq_getElem_cons hi] at hq
          obtain ⟨hgo, hy⟩ := w.1 xs[i] (List.getElem?_eq_getElem hi)
          refine .inr ⟨hgo, fun H' => ∃ acc' st', acc'.length ≤ i + 1 ∧ St acc' st' H' ∧ Qv (compSeq p t fe (wipeE env vs) (xs.drop (i + 1)) acc' st'), fun H' hN => ?_, fun v H3 yy => ?_⟩
          · obtain ⟨acc', st', a, b, c⟩ := hN
            exact ⟨xs.length - (i + 1), by omega, acc', st', rfl, a, b, c⟩
          · obtain ⟨k3, rs3, rv⟩ := hy v H3 yy
            refine turn (nA := compSeq p t fe (wipeE env vs) (xs.drop (i + 1))) (nN := compSeq p t fe (wipeE env vs) (xs.drop (i + 1))) (Qv := Qv) hS (by omega) hq nb ne k3 rs3 rv (fun y st4 H4 hS4 q4 => ⟨acc ++ [y], st4, by rw [List.length_append]; simp; omega, hS4, q4⟩) (fun st4 H4 hS4 q4 => ⟨acc, st4, by omega, hS4, q4⟩)
        · rw [List.drop_eq_nil_of_le (by omega)] at hq
          exact .inl ⟨w.2 (by omega), fin hS hq⟩
      · exact q.elim
    | cell l =>
      have q : Qv (compCell p t fe (wipeE env vs) l fuelN 0 [] st1) := q
      refine ⟨fun i m H2 => ∃ acc st2, acc.length ≤ 1000000 ∧ St acc st2 H2 ∧ Qv (compCell p t fe (wipeE env vs) l m i acc st2), ⟨fuelN, [], st1, by simp, st0, q⟩, fun i m H2 hW => ?_⟩
      obtain ⟨acc, st2, hl, hS, hq⟩ := hW
      cases m with
      | zero => exact (nb hq).elim
      | succ m =>
        unfold compCell at hq
        cases hs : st2[l]? with
        | none => rw [hs] at hq; exact (nb hq).elim
        | some o =>
          cases o with
          | dead => rw [hs] at hq; exact (nb hq).elim
          | dic _ => rw [hs] at hq; exact (nb hq).elim
          | lst ys =>
            rw [hs] at hq
            have w := wk i H2 (Plus P D) ρ st2 ys rfl hS.2.2.1 hs
            cases hx : ys[i]? with
            | none =>
              simp only [hx] at hq
              exact .inl ⟨w.2 (List.getElem?_eq_none_iff.mp hx), fin hS hq⟩
            | some x =>
              simp only [hx] at hq
              obtain ⟨hgo, hy⟩ := w.1 x hx
              refine .inr ⟨hgo, fun H' => ∃ acc' st', acc'.length ≤ 1000000 ∧ St acc' st' H' ∧ Qv (compCell p t fe (wipeE env vs) l m (i + 1) acc' st'), fun H' hN => ?_, fun v H3 yy => ?_⟩
              · obtain ⟨acc', st', a, b, c⟩ := hN
                exact ⟨m, by omega, acc', st', a, b, c⟩
              · obtain ⟨k3, rs3, rv⟩ := hy v H3 yy
                refine turn (nA := fun a' s' => if acc.length < 1000000 then compCell p t fe (wipeE env vs) l m (i + 1) a' s' else .bad) (nN := compCell p t fe (wipeE env vs) l m (i + 1)) (Qv := Qv) hS (by omega) hq nb ne k3 rs3 rv (fun y st4 H4 hS4 q4 => ?_) (fun st4 H4 hS4 q4 => ⟨acc, st4, hl, hS4, q4⟩)
                split at q4
                · exact ⟨acc ++ [y], st4, by rw [List.length_append]; simp; omega, hS4, q4⟩
                · exact (nb q4).elim
theorem ee_comp {ifs : List Expr} {scope : Scope} {own : List (Str × Nat)} {pos : Pos} (hc : X.calm = true) (hN : X.N.Nodup) (hi : EI L X W tg iter fi) (ok : BlkOk X.N X.env.scope scope own)
    (hg : ∀ (s : Shared) (H : Hp) (C : Addr) (cl : List (Str × Addr)) (fp : List Addr), PG (X.blk s H scope (compEnvC scope cl C X.env) fp) tg g) (ht : ∀ (s : Shared) (H : Hp) (C : Addr) (cl : List (Str × Addr)) (fp : List Addr), PTs (X.blk s H scope (compEnvC scope cl C X.env) fp) ifs (TTm (gx L X) W0 t))
    (he : ∀ (s : Shared) (H : Hp) (C : Addr) (cl : List (Str × Addr)) (fp : List Addr), PE (X.blk s H scope (compEnvC scope cl C X.env) fp) elt (TEm (gx L X) W0 fe)) (hpat : EP1 X p g) (hv : ∀ i ∈ p.names, i ∈ own.map (·.2)) (hs : ∀ x, foldedSetIterable iter X.env x = pure x := by intro _; rfl) :
    EE L X W (.ListComp elt [⟨tg, iter, ifs, 0⟩] scope pos) (eComp fi p t fe (own.map (·.2))) :=
  PE.weak (pe_lc hc hN hi ok hg ht he hs) fun σ H Q h => comp_tm hpat hv σ H Q h
/-- name = [..] on one line, the name a plain local -/
theorem es_setc {n i : Nat} {y : Str} {py : Pos} {ifs : List Expr} {scope : Scope} {own : List (Str × Nat)} {pos spos : Pos} (m : Md) (B : List Nat) (hc : X.calm = true) (hN : X.N.Nodup) (hi : EI L X W tg iter fi) (ok : BlkOk X.N X.env.scope scope own)
    (hg : ∀ (s : Shared) (H : Hp) (C : Addr) (cl : List (Str × Addr)) (fp : List Addr), PG (X.blk s H scope (compEnvC scope cl C X.env) fp) tg g) (ht : ∀ (s : Shared) (H : Hp) (C : Addr) (cl : List (Str × Addr)) (fp : List Addr), PTs (X.blk s H scope (compEnvC scope cl C X.env) fp) ifs (TTm (gx L X) W0 t))
    (he : ∀ (s : Shared) (H : Hp) (C : Addr) (cl : List (Str × Addr)) (fp : List Addr), PE (X.blk s H scope (compEnvC scope cl C X.env) fp) elt (TEm (gx L X) W0 fe)) (hpat : EP1 X p g) (hv : ∀ i ∈ p.names, i ∈ own.map (·.2)) (hy : X.N[i]? = some y := by rfl) (hyl : X.env.scope.names.lookup y = some .local := by rfl)
    (hsw : swapsWith (.ListComp elt [⟨tg, iter, ifs, 0⟩] scope pos) (some (.Name y py)) spos.line X.env = pure true := by exact sw_true rfl rfl rfl (by decide +kernel)) (hs : ∀ x, foldedSetIterable iter X.env x = pure x := by intro _; rfl) :
    ES L X W (B ++ m.cells) n (.Assign [.Name y py] (.ListComp elt [⟨tg, iter, ifs, 0⟩] scope pos) spos) (sSet m n B i (eComp fi p t fe (own.map (·.2)))) :=
  PS.weak (ps_setLc hc hN hy hyl hsw hi ok hg ht he hs) fun D σ H h => comp_tm hpat hv σ H _ (set_tm D σ H h)
theorem pts_yes {X : Cx} {L : Lx} : PTs X [] (TTm (gx L X) W0 tYesF) := ⟨fun pins s σ H Q I h => pts_nil.run pins s σ H Q I (let ⟨env, st, ρ, P, re, rs, p⟩ := h; p H Kp.refl rs)⟩
theorem pts_if {X : Cx} {L : Lx} {c : Expr} {t : Ft} (h : ET L X W0 c t) : PTs X [c] (TTm (gx L X) W0 t) := pts_one h
end
end Eng

namespace Eng
open PySem PySem.Spec PyProof.Rows L2

/-! ### a def -/
abbrev Fc := List SV → Sto → Rv SV
/-- what is handed back: a cell of the def's own comes as a new thing -/
def retV (n : Nat) (z : SV) (st : Sto) : Option SV := match z with
  | .loc l => if n ≤ l then (match st[l]? with
    | some (.lst xs) => some (.fl xs)
    | some (.dic t kvs) => some (.fd t kvs)
    | _ => none) else none
  | z => some z
/-- N slots, m cells of its own -/
def callF (N m : Nat) (body : Nat → Fs) : Fc := fun zs st =>
  match body st.length (zs.map some ++ List.replicate (N - zs.length) none) (st ++ List.replicate m .dead) with
  | .nx _ st' => .ok (.v .non) (st'.take st.length)
  | .rt z st' => (match retV st.length z st' with
    | some z' => .ok z' (st'.take st.length)
    | none => .bad)
  | .exc e _ st' => .exc e (st'.take st.length)
  | .bad => .bad
def PostC (G : Gc) (P : Ts) (ρ : Rho) (H : Hp) (r : Rv SV) (Q : VK) (E : XK) : Prop := match r with
  | .ok z st' => ∀ v H', Kp (Tr ρ) H (Tr ρ) H' → RepS G H' P ρ st' → RepX G H H' P ρ st' z v → Q v H'
  | .exc e st' => ∀ cls d H', Kp (Tr ρ) H (Tr ρ) H' → RepS G H' P ρ st' → RepEx G H' e cls d → E cls d H'
  | .bad => False
/-- the promise of a def that does as c says -/
def SpF (G : Gc) (k : Nat) (c : Fc) : Sp := fun vs H Q E => ∃ zs st ρ P, zs.length = k ∧ RepZs G H P ρ zs vs ∧ RepS G H P ρ st ∧ PostC G P ρ H (c zs st) Q E
def eCall (c : Fc) (fa : Env → Sto → Rv (List SV)) : Fe := fun env st => (fa env st).bind fun zs st1 => c zs st1
section
variable {G : Gc} {σ : L2.St} {H H0 H1 H2 H' : Hp} {ρ ρ1 ρ2 ρ' : Rho} {P : Ts} {env env' : Env} {st st' st1 st2 : Sto}
theorem RepZs.len : ∀ {zs : List SV} {vs : List V}, RepZs G H P ρ zs vs → zs.length = vs.length
  | _, _, .nil => rfl
  | _, _, .cons _ t => congrArg (· + 1) (RepZs.len t)
theorem tr_app {m : Nat} {a : Addr} : Tr (ρ ++ List.replicate m none) a ↔ Tr ρ a := by
  refine ⟨fun h => ?_, fun h => List.mem_append_left _ h⟩
  rcases List.mem_append.mp h with h | h
  · exact h
  · cases (List.mem_replicate.mp h).2
theorem RepV.same {T T' : Ts} (h : ∀ a, T' a → T a) (nt : NoTup H T) {x : Val} {v : V} (r : RepV G H T x v) : RepV G H T' x v := r.ext ⟨fun _ _ _ h _ => h, fun _ o h => ⟨o, h⟩, fun a t => .inl (h a t)⟩ nt
/-- the def's own cells, none bound yet -/
theorem RepS.enter (rs : RepS G H P ρ st) (m : Nat) : RepS G H P (ρ ++ List.replicate m none) (st ++ List.replicate m .dead) := by
  have hlen := rs.len
  have key : ∀ {l : Nat} {a : Addr}, (ρ ++ List.replicate m none)[l]? = some (some a) → ρ[l]? = some (some a) := fun {l a} e => by
    by_cases h : l < ρ.length
    · rw [List.getElem?_append_left h] at e; exact e
    · rw [List.getElem?_append_right (by omega)] at e
      have := List.mem_of_getElem? e
      cases (List.mem_replicate.mp this).2
  have x : Kp (TP P ρ) H (TP P (ρ ++ List.replicate m none)) H := ⟨fun _ _ _ h _ => h, fun _ o h => ⟨o, h⟩, fun a t => .inl (t.imp id tr_app.mp)⟩
  refine ⟨by simp [hlen], fun l l' a e1 e2 => rs.nd l l' a (key e1) (key e2), fun l a e => ?_, fun l e => ?_, rs.tab, rs.prv, fun a pa t => rs.apart a pa (tr_app.mp t)⟩
  · obtain ⟨o, e1, r⟩ := rs.obj l a (key e)
    have hl : l < st.length := (List.getElem?_eq_some_iff.mp e1).1
    exact ⟨o, by rw [List.getElem?_append_left hl]; exact e1, r.ext x rs.nt rfl⟩
  · by_cases h : l < ρ.length
    · rw [List.getElem?_append_left h] at e
      rw [List.getElem?_append_left (by omega)]; exact rs.dead l e
    · rw [List.getElem?_append_right (by omega)] at e
      rw [List.getElem?_append_right (by omega)]
      have hm : l - ρ.length < m := by
        have := (List.getElem?_eq_some_iff.mp e).1
        simpa using this
      rw [← hlen, List.getElem?_replicate]
      rw [if_pos hm]
/-- .. left behind -/
theorem take_at {l n : Nat} {α : Type} {xs : List α} {a : α} : (xs.take n)[l]? = some a ↔ (l < n ∧ xs[l]? = some a) := by
  rw [List.getElem?_take]
  by_cases h : l < n
  · rw [if_pos h]; exact ⟨fun e => ⟨h, e⟩, fun e => e.2⟩
  · rw [if_neg h]; exact ⟨fun e => (nomatch e), fun e => absurd e.1 h⟩
theorem RepS.leave (rs : RepS G H P ρ st) (n : Nat) : RepS G H P (ρ.take n) (st.take n) := by
  have x : Kp (TP P ρ) H (TP P (ρ.take n)) H := ⟨fun _ _ _ h _ => h, fun _ o h => ⟨o, h⟩, fun a t => .inl (t.imp id fun z => List.mem_of_mem_take z)⟩
  refine ⟨by simp [rs.len], fun l l' a e1 e2 => rs.nd l l' a (take_at.mp e1).2 (take_at.mp e2).2, fun l a e => ?_, fun l e => ?_, rs.tab, rs.prv, fun a pa t => rs.apart a pa (List.mem_of_mem_take t)⟩
  · obtain ⟨h1, h2⟩ := take_at.mp e
    obtain ⟨o, e1, r⟩ := rs.obj l a h2
    exact ⟨o, take_at.mpr ⟨h1, e1⟩, r.ext x rs.nt rfl⟩
  · obtain ⟨h1, h2⟩ := take_at.mp e
    exact take_at.mpr ⟨h1, rs.dead l h2⟩
theorem RepE.start {N : List Str} {zs : List SV} {vs : List V} (rz : RepZs G H P ρ zs vs) (m : Nat) (nt : NoTup H (TP P ρ)) (hl : ∀ (l : Nat) (a : Addr), ρ[l]? = some (some a) → (ρ ++ List.replicate m none)[l]? = some (some a)) :
    RepE G H P (ρ ++ List.replicate m none) (zs.map some ++ List.replicate (N.length - zs.length) none) (L2.start N vs) := by
  have x : Kp (TP P ρ) H (TP P (ρ ++ List.replicate m none)) H := ⟨fun _ _ _ h _ => h, fun _ o h => ⟨o, h⟩, fun a t => .inl (t.imp id tr_app.mp)⟩
  refine ⟨by unfold L2.start; simp [rz.len], fun i z e => ?_⟩
  have get : ∀ {zs : List SV} {vs : List V} {i : Nat} {z : SV}, RepZs G H P ρ zs vs → zs[i]? = some z → ∃ v, vs[i]? = some v ∧ RepZ G H P ρ z v := fun {zs vs i z} q => by
    induction q generalizing i with
    | nil => intro e; simp at e
    | cons r t ih =>
      cases i with
      | zero => intro e; simp at e; subst e; exact ⟨_, rfl, r⟩
      | succ i => intro e; obtain ⟨v, e1, r⟩ := ih (by simpa using e); exact ⟨v, by simpa using e1, r⟩
  by_cases h : i < zs.length
  · rw [List.getElem?_append_left (by simpa using h), List.getElem?_map] at e
    cases q : zs[i]? with
    | none => rw [q] at e; cases e
    | some z' =>
      rw [q] at e
      have e : z' = z := by simpa using e
      subst e
      obtain ⟨v, e1, r⟩ := get rz q
      refine ⟨v, ?_, ?_⟩
      · unfold L2.start
        rw [List.getElem?_append_left (by rw [List.length_map, ← rz.len]; exact h), List.getElem?_map, e1]; rfl
      · cases r with
        | v r => exact .v (r.ext x nt)
        | loc q2 => exact .loc (hl _ _ q2)
  · rw [List.getElem?_append_right (by simpa using h)] at e
    have := List.mem_of_getElem? e
    cases (List.mem_replicate.mp this).2
theorem RepS.leaveP (rs : RepS G H P ρ st) {n l : Nat} {a : Addr} (h : ρ[l]? = some (some a)) (hn : n ≤ l) : RepS G H (Plus P a) (ρ.take n) (st.take n) := by
  have na : ¬ Tr (ρ.take n) a := fun t => by
    obtain ⟨l', e⟩ := at_tr t
    obtain ⟨h1, h2⟩ := take_at.mp e
    have := rs.nd _ _ _ h2 h
    omega
  have x : Kp (TP P ρ) H (TP (Plus P a) (ρ.take n)) H := ⟨fun _ _ _ h _ => h, fun _ o h => ⟨o, h⟩, fun b t => .inl (by
    rcases t with (t | t) | t
    · exact .inl t
    · subst t; exact .inr (tr_at h)
    · exact .inr (List.mem_of_mem_take t))⟩
  refine ⟨by simp [rs.len], fun l l' a e1 e2 => rs.nd l l' a (take_at.mp e1).2 (take_at.mp e2).2, fun l a e => ?_, fun l e => ?_, rs.tab, fun b pb => ?_, fun b pb t => ?_⟩
  · obtain ⟨h1, h2⟩ := take_at.mp e
    obtain ⟨o, e1, r⟩ := rs.obj l a h2
    exact ⟨o, take_at.mpr ⟨h1, e1⟩, r.ext x rs.nt rfl⟩
  · obtain ⟨h1, h2⟩ := take_at.mp e
    exact take_at.mpr ⟨h1, rs.dead l h2⟩
  · rcases pb with pb | pb
    · exact rs.prv b pb
    · subst pb; exact rs.tr (.inr (tr_at h))
  · rcases pb with pb | pb
    · exact rs.apart b pb (List.mem_of_mem_take t)
    · subst pb; exact na t
theorem RepVs.same {T T' : Ts} (h : ∀ a, T' a → T a) (nt : NoTup H T) {x : List Val} {v : List V} (r : RepVs G H T x v) : RepVs G H T' x v := r.ext ⟨fun _ _ _ h _ => h, fun _ o h => ⟨o, h⟩, fun a t => .inl (h a t)⟩ nt
theorem RepK.same {T T' : Ts} (h : ∀ a, T' a → T a) (nt : NoTup H T) {x : List (Val × Val)} {v : List (Key × V)} (r : RepK G H T x v) : RepK G H T' x v := r.ext ⟨fun _ _ _ h _ => h, fun _ o h => ⟨o, h⟩, fun a t => .inl (h a t)⟩ nt
theorem RepT.same {T T' : Ts} (h : ∀ a, T' a → T a) (nt : NoTup H T) {x : List (Val × Val)} {v : List (List Key × V)} (r : RepT G H T x v) : RepT G H T' x v := r.ext ⟨fun _ _ _ h _ => h, fun _ o h => ⟨o, h⟩, fun a t => .inl (h a t)⟩ nt
/-- the def's end, as its caller sees it -/
theorem callF_post {W : WX} {N : List Str} {m : Nat} {body : Nat → Fs} {B : List Nat} {zs : List SV} {vs : List V} {Q : VK} {E : XK} (rz : RepZs G H P ρ zs vs) (rs : RepS G H P ρ st) (hW : ∀ cls d σ H, E cls d H → W cls d σ H)
    (p : PostC G P ρ H (callF N.length m body zs st) Q E) :
    PostS G W B st.length P (ρ ++ List.replicate m none) H (body st.length (zs.map some ++ List.replicate (N.length - zs.length) none) (st ++ List.replicate m .dead)) { nx := fun _ H' => Q .non H', rt := Q } := by
  unfold callF at p
  have hlen := rs.len
  have back : ∀ {ρ' : Rho} {H' : Hp}, ExtS B st.length (ρ ++ List.replicate m none) H ρ' H' → ρ'.take st.length = ρ ∧ Kp (Tr ρ) H (Tr ρ) H' := fun {ρ' H'} x => by
    have e : ρ'.take st.length = ρ := by
      apply List.ext_getElem?
      intro l
      by_cases h : l < st.length
      · rw [List.getElem?_take, if_pos h, x.old h, List.getElem?_append_left (by omega)]
      · rw [List.getElem?_take, if_neg h, List.getElem?_eq_none (by omega)]
    refine ⟨e, ⟨fun a o na h t => x.kp.keep a o (fun z => na (tr_app.mp z)) h t, x.kp.stay, fun a t => .inl t⟩⟩
  cases h : body st.length (zs.map some ++ List.replicate (N.length - zs.length) none) (st ++ List.replicate m .dead) with
  | bad => rw [h] at p; exact p
  | nx en s =>
    rw [h] at p
    intro σ' H' ρ' x rs' re'
    obtain ⟨e, k⟩ := back x
    have l := rs'.leave st.length
    rw [e] at l
    exact p .non H' k l (.v .non)
  | exc ex en s =>
    rw [h] at p
    intro c d σ' H' ρ' x rs' re' rx
    obtain ⟨e, k⟩ := back x
    have l := rs'.leave st.length
    rw [e] at l
    exact hW _ _ _ _ (p c d H' k l rx)
  | rt z s =>
    rw [h] at p
    intro v H' ρ' x rs' rx
    obtain ⟨e, k⟩ := back x
    have l := rs'.leave st.length
    rw [e] at l
    have sub : ∀ a, Tr ρ a → Tr ρ' a := fun a t => by rw [← e] at t; exact List.mem_of_mem_take t
    have sub1 : ∀ a, TP P ρ a → TP P ρ' a := fun a t => t.imp id (sub a)
    have sub2 : ∀ a b, TP (Plus P a) ρ b → TP (Plus P a) ρ' b := fun a b t => t.imp id (sub b)
    cases rx with
    | v r => exact p v H' k l (.v (r.same sub1 rs'.nt))
    | fl h1 n0 r rp np =>
      have l2 := rp.leave st.length
      rw [e] at l2
      exact p _ H' k l (.fl h1 n0 (r.same (sub2 _) rp.nt) l2 np)
    | fdK h1 n0 r rp np =>
      have l2 := rp.leave st.length
      rw [e] at l2
      exact p _ H' k l (.fdK h1 n0 (r.same (sub2 _) rp.nt) l2 np)
    | fdT h1 n0 r rp np =>
      have l2 := rp.leave st.length
      rw [e] at l2
      exact p _ H' k l (.fdT h1 n0 (r.same (sub2 _) rp.nt) l2 np)
    | @loc i a q =>
      simp only [retV] at p
      split at p
      · rename_i z' hz'
        split at hz'
        · rename_i hi
          have na : ¬ Tr ρ a := fun t => by
            rw [← e] at t
            obtain ⟨l', e'⟩ := at_tr t
            obtain ⟨h1, h2⟩ := take_at.mp e'
            have := rs'.nd _ _ _ h2 q
            omega
          have n0 : H a = none := by
            rcases x.kp.new a (tr_at q) with t | t
            · exact absurd (tr_app.mp t) na
            · exact t
          have np : ¬ P a := fun pa => rs.ntr n0 (.inl pa)
          have l2 := rs'.leaveP q hi
          rw [e] at l2
          have sub3 : ∀ b, TP (Plus P a) ρ b → TP P ρ' b := fun b t => by
            rcases t with (t | t) | t
            · exact .inl t
            · subst t; exact .inr (tr_at q)
            · exact .inr (sub b t)
          obtain ⟨o, e1, ro⟩ := rs'.obj i a q
          rw [e1] at hz'
          cases ro with
          | lst h1 r => cases hz'; exact p _ H' k l (.fl h1 n0 (r.same sub3 rs'.nt) l2 np)
          | dicK h1 r => cases hz'; exact p _ H' k l (.fdK h1 n0 (r.same sub3 rs'.nt) l2 np)
          | dicT h1 r => cases hz'; exact p _ H' k l (.fdT h1 n0 (r.same sub3 rs'.nt) l2 np)
        · cases hz'
      · exact p.elim
end
/-! ### the rule for a def; a call -/
section
variable {P : Program} {w : World} {K : PySem.W.Frag} {mg : Str → Option Value} {base : Heap} {L : Lx}
/-- the promise of a def that lets nothing out -/
def SpF0 (G : Gc) (k : Nat) (c : Fc) : Sp := fun vs H Q _ => ∃ zs st ρ P, zs.length = k ∧ RepZs G H P ρ zs vs ∧ RepS G H P ρ st ∧ PostC G P ρ H (c zs st) Q E0
theorem fn_pure {x qual : Str} {s : Stmt} {f : Addr} {fd : FuncData} {N ps : List Str} {k m : Nat} {body : Nat → Fs} {B : List Nat} (F : L2.Fun K x qual s f fd) (S : FnScope N ps (defScope s))
    (hb : ∀ (cdv : Value) (A : Around) (outer : List PySem.Env) (s0 : Shared) (H : Hp) (E : XK) (n : Nat), Room k (A.deeper (envOfC qual (defScope s) s0.heap.objs.size f cdv)) →
      ESs L (cxOf CX0 P w K mg base N qual (defScope s) f cdv A outer s0 H E).nox W0 B n (defBody s) (body n)) :
    FnOk P w K mg base CX0 (k + 1) f fd ps (SpF0 ⟨K, mg, L.T, L.ex⟩ ps.length (callF N.length m body)) := by
  refine F.ok S (fun vs H Q E h => ?_) (fun cdv A outer s0 H vs Q E hr h => ?_)
  · obtain ⟨zs, st, ρ, P', hl, rz, _⟩ := h
    rw [← rz.len]; exact hl
  · obtain ⟨zs, st, ρ, P', hl, rz, rs, p⟩ := h
    refine ⟨_, hb cdv A outer s0 H E st.length hr, _, _, ρ ++ List.replicate m none, P', RepE.start (N := N) rz m rs.nt (fun l a e => ?_), rs.enter m, callF_post rz rs (fun _ _ _ _ z => z) p⟩
    have hlt : l < ρ.length := (List.getElem?_eq_some_iff.mp e).1
    rw [List.getElem?_append_left hlt]; exact e
end
section
variable {X : Cx} {L : Lx} {k : Nat} {f : Addr} {fd : FuncData} {ps : List Str} {c : Fc} {x : Str} {p pos : Pos} {e : Expr} {es : List Expr} {fr : PySem.Expr → Nat} {fa : Env → Sto → Rv (List SV)}
theorem ee_call (F : FnOk X.prog X.w X.K X.mg X.base CX0 k f fd ps (SpF0 (gx L X) ps.length c)) (hr : Room k X.A) (hg : Gl X x) (hm : X.mg x = some (.ref f)) (hk : PySem.W.keepIn X.K (.ref f) = true) (hb : Binds X.K fd ps [])
    (ha : EA L X W0 (e :: es) fa) (hl : ∀ env st zs st', fa env st = .ok zs st' → zs.length = ps.length) (hdb : (x == ("__debug__" : Str)) = false := by decide) (he : starEach (e :: es) X.env = (false, eval e X.env) :: starEach es X.env := by rfl) (hpl : (backTo pos (starEach es X.env)).any (·.1) = false := by rfl) :
    EE L X W0 (.Call (.Name x p) (e :: es) [] pos) (eCall c fa) := by
  refine PE.weak (pe_call F hr hg hm hk hb .nil pass0 ha hdb he hpl) fun σ H Q ⟨env, st, ρ, P, re, rs, q⟩ => ⟨env, st, ρ, P, re, rs, ?_⟩
  unfold eCall at q
  cases h : fa env st with
  | bad => rw [h] at q; exact q
  | exc ex s => rw [h] at q; exact q
  | ok zs st1 =>
    rw [h] at q
    intro vs H1 k1 rs1 rz
    refine ⟨zs, st1, ρ, P, hl _ _ _ _ h, by rw [List.append_nil]; exact rz, rs1, ?_⟩
    have q : Post (gx L X) W0 σ P ρ H (c zs st1) Q := q
    have q := Post.step k1 q
    cases h2 : c zs st1 with
    | ok z s => rw [h2] at q; exact q
    | exc ex s => rw [h2] at q; exact q
    | bad => rw [h2] at q; exact q
end
end Eng

namespace Eng
open PySem PySem.Spec PyProof.Rows L2

/-! ### what comes of a rule -/
section
variable {G : Gc} {H H0 H1 H2 H' : Hp} {ρ : Rho} {P : Ts} {st : Sto} {Q : VK}
theorem POp.val {x : Val} {v : V} (p : POp G P ρ st H (some (.v x)) Q) (rs : RepS G H P ρ st) (r : RepV G H (TP P ρ) x v) : Q v H := p v H Kp.refl rs (.v r)
theorem POp.tup {xs : List Val} {vs : List V} {p : Addr} (q : POp G P ρ st H (some (.v (.tup xs))) Q) (rs : RepS G H P ρ st) (h : H p = none) (r : RepVs G H (TP P ρ) xs vs) : Q (.ref p) (upd H p (.tup vs)) :=
  q _ _ (kp_new h) (rs.fresh h) (.v (.tup upd_same (r.ext (kp_new h) rs.nt)))
theorem POp.lst {xs : List Val} {vs : List V} {p : Addr} (q : POp G P ρ st H (some (.fl xs)) Q) (rs : RepS G H P ρ st) (h : H p = none) (r : RepVs G H (TP P ρ) xs vs) : Q (.ref p) (upd H p (.lst vs)) :=
  q _ _ (kp_new h) (rs.fresh h) (.fl upd_same h (r.ext (kp_newP h) rs.nt) (rs.freshP h ⟨by intros; simp, by intros; simp, by intros; simp, by intros; simp⟩) fun t => rs.ntr h (.inl t))
theorem RepVs.append {T : Ts} : ∀ {xs ys : List Val} {vs us : List V}, RepVs G H T xs vs → RepVs G H T ys us → RepVs G H T (xs ++ ys) (vs ++ us)
  | _, _, _, _, .nil, s => s
  | _, _, _, _, .cons r t, s => .cons r (RepVs.append t s)
theorem RepVs.drop {T : Ts} : ∀ {xs : List Val} {vs : List V} (n : Nat), RepVs G H T xs vs → RepVs G H T (xs.drop n) (vs.drop n)
  | _, _, 0, r => r
  | _, _, _ + 1, .nil => .nil
  | _, _, n + 1, .cons _ t => RepVs.drop n t
theorem RepVs.take {T : Ts} : ∀ {xs : List Val} {vs : List V} (n : Nat), RepVs G H T xs vs → RepVs G H T (xs.take n) (vs.take n)
  | _, _, 0, _ => .nil
  | _, _, _ + 1, .nil => .nil
  | _, _, n + 1, .cons r t => .cons r (RepVs.take n t)
theorem sok_len {l : List Nat} (h : SOk l = true) : l.length ≤ 1000000 := by
  unfold SOk at h
  simp only [Bool.and_eq_true, decide_eq_true_eq] at h
  exact h.1
theorem line1 : (1000000 : Nat) < sizeLine := by decide
theorem sok_size {l : List Nat} (h : SOk l = true) : (toS l).length ≤ sizeLine := by
  have := sok_len h
  have := line1
  show l.toArray.size ≤ sizeLine
  simp only [List.size_toArray]
  omega
end
theorem OpR.weak {X : Cx} {f : Value → Value → Sem Value} {r r' : R2} (h : OpR X f r) (w : ∀ x y H Q, r' x y H Q → r x y H Q) : OpR X f r' := fun pins s σ H x y v u Q I rx ry q => h pins s σ H x y v u Q I rx ry (w x y H Q q)
theorem IxR.weak {X : Cx} {r r' : R2} (h : IxR X r) (w : ∀ x y H Q, r' x y H Q → r x y H Q) : IxR X r' := fun a b pins s σ H x y v u Q I rx ry q => h a b pins s σ H x y v u Q I rx ry (w x y H Q q)
theorem CallR.weak {X : Cx} {f : Value} {r r' : List V → Hp → VK → Prop} (h : CallR X f r) (w : ∀ xs H Q, r' xs H Q → r xs H Q) : CallR X f r' := fun pins s σ H xs us Q I rx q => h pins s σ H xs us Q I rx (w xs H Q q)
theorem MtR.weak {X : Cx} {id : String} {r r' : V → List V → Hp → VK → Prop} (h : MtR X id r) (w : ∀ x xs H Q, r' x xs H Q → r x xs H Q) : MtR X id r' := fun pins s σ H x xs v us Q I rx rv q => h pins s σ H x xs v us Q I rx rv (w x xs H Q q)

/-! ### + -/
def vAdd : Val → Val → Option SV
  | .int i, .int j => some (.v (.int (i + j)))
  | .str a, .str b => if SOk (a ++ b) = true then some (.v (.str (a ++ b))) else none
  | .tup a, .tup b => if a.length + b.length ≤ 1000000 then some (.v (.tup (a ++ b))) else none
  | .lst a, .lst b => if a.length + b.length ≤ 1000000 then some (.fl (a ++ b)) else none
  | _, _ => none
section
variable {X : Cx} {L : Lx}
/-- a list that is read now -/
theorem Now.lstOf {G : Gc} {H : Hp} {T : Ts} {xs : List Val} {v : V} (h : Now G H T (.lst xs) v) : ∃ a vs, v = .ref a ∧ H a = some (.lst vs) ∧ RepVs G H T xs vs := by
  cases h with
  | rep r => cases r with | lst h _ r => exact ⟨_, _, rfl, h, r⟩
  | lst h r => exact ⟨_, _, rfl, h, r⟩
theorem Now.tupOf {G : Gc} {H : Hp} {T : Ts} {xs : List Val} {v : V} (h : Now G H T (.tup xs) v) : ∃ a vs, v = .ref a ∧ H a = some (.tup vs) ∧ RepVs G H T xs vs := by
  cases h with
  | rep r => cases r with | tup h r => exact ⟨_, _, rfl, h, r⟩
theorem Now.intOf {G : Gc} {H : Hp} {T : Ts} {i : Int} {v : V} (h : Now G H T (.int i) v) : v = .int i := by
  cases h with
  | rep r => cases r; rfl
theorem Now.blOf {G : Gc} {H : Hp} {T : Ts} {i : Bool} {v : V} (h : Now G H T (.bl i) v) : v = .bl i := by
  cases h with
  | rep r => cases r; rfl
theorem Now.nonOf {G : Gc} {H : Hp} {T : Ts} {v : V} (h : Now G H T .non v) : v = .non := by
  cases h with
  | rep r => cases r; rfl
theorem Now.strOf {G : Gc} {H : Hp} {T : Ts} {s : List Nat} {v : V} (h : Now G H T (.str s) v) : v = .str (toS s) ∧ SOk s = true := by
  cases h with
  | rep r => cases r with | str _ h => exact ⟨rfl, h⟩
theorem Now.tyOf {G : Gc} {H : Hp} {T : Ts} {n : String} {v : V} (h : Now G H T (.ty n) v) : v = .ty n := by
  cases h with
  | rep r => cases r; rfl
theorem toS_app (a b : List Nat) : toS a ++ toS b = toS (a ++ b) := by
  show (⟨a.toArray ++ b.toArray⟩ : Str) = ⟨(a ++ b).toArray⟩
  simp
theorem RepVs.nilIff {G : Gc} {H : Hp} {T : Ts} {xs : List Val} {vs : List V} (r : RepVs G H T xs vs) : xs = [] ↔ vs = [] := by
  cases r <;> simp
theorem op_addM : OpR X (binaryOp .Add) (R2m (gx L X) vAdd) := by
  refine OpR.weak (op_add.or (op_add_str.or (op_catA.or op_cat))) fun x y H Q ⟨ρ, P, st, a, b, rs, na, nb, p⟩ => ?_
  have hl := line1
  cases a with
  | int i => cases b with
    | int j => exact .inl ⟨i, j, na.intOf, nb.intOf, p.val rs (.int _)⟩
    | _ => exact p.elim
  | str s => cases b with
    | str t =>
      obtain ⟨ex, sx⟩ := na.strOf
      obtain ⟨ey, sy⟩ := nb.strOf
      have p : POp (gx L X) P ρ st H (if SOk (s ++ t) = true then some (.v (.str (s ++ t))) else none) Q := p
      split at p
      · rename_i hs
        refine .inr (.inl ⟨_, _, ex, ey, ?_, ?_⟩)
        · have h1 := sok_len hs
          have : s.length + t.length ≤ 1000000 := by rw [← List.length_append]; exact h1
          show s.toArray.size + t.toArray.size ≤ sizeLine
          simp only [List.size_toArray]; omega
        · rw [toS_app]; exact p.val rs (.str _ hs)
      · exact p.elim
    | _ => exact p.elim
  | tup s => cases b with
    | tup t =>
      obtain ⟨a1, v1, ex, h1, r1⟩ := na.tupOf
      obtain ⟨a2, v2, ey, h2, r2⟩ := nb.tupOf
      have p : POp (gx L X) P ρ st H (if s.length + t.length ≤ 1000000 then some (.v (.tup (s ++ t))) else none) Q := p
      split at p
      · rename_i hs
        refine .inr (.inr (.inl ⟨a1, a2, v1, v2, ex, ey, .inl (.inl h1), .inl (.inl h2), by rw [← r1.len, ← r2.len]; omega, fun e => ?_, fun n e => ?_, fun n1 n2 q hq => ?_⟩))
        · have e' := r1.nilIff.mpr e
          subst e'
          exact p.val rs (.tup h2 r2)
        · have e' := r2.nilIff.mpr e
          subst e'
          rw [List.append_nil] at p
          exact p.val rs (.tup h1 r1)
        · exact p.tup rs hq (r1.append r2)
      · exact p.elim
    | _ => exact p.elim
  | lst s => cases b with
    | lst t =>
      obtain ⟨a1, v1, ex, h1, r1⟩ := na.lstOf
      obtain ⟨a2, v2, ey, h2, r2⟩ := nb.lstOf
      have p : POp (gx L X) P ρ st H (if s.length + t.length ≤ 1000000 then some (.fl (s ++ t)) else none) Q := p
      split at p
      · rename_i hs
        refine .inr (.inr (.inr ⟨a1, a2, v1, v2, ex, ey, h1, h2, by rw [← r1.len, ← r2.len]; omega, fun q hq => ?_⟩))
        exact p.lst rs hq (r1.append r2)
      · exact p.elim
    | _ => exact p.elim
  | _ => cases b <;> exact p.elim
/-! ### -, *, //, %, ** -/
def vSub : Val → Val → Option SV
  | .int i, .int j => some (.v (.int (i - j)))
  | _, _ => none
theorem op_subM : OpR X (binaryOp .Sub) (R2m (gx L X) vSub) := by
  refine OpR.weak op_sub fun x y H Q ⟨ρ, P, st, a, b, rs, na, nb, p⟩ => ?_
  cases a with
  | int i => cases b with
    | int j => exact ⟨i, j, na.intOf, nb.intOf, p.val rs (.int _)⟩
    | _ => exact p.elim
  | _ => cases b <;> exact p.elim
/-- below 2^64 -/
def mulOk (i : Int) : Bool := decide (-18446744073709551616 < i) && decide (i < 18446744073709551616)
def vMul : Val → Val → Option SV
  | .int i, .int j => if (mulOk i || mulOk j) = true then some (.v (.int (i * j))) else none
  | .str s, .int k => if (decide (0 ≤ k) && decide (k ≤ 1000) && decide (s.length ≤ 1000) && SOk (List.replicate k.toNat s).flatten) = true then some (.v (.str (List.replicate k.toNat s).flatten)) else none
  | .tup s, .int k => if (decide (2 ≤ k) && decide (k ≤ 1000) && decide (1 ≤ s.length) && decide (s.length ≤ 1000)) = true then some (.v (.tup (List.replicate k.toNat s).flatten)) else none
  | .lst s, .int k => if (decide (0 ≤ k) && decide (k ≤ 1000) && decide (s.length ≤ 1000)) = true then some (.fl (List.replicate k.toNat s).flatten) else none
  | _, _ => none
theorem foldl_cat (s : List Nat) : ∀ (k : Nat) (acc : List Nat), (List.replicate k s.toArray).foldl (· ++ ·) acc.toArray = (acc ++ (List.replicate k s).flatten).toArray
  | 0, acc => by simp
  | k + 1, acc => by
    rw [List.replicate_succ, List.foldl_cons, List.replicate_succ, List.flatten_cons]
    have e : acc.toArray ++ s.toArray = (acc ++ s).toArray := by simp
    rw [e, foldl_cat s k (acc ++ s), List.append_assoc]
theorem rep_len {α : Type} (s : List α) (k : Nat) : (List.replicate k s).flatten.length = k * s.length := by
  induction k with
  | zero => simp
  | succ k ih => rw [List.replicate_succ, List.flatten_cons, List.length_append, ih, Nat.succ_mul]; omega
theorem op_mulStr : OpR X (binaryOp .Mult) (fun x y H Q => ∃ (s : List Nat) (k : Int), x = .str (toS s) ∧ y = .int k ∧ 0 ≤ k ∧ k ≤ 1000 ∧ s.length ≤ 1000 ∧ Q (.str (toS (List.replicate k.toNat s).flatten)) H) := by
  intro pins s0 σ H x y v u Q I rx ry h
  obtain ⟨s, k, rfl, rfl, h0, h1, hs, q⟩ := h
  obtain ⟨t, rfl⟩ := rx
  obtain ⟨t', rfl⟩ := ry
  have e : Txt.mul (toS s) k = toS (List.replicate k.toNat s).flatten := by
    unfold Txt.mul
    split
    · rename_i hk
      have : k = 0 := by omega
      subst this
      rfl
    · split
      · rename_i hk
        rw [Bool.or_eq_true, beq_iff_eq, beq_iff_eq] at hk
        rcases hk with hk | hk
        · subst hk; simp
        · have hk : s.length = 0 := by simpa [Str.length] using hk
          have : s = [] := List.eq_nil_of_length_eq_zero hk
          subst this
          simp
      · have := foldl_cat s k.toNat []
        show (⟨(List.replicate k.toNat s.toArray).foldl (· ++ ·) #[]⟩ : Str) = _
        rw [show (#[] : Array Nat) = ([] : List Nat).toArray from rfl, this, List.nil_append]
  refine SB.mul ⟨?_, fun _ hc => ?_, fun _ _ => ?_⟩ fun t2 tk => ⟨.str (toS (List.replicate k.toNat s).flatten), H, I.tok _, ⟨t2, by rw [e]⟩, q⟩
  · rw [decide_eq_false (by omega), decide_eq_false (by omega)]; rfl
  · rw [Bool.or_eq_false_iff, beq_eq_false_iff_ne, beq_eq_false_iff_ne] at hc
    have h2 : (2 ^ 63 - 1 : Int) / 1000 ≤ (2 ^ 63 - 1) / k := by
      have h3 : (0 : Int) < k := by omega
      refine (Int.le_ediv_iff_mul_le h3).mpr ?_
      have : (2 ^ 63 - 1 : Int) / 1000 * k ≤ (2 ^ 63 - 1) / 1000 * 1000 := Int.mul_le_mul_of_nonneg_left h1 (by decide)
      exact Int.le_trans this (by decide)
    have h4 : ((toS s).length : Int) ≤ 1000 := by
      show ((s.toArray.size : Nat) : Int) ≤ 1000
      simp only [List.size_toArray]; omega
    have h5 : (1000 : Int) ≤ (2 ^ 63 - 1) / 1000 := by decide
    omega
  · unfold Builtin.Str.tooLong
    have : (toS s).length * k.toNat ≤ 1000 * 1000 := Nat.mul_le_mul (by show s.toArray.size ≤ 1000; simpa using hs) (by omega)
    rw [sizeLine_eq]
    exact decide_eq_false (by omega)
theorem RepVs.rep {G : Gc} {H : Hp} {T : Ts} {xs : List Val} {vs : List V} (h : RepVs G H T xs vs) : ∀ k : Nat, RepVs G H T (List.replicate k xs).flatten (List.replicate k vs).flatten
  | 0 => .nil
  | k + 1 => by
    rw [List.replicate_succ, List.replicate_succ, List.flatten_cons, List.flatten_cons]
    exact h.append (RepVs.rep h k)
theorem op_mulM : OpR X (binaryOp .Mult) (R2m (gx L X) vMul) := by
  refine OpR.weak (op_mul.or (op_mulStr.or (op_repT.or op_rep))) fun x y H Q ⟨ρ, P, st, a, b, rs, na, nb, p⟩ => ?_
  have hl := line1
  cases a with
  | int i => cases b with
    | int j =>
      have p : POp (gx L X) P ρ st H (if (mulOk i || mulOk j) = true then some (.v (.int (i * j))) else none) Q := p
      split at p
      · rename_i h
        refine .inl ⟨i, j, na.intOf, nb.intOf, ?_, p.val rs (.int _)⟩
        unfold mulOk at h
        simp only [Bool.or_eq_true, Bool.and_eq_true, decide_eq_true_eq] at h
        rcases h with h | h
        · exact .inl ⟨by omega, by omega⟩
        · exact .inr ⟨by omega, by omega⟩
      · exact p.elim
    | _ => exact p.elim
  | str s => cases b with
    | int k =>
      obtain ⟨ex, sx⟩ := na.strOf
      simp only [vMul] at p
      split at p
      · rename_i h
        simp only [Bool.and_eq_true, decide_eq_true_eq] at h
        exact .inr (.inl ⟨s, k, ex, nb.intOf, h.1.1.1, h.1.1.2, h.1.2, p.val rs (.str _ h.2)⟩)
      · exact p.elim
    | _ => exact p.elim
  | tup s => cases b with
    | int k =>
      obtain ⟨a1, v1, ex, h1, r1⟩ := na.tupOf
      simp only [vMul] at p
      split at p
      · rename_i h
        simp only [Bool.and_eq_true, decide_eq_true_eq] at h
        have hlen := r1.len
        exact .inr (.inr (.inl ⟨a1, k, v1, ex, nb.intOf, .inl (.inl h1), fun e => by rw [e] at hlen; simp at hlen; rw [hlen] at h; simp at h, h.1.1.1, h.1.1.2, by omega, fun q hq => p.tup rs hq (r1.rep _)⟩))
      · exact p.elim
    | _ => exact p.elim
  | lst s => cases b with
    | int k =>
      obtain ⟨a1, v1, ex, h1, r1⟩ := na.lstOf
      simp only [vMul] at p
      split at p
      · rename_i h
        simp only [Bool.and_eq_true, decide_eq_true_eq] at h
        have hlen := r1.len
        refine .inr (.inr (.inr ⟨a1, k, v1, ex, nb.intOf, h1, by omega, by omega, ?_, fun q hq => p.lst rs hq (r1.rep _)⟩))
        have : v1.length * k.toNat ≤ 1000 * 1000 := Nat.mul_le_mul (by omega) (by omega)
        omega
      · exact p.elim
    | _ => exact p.elim
  | _ => cases b <;> exact p.elim
def vDiv : Val → Val → Option SV
  | .int i, .int j => if (decide (0 < j) && decide (j < 1073741824)) = true then some (.v (.int (i / j))) else none
  | _, _ => none
def vMod : Val → Val → Option SV
  | .int i, .int j => if 0 < j then some (.v (.int (i % j))) else none
  | _, _ => none
def vPow : Val → Val → Option SV
  | .int i, .int j => if (decide (0 ≤ j) && decide (j ≤ 1000) && mulOk i) = true then some (.v (.int (i ^ j.toNat))) else none
  | _, _ => none
theorem op_divM : OpR X (binaryOp .FloorDiv) (R2m (gx L X) vDiv) := by
  refine OpR.weak op_fdiv fun x y H Q ⟨ρ, P, st, a, b, rs, na, nb, p⟩ => ?_
  cases a with
  | int i => cases b with
    | int j =>
      simp only [vDiv] at p
      split at p
      · rename_i h
        simp only [Bool.and_eq_true, decide_eq_true_eq] at h
        exact ⟨i, j, na.intOf, nb.intOf, ⟨h.1, h.2⟩, p.val rs (.int _)⟩
      · exact p.elim
    | _ => exact p.elim
  | _ => cases b <;> exact p.elim
theorem op_modM : OpR X (binaryOp .Mod) (R2m (gx L X) vMod) := by
  refine OpR.weak op_mod fun x y H Q ⟨ρ, P, st, a, b, rs, na, nb, p⟩ => ?_
  cases a with
  | int i => cases b with
    | int j =>
      simp only [vMod] at p
      split at p
      · rename_i h
        exact ⟨i, j, na.intOf, nb.intOf, h, p.val rs (.int _)⟩
      · exact p.elim
    | _ => exact p.elim
  | _ => cases b <;> exact p.elim
theorem op_powM : OpR X (binaryOp .Pow) (R2m (gx L X) vPow) := by
  refine OpR.weak op_pow fun x y H Q ⟨ρ, P, st, a, b, rs, na, nb, p⟩ => ?_
  cases a with
  | int i => cases b with
    | int j =>
      simp only [vPow] at p
      split at p
      · rename_i h
        unfold mulOk at h
        simp only [Bool.and_eq_true, decide_eq_true_eq] at h
        exact ⟨i, j, na.intOf, nb.intOf, ⟨h.1.1, by omega, by omega⟩, p.val rs (.int _)⟩
      · exact p.elim
    | _ => exact p.elim
  | _ => cases b <;> exact p.elim
def vNeg : Val → Option SV
  | .int i => some (.v (.int (-i)))
  | _ => none
theorem un_negM : UnR X (unaryOp .USub) (R1m (gx L X) vNeg) := by
  intro pins s σ H x v Q I rx ⟨ρ, P, st, a, rs, na, p⟩
  cases a with
  | int i => exact un_neg pins s σ H x v Q I rx ⟨i, na.intOf, p.val rs (.int _)⟩
  | _ => exact p.elim
end
end Eng

namespace Eng
open PySem PySem.Spec PyProof.Rows L2

/-! ### equality -/
mutual
def toPy : Val → PyData
  | .non => .none
  | .bl b => .bool b
  | .int i => .int i
  | .str l => .str (toS l)
  | .tup xs => .tuple (toPys xs)
  | .lst xs => .list (toPys xs)
  | .dic _ _ => .dict []
  | .glb _ => .dict []
  | .ty _ => .dict []
  | .seq _ => .dict []
  | .exn _ _ => .dict []
def toPys : List Val → List PyData
  | [] => []
  | x :: xs => toPy x :: toPys xs
end
mutual
def eqB : Val → Val → Bool
  | .non, y => match y with
    | .non => true
    | _ => false
  | .bl a, y => match y with
    | .bl b => a == b
    | .int j => (if a then 1 else 0) == j
    | _ => false
  | .int i, y => match y with
    | .int j => i == j
    | .bl b => i == (if b then 1 else 0)
    | _ => false
  | .str s, y => match y with
    | .str t => s == t
    | _ => false
  | .tup xs, y => match y with
    | .tup ys => eqBs xs ys
    | _ => false
  | .lst xs, y => match y with
    | .lst ys => eqBs xs ys
    | _ => false
  | .dic _ _, _ => false
  | .glb _, _ => false
  | .ty _, _ => false
  | .seq _, _ => false
  | .exn _ _, _ => false
def eqBs : List Val → List Val → Bool
  | [], ys => match ys with
    | [] => true
    | _ => false
  | x :: xs, ys => match ys with
    | [] => false
    | y :: ys => eqB x y && eqBs xs ys
end
mutual
/-- data of nesting below n -/
def okD : Val → Nat → Bool
  | .non, _ => true
  | .bl _, _ => true
  | .int _, _ => true
  | .str _, _ => true
  | .tup xs, n => match n with
    | 0 => false
    | n + 1 => okDs xs n
  | .lst xs, n => match n with
    | 0 => false
    | n + 1 => okDs xs n
  | .dic _ _, _ => false
  | .glb _, _ => false
  | .ty _, _ => false
  | .seq _, _ => false
  | .exn _ _, _ => false
def okDs : List Val → Nat → Bool
  | [], _ => true
  | x :: xs, n => okD x n && okDs xs n
end
theorem toS_inj {a b : List Nat} : toS a = toS b ↔ a = b := by
  refine ⟨fun h => ?_, fun h => by rw [h]⟩
  have h1 : (toS a).cps = (toS b).cps := by rw [h]
  simpa using h1
theorem toS_beq (a b : List Nat) : (toS a == toS b) = (a == b) := by
  rw [Bool.eq_iff_iff, beq_iff_eq, beq_iff_eq]
  exact toS_inj
mutual
theorem eqv_eqB : ∀ (x y : Val) (n m : Nat), okD x n = true → okD y m = true → PyData.eqv (toPy x) (toPy y) = eqB x y
  | .non, y, n, m, hx, hy => by cases y <;> first | rfl | simp [toPy, PyData.eqv, eqB] | (simp [okD] at hy)
  | .bl _, y, n, m, hx, hy => by cases y <;> first | (simp [okD] at hy; done) | simp [toPy, PyData.eqv, eqB]
  | .int _, y, n, m, hx, hy => by cases y <;> first | (simp [okD] at hy; done) | simp [toPy, PyData.eqv, eqB]
  | .str a, y, n, m, hx, hy => by
    cases y <;> first | (simp [okD] at hy; done) | (simp [toPy, PyData.eqv, eqB]; done) | (simp only [toPy, PyData.eqv, eqB]; exact toS_beq _ _)
  | .tup xs, y, n, m, hx, hy => by
    cases y with
    | tup ys =>
      cases n with
      | zero => simp [okD] at hx
      | succ n =>
        cases m with
        | zero => simp [okD] at hy
        | succ m =>
          simp only [toPy, PyData.eqv, eqB]
          exact eqv_eqBs xs ys n m (by simpa [okD] using hx) (by simpa [okD] using hy)
    | _ => first | (simp [okD] at hy; done) | simp [toPy, PyData.eqv, eqB]
  | .lst xs, y, n, m, hx, hy => by
    cases y with
    | lst ys =>
      cases n with
      | zero => simp [okD] at hx
      | succ n =>
        cases m with
        | zero => simp [okD] at hy
        | succ m =>
          simp only [toPy, PyData.eqv, eqB]
          exact eqv_eqBs xs ys n m (by simpa [okD] using hx) (by simpa [okD] using hy)
    | _ => first | (simp [okD] at hy; done) | simp [toPy, PyData.eqv, eqB]
  | .dic _ _, y, n, m, hx, hy => by simp [okD] at hx
  | .glb _, y, n, m, hx, hy => by simp [okD] at hx
  | .ty _, y, n, m, hx, hy => by simp [okD] at hx
  | .seq _, y, n, m, hx, hy => by simp [okD] at hx
  | .exn _ _, y, n, m, hx, hy => by simp [okD] at hx
theorem eqv_eqBs : ∀ (xs ys : List Val) (n m : Nat), okDs xs n = true → okDs ys m = true → PyData.eqvAll (toPys xs) (toPys ys) = eqBs xs ys
  | [], ys, n, m, hx, hy => by cases ys <;> simp [toPys, PyData.eqvAll, eqBs]
  | x :: xs, ys, n, m, hx, hy => by
    cases ys with
    | nil => simp [toPys, PyData.eqvAll, eqBs]
    | cons y ys =>
      simp only [okDs, Bool.and_eq_true] at hx hy
      simp only [toPys, PyData.eqvAll, eqBs, eqv_eqB x y n m hx.1 hy.1, eqv_eqBs xs ys n m hx.2 hy.2]
end
theorem sok_strOk {l : List Nat} (h : SOk l = true) : PyData.strOk (toS l) = true := by
  unfold SOk at h
  simp only [Bool.and_eq_true, List.all_eq_true, decide_eq_true_eq] at h
  unfold PyData.strOk
  rw [Array.all_eq_true]
  intro i hi
  have := h.2 ((toS l).cps[i]) (by simp)
  simpa using this
section
variable {G : Gc} {H : Hp} {T : Ts}
mutual
theorem RepV.dp : ∀ {x : Val} {v : V} {n : Nat}, RepV G H T x v → okD x n = true → Dp G.K H v (toPy x) ∧ (toPy x).canLay0 = true ∧ (toPy x).depth ≤ n
  | _, _, _, .non, _ => ⟨.non, rfl, Nat.zero_le _⟩
  | _, _, _, .bl b, _ => ⟨.bl b, rfl, Nat.zero_le _⟩
  | _, _, _, .int i, _ => ⟨.int i, rfl, Nat.zero_le _⟩
  | _, _, _, .str l h, _ => ⟨.str _, sok_strOk h, Nat.zero_le _⟩
  | _, _, n, .tup h r, hx => by
    cases n with
    | zero => simp [okD] at hx
    | succ n =>
      obtain ⟨h1, h2, h3⟩ := RepVs.dp (n := n) r (by simpa [okD] using hx)
      exact ⟨.tup (.inl (.inl h)) h1, by simpa [toPy, PyData.canLay0] using h2, by simp only [toPy, PyData.depth]; omega⟩
  | _, _, n, .lst h t r, hx => by
    cases n with
    | zero => simp [okD] at hx
    | succ n =>
      obtain ⟨h1, h2, h3⟩ := RepVs.dp (n := n) r (by simpa [okD] using hx)
      exact ⟨.lst (.inl (.inl h)) h1, by simpa [toPy, PyData.canLay0] using h2, by simp only [toPy, PyData.depth]; omega⟩
  | _, _, _, .dicK h t r, hx => by simp [okD] at hx
  | _, _, _, .dicT h t r, hx => by simp [okD] at hx
  | _, _, _, .glb h r, hx => by simp [okD] at hx
  | _, _, _, .ty n, hx => by simp [okD] at hx
  | _, _, _, .seqH _ _ _, hx => by simp [okD] at hx
  | _, _, _, .seqK _ _, hx => by simp [okD] at hx
  | _, _, _, .exn _ _, hx => by simp [okD] at hx
theorem RepVs.dp : ∀ {x : List Val} {v : List V} {n : Nat}, RepVs G H T x v → okDs x n = true → DpAll G.K H v (toPys x) ∧ PyData.canLayAll0 (toPys x) = true ∧ PyData.depthAll (toPys x) ≤ n
  | _, _, _, .nil, _ => ⟨.nil, rfl, Nat.zero_le _⟩
  | _, _, _, .cons r t, hx => by
    simp only [okDs, Bool.and_eq_true] at hx
    obtain ⟨a1, a2, a3⟩ := RepV.dp r hx.1
    obtain ⟨b1, b2, b3⟩ := RepVs.dp t hx.2
    exact ⟨.cons a1 b1, by simp [toPys, PyData.canLayAll0, a2, b2], by simp only [toPys, PyData.depthAll]; omega⟩
end
theorem Now.dp {x : Val} {v : V} {n : Nat} (h : Now G H T x v) (hx : okD x n = true) : Dp G.K H v (toPy x) ∧ (toPy x).canLay0 = true ∧ (toPy x).depth ≤ n := by
  cases h with
  | rep r => exact r.dp hx
  | lst h r =>
    cases n with
    | zero => simp [okD] at hx
    | succ n =>
      obtain ⟨h1, h2, h3⟩ := RepVs.dp (n := n) r (by simpa [okD] using hx)
      exact ⟨.lst (.inl (.inl h)) h1, by simpa [toPy, PyData.canLay0] using h2, by simp only [toPy, PyData.depth]; omega⟩
  | dicK h r => simp [okD] at hx
  | dicT h r => simp [okD] at hx
theorem Now.shaped {x : Val} {v : V} (h : Now G H T x v) (hx : okD x 32 = true) : Dp G.K H v (toPy x) ∧ SeqAt.shaped (toPy x) = true := by
  obtain ⟨h1, h2, h3⟩ := h.dp hx
  exact ⟨h1, by unfold SeqAt.shaped; rw [h2, decide_eq_true (by omega)]; rfl⟩
end
def vEq (a b : Val) : Option SV := if (okD a 32 && okD b 32) = true then some (.v (.bl (eqB a b))) else none
def vNe (a b : Val) : Option SV := if (okD a 32 && okD b 32) = true then some (.v (.bl (!eqB a b))) else none
section
variable {X : Cx} {L : Lx}
theorem op_eqM (hu : X.A.units + 64 < cLine) : OpR X (compareOp .Eq) (R2m (gx L X) vEq) := by
  refine OpR.weak (op_eqD hu) fun x y H Q ⟨ρ, P, st, a, b, rs, na, nb, p⟩ => ?_
  unfold vEq at p
  split at p
  · rename_i h
    simp only [Bool.and_eq_true] at h
    obtain ⟨a1, a2⟩ := na.shaped h.1
    obtain ⟨b1, b2⟩ := nb.shaped h.2
    exact ⟨_, _, a1, b1, a2, b2, by rw [eqv_eqB _ _ _ _ h.1 h.2]; exact p.val rs (.bl _)⟩
  · exact p.elim
theorem op_neM (hu : X.A.units + 64 < cLine) : OpR X (compareOp .NotEq) (R2m (gx L X) vNe) := by
  refine OpR.weak (op_neD hu) fun x y H Q ⟨ρ, P, st, a, b, rs, na, nb, p⟩ => ?_
  unfold vNe at p
  split at p
  · rename_i h
    simp only [Bool.and_eq_true] at h
    obtain ⟨a1, a2⟩ := na.shaped h.1
    obtain ⟨b1, b2⟩ := nb.shaped h.2
    exact ⟨_, _, a1, b1, a2, b2, by rw [eqv_eqB _ _ _ _ h.1 h.2]; exact p.val rs (.bl _)⟩
  · exact p.elim
end
/-! ### order -/
def vLt : Val → Val → Option SV
  | .int i, .int j => some (.v (.bl (decide (i < j))))
  | .str a, .str b => some (.v (.bl (decide (a < b))))
  | _, _ => none
def vLe : Val → Val → Option SV
  | .int i, .int j => some (.v (.bl (decide (i ≤ j))))
  | .str a, .str b => some (.v (.bl (!decide (b < a))))
  | _, _ => none
def vGt : Val → Val → Option SV
  | .int i, .int j => some (.v (.bl (decide (j < i))))
  | .str a, .str b => some (.v (.bl (decide (b < a))))
  | _, _ => none
def vGe : Val → Val → Option SV
  | .int i, .int j => some (.v (.bl (decide (j ≤ i))))
  | .str a, .str b => some (.v (.bl (!decide (a < b))))
  | _, _ => none
section
variable {X : Cx} {L : Lx}
theorem ord_of {r : R2} {oi : Int → Int → Bool} {os : List Nat → List Nat → Bool} {o : Val → Val → Option SV} (hi : ∀ i j, o (.int i) (.int j) = some (.v (.bl (oi i j)))) (hs : ∀ i j, o (.str i) (.str j) = some (.v (.bl (os i j))))
    (hn : ∀ a b, (∀ i j, a = .int i → b ≠ .int j) → (∀ i j, a = .str i → b ≠ .str j) → o a b = none)
    (x y : V) (H : Hp) (Q : VK) (h : R2m (gx L X) o x y H Q) (wi : ∀ i j, x = .int i → y = .int j → Q (.bl (oi i j)) H → r x y H Q) (ws : ∀ i j, x = .str (toS i) → y = .str (toS j) → Q (.bl (os i j)) H → r x y H Q) : r x y H Q := by
  obtain ⟨ρ, P, st, a, b, rs, na, nb, p⟩ := h
  by_cases h1 : ∃ i j, a = .int i ∧ b = .int j
  · obtain ⟨i, j, rfl, rfl⟩ := h1
    rw [hi] at p
    exact wi i j na.intOf nb.intOf (p.val rs (.bl _))
  · by_cases h2 : ∃ i j, a = .str i ∧ b = .str j
    · obtain ⟨i, j, rfl, rfl⟩ := h2
      rw [hs] at p
      exact ws i j na.strOf.1 nb.strOf.1 (p.val rs (.bl _))
    · rw [hn a b (fun i j e1 e2 => h1 ⟨i, j, e1, e2⟩) (fun i j e1 e2 => h2 ⟨i, j, e1, e2⟩)] at p
      exact p.elim
theorem op_ltM : OpR X (compareOp .Lt) (R2m (gx L X) vLt) := by
  refine OpR.weak (op_lt.or op_lt_str) fun x y H Q h => ord_of (r := fun x y H Q => _ ∨ _) (fun _ _ => rfl) (fun _ _ => rfl) (fun a b h1 h2 => ?_) x y H Q h (fun i j e1 e2 q => .inl ⟨i, j, e1, e2, q⟩) fun i j e1 e2 q => .inr ⟨_, _, e1, e2, by simpa using q⟩
  cases a <;> cases b <;> first | rfl | exact absurd rfl (h1 _ _ rfl) | exact absurd rfl (h2 _ _ rfl)
theorem op_leM : OpR X (compareOp .LtE) (R2m (gx L X) vLe) := by
  refine OpR.weak (op_le.or op_le_str) fun x y H Q h => ord_of (r := fun x y H Q => _ ∨ _) (fun _ _ => rfl) (fun _ _ => rfl) (fun a b h1 h2 => ?_) x y H Q h (fun i j e1 e2 q => .inl ⟨i, j, e1, e2, q⟩) fun i j e1 e2 q => .inr ⟨_, _, e1, e2, by simpa using q⟩
  cases a <;> cases b <;> first | rfl | exact absurd rfl (h1 _ _ rfl) | exact absurd rfl (h2 _ _ rfl)
theorem op_gtM : OpR X (compareOp .Gt) (R2m (gx L X) vGt) := by
  refine OpR.weak (op_gt.or op_gt_str) fun x y H Q h => ord_of (r := fun x y H Q => _ ∨ _) (fun _ _ => rfl) (fun _ _ => rfl) (fun a b h1 h2 => ?_) x y H Q h (fun i j e1 e2 q => .inl ⟨i, j, e1, e2, q⟩) fun i j e1 e2 q => .inr ⟨_, _, e1, e2, by simpa using q⟩
  cases a <;> cases b <;> first | rfl | exact absurd rfl (h1 _ _ rfl) | exact absurd rfl (h2 _ _ rfl)
theorem op_geM : OpR X (compareOp .GtE) (R2m (gx L X) vGe) := by
  refine OpR.weak (op_ge.or op_ge_str) fun x y H Q h => ord_of (r := fun x y H Q => _ ∨ _) (fun _ _ => rfl) (fun _ _ => rfl) (fun a b h1 h2 => ?_) x y H Q h (fun i j e1 e2 q => .inl ⟨i, j, e1, e2, q⟩) fun i j e1 e2 q => .inr ⟨_, _, e1, e2, by simpa using q⟩
  cases a <;> cases b <;> first | rfl | exact absurd rfl (h1 _ _ rfl) | exact absurd rfl (h2 _ _ rfl)
end
/-! ### is -/
def isNon : Val → Bool
  | .non => true
  | _ => false
def isGlb : Val → Bool
  | .glb _ => true
  | _ => false
def vIs : Val → Val → Option SV
  | a, .non => if isGlb a = true then none else some (.v (.bl (isNon a)))
  | .bl a, .bl b => some (.v (.bl (a == b)))
  | _, _ => none
def vIsN : Val → Val → Option SV
  | a, .non => if isGlb a = true then none else some (.v (.bl (!isNon a)))
  | .bl a, .bl b => some (.v (.bl (!(a == b))))
  | _, _ => none
section
variable {X : Cx} {L : Lx}
theorem Now.isN {G : Gc} {H : Hp} {T : Ts} {a : Val} {v : V} (h : Now G H T a v) (hg : isGlb a = false) : decide (v = .non) = isNon a := by
  cases h with
  | rep r => cases r <;> first | rfl | (simp [isNon]; done) | simp [isGlb] at hg
  | lst _ _ => simp [isNon]
  | dicK _ _ => simp [isNon]
  | dicT _ _ => simp [isNon]
theorem op_isM : OpR X (compareOp .Is) (R2m (gx L X) vIs) := by
  refine OpR.weak (op_isN.or op_isBl) fun x y H Q ⟨ρ, P, st, a, b, rs, na, nb, p⟩ => ?_
  cases b with
  | non =>
    have p : POp (gx L X) P ρ st H (if isGlb a = true then none else some (.v (.bl (isNon a)))) Q := by cases a <;> exact p
    split at p
    · exact p.elim
    · rename_i hg
      exact .inl ⟨nb.nonOf, by rw [na.isN (by simpa using hg)]; exact p.val rs (.bl _)⟩
  | bl b =>
    cases a with
    | bl a => exact .inr ⟨a, b, na.blOf, nb.blOf, by rw [show decide (a = b) = (a == b) by cases a <;> cases b <;> rfl]; exact p.val rs (.bl _)⟩
    | _ => exact p.elim
  | _ => cases a <;> exact p.elim
theorem op_isNM : OpR X (compareOp .IsNot) (R2m (gx L X) vIsN) := by
  refine OpR.weak (op_notN.or op_notBl) fun x y H Q ⟨ρ, P, st, a, b, rs, na, nb, p⟩ => ?_
  cases b with
  | non =>
    have p : POp (gx L X) P ρ st H (if isGlb a = true then none else some (.v (.bl (!isNon a)))) Q := by cases a <;> exact p
    split at p
    · exact p.elim
    · rename_i hg
      exact .inl ⟨nb.nonOf, by rw [na.isN (by simpa using hg)]; exact p.val rs (.bl _)⟩
  | bl b =>
    cases a with
    | bl a => exact .inr ⟨a, b, na.blOf, nb.blOf, by rw [show decide (a = b) = (a == b) by cases a <;> cases b <;> rfl]; exact p.val rs (.bl _)⟩
    | _ => exact p.elim
  | _ => cases a <;> exact p.elim
end
end Eng

namespace Eng
open PySem PySem.Spec PyProof.Rows L2

/-! ### dicts -/
def dGet (kvs : List (Val × Val)) (x : Val) : Option Val := (kvs.find? fun p => eqB p.1 x).map (·.2)
def dHas (kvs : List (Val × Val)) (x : Val) : Bool := kvs.any fun p => eqB p.1 x
def dPut (kvs : List (Val × Val)) (x y : Val) : List (Val × Val) := if dHas kvs x = true then kvs.map (fun p => if eqB p.1 x = true then (p.1, y) else p) else kvs ++ [(x, y)]
/-- may x be a key of a dict of the kind t? -/
def keyIs (t : Bool) : Val → Bool
  | .int _ => !t
  | .str _ => !t
  | .tup xs => t && (keysOf xs).isSome
  | _ => false
section
variable {G : Gc} {H : Hp} {T : Ts}
theorem keyOf_eq {x y : Val} {k j : Key} (hx : keyOf x = some k) (hy : keyOf y = some j) : eqB x y = decide (k = j) := by
  cases x <;> simp [keyOf] at hx <;> cases y <;> simp [keyOf] at hy <;> subst hx <;> subst hy <;> simp [eqB]
  · rw [Bool.eq_iff_iff]; simp
  · rw [Bool.eq_iff_iff]; simp
theorem keysOf_eq : ∀ {xs ys : List Val} {k j : List Key}, keysOf xs = some k → keysOf ys = some j → eqBs xs ys = decide (k = j)
  | [], [], k, j, hx, hy => by simp [keysOf] at hx hy; subst hx; subst hy; simp [eqBs]
  | [], y :: ys, k, j, hx, hy => by
    simp only [keysOf] at hx hy
    cases hx
    split at hy
    · cases hy; simp [eqBs]
    · cases hy
  | x :: xs, [], k, j, hx, hy => by
    simp only [keysOf] at hx hy
    cases hy
    split at hx
    · cases hx; simp [eqBs]
    · cases hx
  | x :: xs, y :: ys, k, j, hx, hy => by
    simp only [keysOf] at hx hy
    split at hx
    · rename_i k1 ks1 e1 e2
      split at hy
      · rename_i k2 ks2 e3 e4
        cases hx; cases hy
        simp only [eqBs, keyOf_eq e1 e3, keysOf_eq e2 e4, List.cons.injEq, Bool.decide_and]
      · cases hy
    · cases hx
theorem repK_get {x : Val} {k : Key} (hx : keyOf x = some k) : ∀ {kvs : List (Val × Val)} {ks : List (Key × V)}, RepK G H T kvs ks →
    (dGet kvs x = none ∧ valV ks k = none) ∨ ∃ y v, dGet kvs x = some y ∧ valV ks k = some v ∧ RepV G H T y v
  | _, _, .nil => .inl ⟨rfl, rfl⟩
  | (a, b) :: kvs, (j, w) :: ks, .cons hj ra rb t => by
    have e := keyOf_eq hj hx
    by_cases h : j = k
    · refine .inr ⟨b, w, ?_, valV_pos h, rb⟩
      unfold dGet
      rw [List.find?_cons]
      simp [e, h]
    · have ih := repK_get hx t
      have e2 : dGet ((a, b) :: kvs) x = dGet kvs x := by
        unfold dGet
        rw [List.find?_cons]
        simp [e, h]
      rw [e2, valV_neg h]
      exact ih
theorem repT_get {xs : List Val} {k : List Key} (hx : keysOf xs = some k) : ∀ {kvs : List (Val × Val)} {ks : List (List Key × V)}, RepT G H T kvs ks →
    (dGet kvs (.tup xs) = none ∧ valV ks k = none) ∨ ∃ y v, dGet kvs (.tup xs) = some y ∧ valV ks k = some v ∧ RepV G H T y v
  | _, _, .nil => .inl ⟨rfl, rfl⟩
  | (.tup as, b) :: kvs, (j, w) :: ks, .cons hj ra rb t => by
    have e : eqB (.tup as) (.tup xs) = decide (j = k) := by simp only [eqB]; exact keysOf_eq hj hx
    by_cases h : j = k
    · refine .inr ⟨b, w, ?_, valV_pos h, rb⟩
      unfold dGet
      rw [List.find?_cons]
      simp [e, h]
    · have ih := repT_get hx t
      have e2 : dGet ((.tup as, b) :: kvs) (.tup xs) = dGet kvs (.tup xs) := by
        unfold dGet
        rw [List.find?_cons]
        simp [e, h]
      rw [e2, valV_neg h]
      exact ih
theorem dHas_get (kvs : List (Val × Val)) (x : Val) : dHas kvs x = (dGet kvs x).isSome := by
  induction kvs with
  | nil => rfl
  | cons p r ih =>
    unfold dHas dGet at *
    rw [List.any_cons, List.find?_cons]
    cases eqB p.1 x <;> simp [ih]
theorem repK_map {x y : Val} {k : Key} {v : V} (hx : keyOf x = some k) (ry : RepV G H T y v) : ∀ {kvs : List (Val × Val)} {ks : List (Key × V)}, RepK G H T kvs ks → RepK G H T (kvs.map (fun p => if eqB p.1 x = true then (p.1, y) else p)) (ks.map (fun kv => if kv.1 = k then (kv.1, v) else kv))
  | _, _, .nil => .nil
  | (a, b) :: kvs, (j, w) :: ks, .cons hj ra rb t => by
    have ih := repK_map hx ry t
    have e := keyOf_eq hj hx
    simp only [List.map_cons]
    by_cases h : j = k
    · simp only [e, h, decide_true, if_true]
      exact .cons (h ▸ hj) (h ▸ ra) ry ih
    · simp only [e, h, decide_false, if_false, Bool.false_eq_true]
      exact .cons hj ra rb ih
theorem repK_snoc {x y : Val} {k : Key} {v : V} (hx : keyOf x = some k) (rx : RepV G H T x (kV k)) (ry : RepV G H T y v) : ∀ {kvs : List (Val × Val)} {ks : List (Key × V)}, RepK G H T kvs ks → RepK G H T (kvs ++ [(x, y)]) (ks ++ [(k, v)])
  | _, _, .nil => .cons hx rx ry .nil
  | _, _, .cons hj ra rb t => .cons hj ra rb (repK_snoc hx rx ry t)
theorem repK_put {x y : Val} {k : Key} {v : V} (hx : keyOf x = some k) (rx : RepV G H T x (kV k)) (ry : RepV G H T y v) {kvs : List (Val × Val)} {ks : List (Key × V)} (r : RepK G H T kvs ks) : RepK G H T (dPut kvs x y) (putK ks k v) := by
  have h1 : dHas kvs x = (ks.any fun kv => decide (kv.1 = k)) := by
    rw [dHas_get, valV_any]
    rcases repK_get hx r with ⟨a, b⟩ | ⟨_, _, a, b, _⟩ <;> rw [a, b] <;> rfl
  unfold dPut putK
  rw [h1]
  split
  · exact repK_map hx ry r
  · exact repK_snoc hx rx ry r
theorem repT_map {xs : List Val} {y : Val} {k : List Key} {v : V} (hx : keysOf xs = some k) (ry : RepV G H T y v) : ∀ {kvs : List (Val × Val)} {ks : List (List Key × V)}, RepT G H T kvs ks → RepT G H T (kvs.map (fun p => if eqB p.1 (.tup xs) = true then (p.1, y) else p)) (ks.map (fun kv => if kv.1 = k then (kv.1, v) else kv))
  | _, _, .nil => .nil
  | (.tup as, b) :: kvs, (j, w) :: ks, .cons hj ra rb t => by
    have ih := repT_map hx ry t
    have e : eqB (.tup as) (.tup xs) = decide (j = k) := by simp only [eqB]; exact keysOf_eq hj hx
    simp only [List.map_cons]
    by_cases h : j = k
    · simp only [e, h, decide_true, if_true]
      exact .cons (h ▸ hj) (h ▸ ra) ry ih
    · simp only [e, h, decide_false, if_false, Bool.false_eq_true]
      exact .cons hj ra rb ih
theorem repT_snoc {xs : List Val} {y : Val} {k : List Key} {v : V} (hx : keysOf xs = some k) (rx : RepVs G H T xs (k.map kV)) (ry : RepV G H T y v) : ∀ {kvs : List (Val × Val)} {ks : List (List Key × V)}, RepT G H T kvs ks → RepT G H T (kvs ++ [(.tup xs, y)]) (ks ++ [(k, v)])
  | _, _, .nil => .cons hx rx ry .nil
  | _, _, .cons hj ra rb t => .cons hj ra rb (repT_snoc hx rx ry t)
theorem repT_put {xs : List Val} {y : Val} {k : List Key} {v : V} (hx : keysOf xs = some k) (rx : RepVs G H T xs (k.map kV)) (ry : RepV G H T y v) {kvs : List (Val × Val)} {ks : List (List Key × V)} (r : RepT G H T kvs ks) : RepT G H T (dPut kvs (.tup xs) y) (putK ks k v) := by
  have h1 : dHas kvs (.tup xs) = (ks.any fun kv => decide (kv.1 = k)) := by
    rw [dHas_get, valV_any]
    rcases repT_get hx r with ⟨a, b⟩ | ⟨_, _, a, b, _⟩ <;> rw [a, b] <;> rfl
  unfold dPut putK
  rw [h1]
  split
  · exact repT_map hx ry r
  · exact repT_snoc hx rx ry r
theorem RepK.len : ∀ {kvs : List (Val × Val)} {ks : List (Key × V)}, RepK G H T kvs ks → kvs.length = ks.length
  | _, _, .nil => rfl
  | _, _, .cons _ _ _ t => congrArg (· + 1) (RepK.len t)
theorem RepT.len : ∀ {kvs : List (Val × Val)} {ks : List (List Key × V)}, RepT G H T kvs ks → kvs.length = ks.length
  | _, _, .nil => rfl
  | _, _, .cons _ _ _ t => congrArg (· + 1) (RepT.len t)
theorem keyOf_V {x : Val} {k : Key} {v : V} (hx : keyOf x = some k) (r : Now G H T x v) : v = kV k ∧ RepV G H T x v := by
  cases x <;> simp [keyOf] at hx
  · subst hx; cases r with | rep r => exact ⟨by cases r; rfl, r⟩
  · subst hx; cases r with | rep r => exact ⟨by cases r; rfl, r⟩
theorem keyOf_V' {x : Val} {k : Key} {v : V} (hx : keyOf x = some k) (r : RepV G H T x v) : v = kV k := (keyOf_V hx (.rep r)).1
theorem keysOf_V : ∀ {xs : List Val} {k : List Key} {vs : List V}, keysOf xs = some k → RepVs G H T xs vs → vs = k.map kV
  | [], k, _, hx, .nil => by simp [keysOf] at hx; subst hx; rfl
  | x :: xs, k, v :: vs, hx, .cons r t => by
    simp only [keysOf] at hx
    split at hx
    · rename_i k1 ks1 e1 e2
      cases hx
      rw [List.map_cons, keyOf_V' e1 r, keysOf_V e2 t]
    · cases hx
/-- what a dict that is read now holds -/
theorem Now.dget {t : Bool} {kvs : List (Val × Val)} {v : V} {x : Val} {u : V} (h : Now G H T (.dic t kvs) v) (hx : Now G H T x u) (hk : keyIs t x = true) :
    ∃ a, v = .ref a ∧ ((dGet kvs x = none ∧ DGet H a u none) ∨ ∃ y w, dGet kvs x = some y ∧ DGet H a u (some w) ∧ RepV G H T y w) := by
  have fin : ∀ {a : Addr}, (∃ ks, t = false ∧ H a = some (.dK ks) ∧ RepK G H T kvs ks) ∨ (∃ ks, t = true ∧ H a = some (.dT ks) ∧ RepT G H T kvs ks) → ((dGet kvs x = none ∧ DGet H a u none) ∨ ∃ y w, dGet kvs x = some y ∧ DGet H a u (some w) ∧ RepV G H T y w) := fun {a} q => by
    rcases q with ⟨ks, rfl, e, r⟩ | ⟨ks, rfl, e, r⟩
    · cases hkk : keyOf x with
      | none => cases x <;> simp [keyIs, keyOf] at hk hkk
      | some k =>
        obtain rfl := (keyOf_V hkk hx).1
        have d := DGet.k (k := k) e
        rcases repK_get hkk r with ⟨h1, h2⟩ | ⟨y, w, h1, h2, h3⟩
        · rw [h2] at d; exact .inl ⟨h1, d⟩
        · rw [h2] at d; exact .inr ⟨y, w, h1, d, h3⟩
    · cases x with
      | tup xs =>
        simp only [keyIs, Bool.true_and] at hk
        obtain ⟨k, hkk⟩ := Option.isSome_iff_exists.mp hk
        obtain ⟨b, vs, rfl, hb, rv⟩ := hx.tupOf
        obtain rfl := keysOf_V hkk rv
        have d := DGet.t (k := k) e hb
        rcases repT_get hkk r with ⟨h1, h2⟩ | ⟨y, w, h1, h2, h3⟩
        · rw [h2] at d; exact .inl ⟨h1, d⟩
        · rw [h2] at d; exact .inr ⟨y, w, h1, d, h3⟩
      | _ => simp [keyIs] at hk
  cases h with
  | rep r =>
    cases r with
    | dicK e _ r => exact ⟨_, rfl, fin (.inl ⟨_, rfl, e, r⟩)⟩
    | dicT e _ r => exact ⟨_, rfl, fin (.inr ⟨_, rfl, e, r⟩)⟩
  | dicK e r => exact ⟨_, rfl, fin (.inl ⟨_, rfl, e, r⟩)⟩
  | dicT e r => exact ⟨_, rfl, fin (.inr ⟨_, rfl, e, r⟩)⟩
end

/-! ### in -/
def flatA : Val → Bool
  | .non => true
  | .bl _ => true
  | .int _ => true
  | .str _ => true
  | _ => false
def inB : Val → Val → Option Bool
  | x, .tup xs => if (flatA x && xs.all flatA) = true then some (xs.any fun y => eqB y x) else none
  | x, .lst xs => if (okD x 32 && okD (.lst xs) 32) = true then some (xs.any fun y => eqB y x) else none
  | x, .dic t kvs => if keyIs t x = true then some (dHas kvs x) else none
  | .str [c], .str s => some (decide (c ∈ s))
  | _, _ => none
def vIn (x y : Val) : Option SV := (inB x y).map fun b => .v (.bl b)
def vNotIn (x y : Val) : Option SV := (inB x y).map fun b => .v (.bl (!b))
section
variable {G : Gc} {H : Hp} {T : Ts}
theorem RepV.flat {x : Val} {v : V} (r : RepV G H T x v) (h : flatA x = true) : flatV v = true := by
  cases r <;> first | rfl | simp [flatA] at h
theorem RepV.eqf {x y : Val} {v u : V} (r : RepV G H T x v) (q : RepV G H T y u) (hx : flatA x = true) (hy : flatA y = true) : L2.eqV v u = eqB x y := by
  cases r <;> first | (simp [flatA] at hx; done) | (cases q <;> first | (simp [flatA] at hy; done) | rfl | (simp only [L2.eqV, eqB]; exact toS_beq _ _))
theorem Now.flatOf {x : Val} {v : V} (h : Now G H T x v) (hx : flatA x = true) : RepV G H T x v := by
  cases h <;> first | assumption | simp [flatA] at hx
theorem RepVs.flat : ∀ {xs : List Val} {vs : List V}, RepVs G H T xs vs → xs.all flatA = true → vs.all flatV = true
  | _, _, .nil, _ => rfl
  | _, _, .cons r t, h => by
    rw [List.all_cons, Bool.and_eq_true] at h ⊢
    exact ⟨r.flat h.1, RepVs.flat t h.2⟩
theorem RepVs.inf {x : Val} {v : V} (r : RepV G H T x v) (hx : flatA x = true) : ∀ {xs : List Val} {vs : List V}, RepVs G H T xs vs → xs.all flatA = true → inV v vs = xs.any fun y => eqB y x
  | _, _, .nil, _ => rfl
  | _, _, .cons q t, h => by
    rw [List.all_cons, Bool.and_eq_true] at h
    have ih := RepVs.inf r hx t h.2
    unfold inV at ih ⊢
    rw [List.any_cons, List.any_cons, ih, q.eqf r h.1 hx]
theorem any_toPys {x : Val} (n : Nat) (hx : okD x n = true) : ∀ {xs : List Val} (m : Nat), okDs xs m = true → ((toPys xs).any fun z => PyData.eqv z (toPy x)) = xs.any fun y => eqB y x
  | [], _, _ => by simp [toPys]
  | y :: ys, m, h => by
    simp only [okDs, Bool.and_eq_true] at h
    simp only [toPys, List.any_cons, any_toPys n hx m h.2, eqv_eqB y x m n h.1 hx]
end
section
variable {X : Cx} {L : Lx}
def rInD2 : R2 := fun x y H Q => ∃ a o, y = .ref a ∧ DGet H a x o ∧ Q (.bl o.isSome) H
def rNotInD2 : R2 := fun x y H Q => ∃ a o, y = .ref a ∧ DGet H a x o ∧ Q (.bl (!o.isSome)) H
theorem op_in_dict (hu : X.A.units + 1 < cLine) : OpR X (compareOp .In) rInD2 := by
  intro pins s σ H x y v u Q I rx ry ⟨a, o, ey, g, q⟩
  subst ey
  cases (show u = Value.ref a from ry)
  exact d_in hu I g rx fun s3 I3 => ⟨.bl o.isSome, H, I3, rfl, q⟩
theorem op_notin_dict (hu : X.A.units + 1 < cLine) : OpR X (compareOp .NotIn) rNotInD2 := by
  intro pins s σ H x y v u Q I rx ry ⟨a, o, ey, g, q⟩
  subst ey
  cases (show u = Value.ref a from ry)
  exact d_notIn hu I g rx fun s3 I3 => ⟨.bl (!o.isSome), H, I3, rfl, q⟩
theorem in_of {f : Bool → Bool} {r : R2} (x y : V) (H : Hp) (Q : VK) (h : R2m (gx L X) (fun x y => (inB x y).map fun b => .v (.bl (f b))) x y H Q)
    (w1 : ∀ p xs, y = .ref p → (SqL X.K H p xs ∨ SqT X.K H p xs) → flatV x = true → xs.all flatV = true → Q (.bl (f (inV x xs))) H → r x y H Q)
    (w2 : ∀ d ds, Dp X.K H x d → Dp X.K H y (.list ds) → SeqAt.shaped d = true → SeqAt.shaped (.list ds) = true → Q (.bl (f (ds.any fun z => PyData.eqv z d))) H → r x y H Q)
    (w3 : ∀ a o, y = .ref a → DGet H a x o → Q (.bl (f o.isSome)) H → r x y H Q)
    (w4 : ∀ (c : Nat) (z : Str), x = .str ⟨#[c]⟩ → y = .str z → Q (.bl (f (decide (c ∈ z.cps.toList)))) H → r x y H Q) : r x y H Q := by
  obtain ⟨ρ, P, st, a, b, rs, na, nb, p⟩ := h
  cases b with
  | tup xs =>
    have p : POp (gx L X) P ρ st H ((if (flatA a && xs.all flatA) = true then some (xs.any fun y => eqB y a) else none).map fun b => SV.v (.bl (f b))) Q := by cases a <;> exact p
    split at p
    · rename_i h
      rw [Bool.and_eq_true] at h
      obtain ⟨q, vs, rfl, hq, rv⟩ := nb.tupOf
      have ra := na.flatOf h.1
      exact w1 q vs rfl (.inr (.inl (.inl hq))) (ra.flat h.1) (rv.flat h.2) (by rw [rv.inf ra h.1 h.2]; exact p.val rs (.bl _))
    · exact p.elim
  | lst xs =>
    have p : POp (gx L X) P ρ st H ((if (okD a 32 && okD (.lst xs) 32) = true then some (xs.any fun y => eqB y a) else none).map fun b => SV.v (.bl (f b))) Q := by cases a <;> exact p
    split at p
    · rename_i h
      rw [Bool.and_eq_true] at h
      obtain ⟨a1, a2⟩ := na.shaped h.1
      obtain ⟨b1, b2⟩ := nb.shaped h.2
      simp only [toPy] at b1 b2
      exact w2 _ _ a1 b1 a2 b2 (by rw [any_toPys 32 h.1 31 (by simpa [okD] using h.2)]; exact p.val rs (.bl _))
    · exact p.elim
  | dic t kvs =>
    have p : POp (gx L X) P ρ st H ((if keyIs t a = true then some (dHas kvs a) else none).map fun b => SV.v (.bl (f b))) Q := by cases a <;> exact p
    split at p
    · rename_i h
      rw [dHas_get] at p
      obtain ⟨q, rfl, hh⟩ := nb.dget na h
      rcases hh with ⟨e, g⟩ | ⟨y, w, e, g, _⟩
      · rw [e] at p; exact w3 q _ rfl g (p.val rs (.bl _))
      · rw [e] at p; exact w3 q _ rfl g (p.val rs (.bl _))
    · exact p.elim
  | str s =>
    cases a with
    | str t =>
      cases t with
      | nil => exact p.elim
      | cons c t =>
        cases t with
        | cons _ _ => exact p.elim
        | nil => exact w4 c (toS s) na.strOf.1 nb.strOf.1 (p.val rs (.bl _))
    | _ => exact p.elim
  | _ => cases a <;> first | exact p.elim | (rename_i l; cases l <;> first | exact p.elim | (rename_i t; cases t <;> exact p.elim))
theorem op_inM (hu : X.A.units + 65 < cLine) : OpR X (compareOp .In) (R2m (gx L X) vIn) := by
  refine OpR.weak (op_in_seq.or ((op_inD hu).or ((op_in_dict (by omega)).or op_in_sign))) fun x y H Q h => ?_
  exact in_of (f := id) (r := fun x y H Q => _ ∨ _ ∨ _ ∨ _) x y H Q h (fun p xs h1 h2 h3 h4 q => .inl ⟨p, xs, h1, h2, h3, h4, q⟩) (fun d ds h1 h2 h3 h4 q => .inr (.inl ⟨d, ds, h1, h2, h3, h4, q⟩)) (fun a o h1 h2 q => .inr (.inr (.inl ⟨a, o, h1, h2, q⟩))) fun c z h1 h2 q => .inr (.inr (.inr ⟨c, z, h1, h2, q⟩))
theorem op_notInM (hu : X.A.units + 65 < cLine) : OpR X (compareOp .NotIn) (R2m (gx L X) vNotIn) := by
  refine OpR.weak (op_notIn_seq.or ((op_notInD hu).or ((op_notin_dict (by omega)).or op_notIn_sign))) fun x y H Q h => ?_
  exact in_of (f := not) (r := fun x y H Q => _ ∨ _ ∨ _ ∨ _) x y H Q h (fun p xs h1 h2 h3 h4 q => .inl ⟨p, xs, h1, h2, h3, h4, q⟩) (fun d ds h1 h2 h3 h4 q => .inr (.inl ⟨d, ds, h1, h2, h3, h4, q⟩)) (fun a o h1 h2 q => .inr (.inr (.inl ⟨a, o, h1, h2, q⟩))) fun c z h1 h2 q => .inr (.inr (.inr ⟨c, z, h1, h2, q⟩))
end

/-! ### a[i] -/
def vIx : Val → Val → Option SV
  | .tup xs, .int i => (atI xs i).map .v
  | .lst xs, .int i => (atI xs i).map .v
  | .str s, .int i => (atI s i).map fun c => .v (.str [c])
  | .dic t kvs, x => if keyIs t x = true then (dGet kvs x).map .v else none
  | _, _ => none
section
variable {X : Cx} {L : Lx}
def rIxD2 : R2 := fun x y H Q => ∃ a v, x = .ref a ∧ DGet H a y (some v) ∧ Q v H
theorem ix_dict (hu : X.A.units + 1 < cLine) : IxR X rIxD2 := by
  intro value slice pins s σ H x y v u Q I rx ry ⟨a, w, ex, g, q⟩ hs
  subst ex
  cases (show v = Value.ref a from rx)
  exact tail_any (dict_typeIs I g) PySem.F.slot_dict_getitem.lookup (d_getItem hu I g ry fun w' s3 I3 rw' => ⟨w, H, I3, rw', q⟩) hs
theorem RepVs.atI {G : Gc} {H : Hp} {T : Ts} {xs : List Val} {vs : List V} {i : Int} {x : Val} (r : RepVs G H T xs vs) (h : L2.atI xs i = some x) : ∃ v, L2.atI vs i = some v ∧ RepV G H T x v := by
  unfold L2.atI at h ⊢
  rw [← r.len]
  cases e : ixN xs.length i with
  | none => rw [e] at h; cases h
  | some j => rw [e] at h; exact r.get h
theorem ix_M (hu : X.A.units + 1 < cLine) : IxR X (R2m (gx L X) vIx) := by
  refine IxR.weak (ix_seq.or (ix_dict hu)) fun x y H Q ⟨ρ, P, st, a, b, rs, na, nb, p⟩ => ?_
  cases a with
  | tup xs =>
    cases b with
    | int i =>
      obtain ⟨q, vs, rfl, hq, rv⟩ := na.tupOf
      simp only [vIx] at p
      cases e : L2.atI xs i with
      | none => rw [e] at p; exact p.elim
      | some z =>
        rw [e] at p
        obtain ⟨v, hv, r⟩ := rv.atI e
        exact .inl (.inr (.inl ⟨q, vs, i, v, rfl, nb.intOf, .inl (.inl hq), hv, p.val rs r⟩))
    | _ => exact p.elim
  | lst xs =>
    cases b with
    | int i =>
      obtain ⟨q, vs, rfl, hq, rv⟩ := na.lstOf
      simp only [vIx] at p
      cases e : L2.atI xs i with
      | none => rw [e] at p; exact p.elim
      | some z =>
        rw [e] at p
        obtain ⟨v, hv, r⟩ := rv.atI e
        exact .inl (.inl ⟨q, vs, i, v, rfl, nb.intOf, .inl (.inl hq), hv, p.val rs r⟩)
    | _ => exact p.elim
  | str s =>
    cases b with
    | int i =>
      obtain ⟨ex, sx⟩ := na.strOf
      simp only [vIx] at p
      cases e : L2.atI s i with
      | none => rw [e] at p; exact p.elim
      | some c =>
        rw [e] at p
        have hc : SOk [c] = true := by
          obtain ⟨j, _, h2, _⟩ := atI_get e
          exact sok_one sx h2
        exact .inl (.inr (.inr ⟨toS s, i, c, ex, nb.intOf, sok_size sx, by simpa using e, p.val rs (.str [c] hc)⟩))
    | _ => exact p.elim
  | dic t kvs =>
    simp only [vIx] at p
    split at p
    · rename_i h
      obtain ⟨q, rfl, hh⟩ := na.dget nb h
      rcases hh with ⟨e, g⟩ | ⟨z, w, e, g, r⟩
      · rw [e] at p; exact p.elim
      · rw [e] at p; exact .inr ⟨q, w, rfl, g, p.val rs r⟩
    · exact p.elim
  | _ => cases b <;> exact p.elim
end

/-! ### a[i:j] -/
def cutL {α : Type} (xs : List α) (lo hi : Option Int) : List α := (xs.drop (HT.sIx xs.length 0 lo)).take (HT.sIx xs.length xs.length hi - HT.sIx xs.length 0 lo)
def vSl : Val → Option Int → Option Int → Option SV
  | .tup xs, lo, hi => some (.v (.tup (cutL xs lo hi)))
  | .lst xs, lo, hi => some (.fl (cutL xs lo hi))
  | .str s, lo, hi => some (.v (.str (cutL s lo hi)))
  | _, _, _ => none
abbrev Fp := Env → Sto → Rv (Option Int)
def pNo : Fp := fun _ st => .ok none st
def pInt (z : SV) (st : Sto) : Rv (Option Int) := match z with
  | .v (.int i) => .ok (some i) st
  | _ => .bad
def pAt (fa : Fe) : Fp := fun env st => (fa env st).bind pInt
def eSl (fa : Fe) (fl fu : Fp) : Fe := fun env st => (fa env st).bind fun x st1 => (fl env st1).bind fun lo st2 => (fu env st2).bind fun hi st3 => outO ((x.val st3).bind fun a => vSl a lo hi) st3
def PostP (G : Gc) (W : WX) (σ : L2.St) (P : Ts) (ρ : Rho) (H : Hp) (r : Rv (Option Int)) (Q : Option Int → Hp → Prop) : Prop := match r with
  | .ok b st' => ∀ H', Kp (Tr ρ) H (Tr ρ) H' → RepS G H' P ρ st' → Q b H'
  | .exc e st' => ∀ cls d H', Kp (Tr ρ) H (Tr ρ) H' → RepS G H' P ρ st' → RepEx G H' e cls d → W cls d σ H'
  | .bad => False
def TPm (G : Gc) (W : WX) (f : Fp) : TO := fun σ H Q => ∃ env st ρ P, RepE G H P ρ env σ ∧ RepS G H P ρ st ∧ PostP G W σ P ρ H (f env st) Q
abbrev EP (L : Lx) (X : Cx) (W : WX) (e : Option Expr) (f : Fp) : Prop := PO X e (TPm (gx L X) W f)
theorem PO.weak {X : Cx} {e : Option Expr} {t t' : TO} (h : PO X e t) (w : ∀ σ H Q, t' σ H Q → t σ H Q) : PO X e t' := ⟨fun pins s σ H Q I q => h.run pins s σ H Q I (w σ H Q q)⟩
def rSlM (G : Gc) : V → Option Int → Option Int → Hp → VK → Prop := fun x lo hi H Q => ∃ ρ P st a, RepS G H P ρ st ∧ Now G H (TP P ρ) a x ∧ POp G P ρ st H (vSl a lo hi) Q
theorem SlR.weak {X : Cx} {r r' : V → Option Int → Option Int → Hp → VK → Prop} (h : L2.SlR X r) (w : ∀ x lo hi H Q, r' x lo hi H Q → r x lo hi H Q) : L2.SlR X r' := fun pins s σ H x v vl vu lo hi sl Q I rx hs pl pu q => h pins s σ H x v vl vu lo hi sl Q I rx hs pl pu (w x lo hi H Q q)
section
variable {X : Cx} {L : Lx}
theorem sIx_le' (n d : Nat) (hd : d ≤ n) (o : Option Int) : HT.sIx n d o ≤ n := by
  cases o with
  | none => exact hd
  | some v =>
    show (if v < 0 then (v + (n : Int)).toNat else min v.toNat n) ≤ n
    split <;> omega
theorem sok_cut {s : List Nat} (h : SOk s = true) (lo hi : Option Int) : SOk (cutL s lo hi) = true := by
  unfold SOk at h ⊢
  simp only [Bool.and_eq_true, List.all_eq_true, decide_eq_true_eq] at h ⊢
  refine ⟨?_, fun x hx => h.2 x (List.mem_of_mem_drop (List.mem_of_mem_take hx))⟩
  have : (cutL s lo hi).length ≤ s.length := by unfold cutL; rw [List.length_take, List.length_drop]; omega
  omega
theorem sl_M : L2.SlR X (rSlM (gx L X)) := by
  refine SlR.weak ((sl_tupA (X := X)).or (sl_list.or sl_str)) fun x lo hi H Q ⟨ρ, P, st, a, rs, na, p⟩ => ?_
  cases a with
  | tup xs =>
    obtain ⟨q, vs, rfl, hq, rv⟩ := na.tupOf
    have hl := rv.len
    refine .inl ⟨q, vs, rfl, .inl (.inl hq), fun hw => ?_, fun hw p' hp => ?_⟩
    · have e : cutL xs lo hi = xs := by
        unfold cutL
        rw [hl, hw.1, hw.2, ← hl]
        simp
      simp only [vSl, e] at p
      exact p.val rs (.tup hq rv)
    · refine p.tup rs hp ?_
      unfold cutL cutV
      rw [← hl]
      exact (rv.drop _).take _
  | lst xs =>
    obtain ⟨q, vs, rfl, hq, rv⟩ := na.lstOf
    have hl := rv.len
    refine .inr (.inl ⟨q, vs, rfl, .inl (.inl hq), fun p' hp => p.lst rs hp ?_⟩)
    unfold cutL cutV
    rw [← hl]
    exact (rv.drop _).take _
  | str s =>
    obtain ⟨ex, sx⟩ := na.strOf
    refine .inr (.inr ⟨toS s, ex, sok_size sx, ?_⟩)
    have e : cutS (toS s) lo hi = toS (cutL s lo hi) := by
      unfold cutS cutL
      simp [Str.length]
    rw [e]
    exact p.val rs (.str _ (sok_cut sx lo hi))
  | _ => exact p.elim
variable {W : WX} {e : Expr} {fe : Fe} {lo hi : Option Expr} {fl fu : Fp} {pos p2 : Pos}
theorem ep_none : EP L X W none pNo := PO.weak po_none fun σ H Q ⟨env, st, ρ, P, re, rs, p⟩ => p H Kp.refl rs
theorem ep_some (h : EE L X W e fe) : EP L X W (some e) (pAt fe) := by
  refine PO.weak (po_some h) fun σ H Q ⟨env, st, ρ, P, re, rs, p⟩ => ⟨env, st, ρ, P, re, rs, ?_⟩
  unfold pAt at p
  cases h : fe env st with
  | bad => rw [h] at p; exact p
  | exc ex s => rw [h] at p; exact p
  | ok z s =>
    rw [h] at p
    intro v H' k rs' rx
    have p : PostP (gx L X) W σ P ρ H (pInt z s) Q := p
    cases rx with
    | v r => cases r <;> first | exact p.elim | exact ⟨_, rfl, p H' k rs'⟩
    | _ => exact p.elim
theorem PostP.step {G : Gc} {σ : L2.St} {P : Ts} {ρ : Rho} {H H1 : Hp} {r : Rv SV} {Q : VK} (k : Kp (Tr ρ) H (Tr ρ) H1) (p : Post G W σ P ρ H r Q) : Post G W σ P ρ H1 r Q := p.step k
theorem ee_sl (he : EE L X W e fe) (hl : EP L X W lo fl) (hu : EP L X W hi fu) : EE L X W (.Subscript e (.Slice lo hi none p2) pos) (eSl fe fl fu) := by
  refine PE.weak (pe_slice (sl_M (L := L)) he hl hu) fun σ H Q ⟨env, st, ρ, P, re, rs, p⟩ => ⟨env, st, ρ, P, re, rs, p.then fun x st1 v H1 k1 rs1 rx p => ?_⟩
  refine ⟨env, st1, ρ, P, re.ext k1 rs, rs1, ?_⟩
  cases h1 : fl env st1 with
  | bad => rw [h1] at p; exact p
  | exc ex s => rw [h1] at p; exact p
  | ok l st2 =>
    rw [h1] at p
    intro H2 k2 rs2
    refine ⟨env, st2, ρ, P, (re.ext k1 rs).ext k2 rs1, rs2, ?_⟩
    have p := Post.step k2 p
    have p : Post (gx L X) W σ P ρ H2 ((fu env st2).bind fun hi st3 => outO ((x.val st3).bind fun a => vSl a l hi) st3) Q := p
    cases h2 : fu env st2 with
    | bad => rw [h2] at p; exact p
    | exc ex s => rw [h2] at p; exact p
    | ok u st3 =>
      rw [h2] at p
      intro H3 k3 rs3
      have p := POp.of (Post.step k3 p)
      cases h3 : x.val st3 with
      | none => rw [h3] at p; exact p.elim
      | some a =>
        rw [h3] at p
        exact ⟨ρ, P, st3, a, rs3, rx.now2 rs1 (k2.trans k3) rs3 h3, p⟩
end
end Eng

namespace Eng
open PySem PySem.Spec PyProof.Rows L2

/-! ### calls of built-in things -/
def valsOf (st : Sto) : List SV → Option (List Val)
  | [] => some []
  | z :: zs => match z.val st, valsOf st zs with
    | some x, some xs => some (x :: xs)
    | _, _ => none
def eB (o : List Val → Option SV) (fa : Env → Sto → Rv (List SV)) : Fe := fun env st => (fa env st).bind fun zs st1 => outO ((valsOf st1 zs).bind o) st1
inductive NowL (G : Gc) (H : Hp) (T : Ts) : List Val → List V → Prop
  | nil : NowL G H T [] []
  | cons {x : Val} {v : V} {xs : List Val} {vs : List V} : Now G H T x v → NowL G H T xs vs → NowL G H T (x :: xs) (v :: vs)
def RLm (G : Gc) (o : List Val → Option SV) : List V → Hp → VK → Prop := fun vs H Q => ∃ ρ P st as, RepS G H P ρ st ∧ NowL G H (TP P ρ) as vs ∧ POp G P ρ st H (o as) Q
def RMm (G : Gc) (o : Val → List Val → Option SV) : V → List V → Hp → VK → Prop := fun x vs H Q => ∃ ρ P st a as, RepS G H P ρ st ∧ Now G H (TP P ρ) a x ∧ NowL G H (TP P ρ) as vs ∧ POp G P ρ st H (o a as) Q
/-- the receiver's type -/
def rcv (T : String) : Option Val → Bool
  | some (.str _) => T == "str"
  | some (.lst _) => T == "list"
  | _ => false
/-- a method that only reads -/
def eM (T : String) (o : Val → List Val → Option SV) (fo : Fe) (fa : Env → Sto → Rv (List SV)) : Fe := fun env st => (fo env st).bind fun z st1 => if rcv T (z.val st1) = true then
  (fa env st1).bind fun zs st2 => outO ((z.val st2).bind fun a => (valsOf st2 zs).bind fun as => o a as) st2 else .bad
section
variable {G : Gc} {H : Hp} {P : Ts} {ρ : Rho} {st : Sto}
theorem RepZs.nowL (rs : RepS G H P ρ st) : ∀ {zs : List SV} {vs : List V} {xs : List Val}, RepZs G H P ρ zs vs → valsOf st zs = some xs → NowL G H (TP P ρ) xs vs
  | _, _, _, .nil, e => by cases e; exact .nil
  | z :: zs, _, xs, .cons r t, e => by
    simp only [valsOf] at e
    split at e
    · rename_i x ys e1 e2
      cases e
      exact .cons (r.now rs e1) (RepZs.nowL rs t e2)
    · cases e
end
section
variable {X : Cx} {L : Lx} {W : WX} {x : Str} {p pos apos : Pos} {e o : Expr} {es : List Expr} {id T : String} {f : List Val → Option SV} {g : Val → List Val → Option SV} {fa : Env → Sto → Rv (List SV)} {fo : Fe}
theorem callB_tm (σ : L2.St) (H : Hp) (Q : VK) (h : TEm (gx L X) W (eB f fa) σ H Q) : tCB (RLm (gx L X) f) (TAm (gx L X) W fa) σ H Q := by
  obtain ⟨env, st, ρ, P, re, rs, p⟩ := h
  refine ⟨env, st, ρ, P, re, rs, PostA.then p fun zs st1 vs H1 k rs1 rz p => ?_⟩
  have p := POp.of p
  cases h1 : valsOf st1 zs with
  | none => rw [h1] at p; exact p.elim
  | some xs => rw [h1] at p; exact ⟨ρ, P, st1, xs, rs1, rz.nowL rs1 h1, p⟩
theorem ee_callB (hc : CallR X (.builtin id) (RLm (gx L X) f)) (hg : Gl X x) (hm : X.mg x = none) (hv : bootBuiltins x = some (.builtin id)) (ha : EA L X W (e :: es) fa) (hn : x ≠ "__name__" := by decide) (hdb : (x == ("__debug__" : Str)) = false := by decide)
    (he : starEach (e :: es) X.env = (false, eval e X.env) :: starEach es X.env := by rfl) (hpl : (backTo pos (starEach es X.env)).any (·.1) = false := by rfl) : EE L X W (.Call (.Name x p) (e :: es) [] pos) (eB f fa) :=
  PE.weak (pe_callB hc hg hm hv ha hn hdb he hpl) callB_tm
theorem ee_callTy (hc : CallR X (.type T) (RLm (gx L X) f)) (hg : Gl X x) (hm : X.mg x = none) (hv : bootBuiltins x = some (.type T)) (ha : EA L X W (e :: es) fa) (hn : x ≠ "__name__" := by decide) (hdb : (x == ("__debug__" : Str)) = false := by decide)
    (he : starEach (e :: es) X.env = (false, eval e X.env) :: starEach es X.env := by rfl) (hpl : (backTo pos (starEach es X.env)).any (·.1) = false := by rfl) : EE L X W (.Call (.Name x p) (e :: es) [] pos) (eB f fa) :=
  PE.weak (pe_callTy hc hg hm hv ha hn hdb he hpl) callB_tm
/-- the name of a built-in type -/
theorem ee_ty (n : String) (hg : Gl X x) (hm : X.mg x = none) (hv : bootBuiltins x = some (.type n)) (hn : x ≠ "__name__" := by decide) (hdb : (x == ("__debug__" : Str)) = false := by decide) : EE L X W (.Name x pos) (eC (.ty n)) :=
  ee_C (pe_bltn (v := .ty n) hg hm hv rfl hn hdb) fun _ _ => .ty n
/-- a module's number, text -/
theorem ee_gint (i : Int) {u : Value} (hg : Gl X x) (hm : X.mg x = some u) (r : RelV (.int i) u) (hd : (x == ("__debug__" : Str)) = false := by decide) : EE L X W (.Name x pos) (eC (.int i)) := ee_C (pe_glob hg hm r hd) fun _ _ => .int i
theorem ee_gstr (l : List Nat) {u : Value} (hg : Gl X x) (hm : X.mg x = some u) (r : RelV (.str (toS l)) u) (hl : SOk l = true := by rfl) (hd : (x == ("__debug__" : Str)) = false := by decide) : EE L X W (.Name x pos) (eC (.str l)) := ee_C (pe_glob hg hm r hd) fun _ _ => .str l hl
/-- any other thing of the module -/
theorem ee_glob {u : Value} {v : V} (hg : Gl X x) (hm : X.mg x = some u) (r : RelV v u) (hd : (x == ("__debug__" : Str)) = false := by decide) : EE L X W (.Name x pos) (eC (.glb x)) := ee_C (pe_glob hg hm r hd) fun _ _ => .glb hm r
theorem rcv_ty {G : Gc} {H : Hp} {T : Ts} {t : String} {a : Val} {v : V} (h : Now G H T a v) (ht : rcv t (some a) = true) : tyV G.K t v H := by
  cases a with
  | str s =>
    obtain ⟨rfl, _⟩ := h.strOf
    exact eq_of_beq ht
  | lst xs =>
    obtain ⟨b, us, rfl, hh, _⟩ := h.lstOf
    exact .inl ⟨eq_of_beq ht, us, .inl (.inl hh)⟩
  | _ => simp [rcv] at ht
/-- o.m(e, ..), a method that reads -/
theorem ee_bm {r : V → List V → Hp → VK → Prop} {name : Str} (pa : PlainAttrs T) (slot : Slot T name id) (hty : typeOf (.builtin id) = pure (.type "method_descriptor")) (hm : MtR X id r)
    (hw : ∀ x xs H Q, RMm (gx L X) g x xs H Q → r x xs H Q) (ho : EE L X W o fo) (ha : EA L X W (e :: es) fa)
    (hbase : attributeBase o name X.env (eval o X.env) = eval o X.env := by rfl)
    (hfew : ((backTo pos (starEach (e :: es) X.env)).all (fun x => !x.1) && (backToKw pos (keywordEach [] X.env)).all (fun x => x.1.isSome)
      && decide ((e :: es).length + ([] : List Keyword).length + (if ([] : List Keyword).isEmpty then 0 else 1) < 30)) = true := by rfl)
    (hline : (apos.endLine == pos.line) = true := by rfl) (hs : starEach (e :: es) X.env = (false, eval e X.env) :: starEach es X.env := by rfl) (hplain : (backTo pos (starEach es X.env)).any (·.1) = false := by rfl) :
    EE L X W (.Call (.Attribute o name apos) (e :: es) [] pos) (eM T g fo fa) := by
  refine PE.weak (pe_bm pa slot hty hm ho ha hbase hfew hline hs hplain) fun σ H Q ⟨env, st, ρ, P, re, rs, p⟩ => ⟨env, st, ρ, P, re, rs, ?_⟩
  refine Post.then p fun z st1 v H1 k1 rs1 rx p => ?_
  split at p
  · rename_i hr
    refine ⟨?_, env, st1, ρ, P, re.ext k1 rs, rs1, ?_⟩
    · cases h3 : z.val st1 with
      | none => rw [h3] at hr; cases hr
      | some a => rw [h3] at hr; exact rcv_ty (rx.now rs1 h3) hr
    · refine PostA.then p fun zs st2 vs H2 k2 rs2 rz p => ?_
      have p := POp.of p
      cases h3 : z.val st2 with
      | none => rw [h3] at p; exact p.elim
      | some a =>
        cases h4 : valsOf st2 zs with
        | none => rw [h3, h4] at p; exact p.elim
        | some as =>
          rw [h3, h4] at p
          exact hw _ _ _ _ ⟨ρ, P, st2, a, as, rs2, rx.now2 rs1 k2 rs2 h3, rz.nowL rs2 h4, p⟩
  · exact p.elim
end

/-! ### isinstance -/
def tyN : Val → String
  | .non => "NoneType"
  | .bl _ => "bool"
  | .int _ => "int"
  | .str _ => "str"
  | .tup _ => "tuple"
  | .lst _ => "list"
  | .dic _ _ => "dict"
  | .glb _ => ""
  | .ty _ => ""
  | .seq _ => ""
  | .exn _ _ => ""
def isT (m n : String) : Bool := m == n || (m == "bool" && n == "int")
def tyAll : List String := ["NoneType", "bool", "int", "str", "tuple", "list", "dict"]
def isiV (x : Val) (n : String) : Option Bool := if (tyAll.contains (tyN x) && tyAll.contains n) = true then some (isT (tyN x) n) else none
def vIsi : List Val → Option SV
  | [x, .ty n] => (isiV x n).map fun b => .v (.bl b)
  | _ => none
theorem kit_tab : ∀ m ∈ tyAll, ∀ n ∈ tyAll, kitB m n = some (isT m n) := by decide +kernel
section
variable {G : Gc} {H : Hp} {T : Ts}
theorem Now.tyX {x : Val} {v : V} (h : Now G H T x v) (ht : tyAll.contains (tyN x) = true) : TyX G.K H v (.type (tyN x)) := by
  cases h with
  | rep r =>
    cases r with
    | non => exact .base .non
    | bl b => exact .base (.bl b)
    | int i => exact .base (.int i)
    | str l _ => exact .base (.str _)
    | tup h _ => exact .base (.tup h)
    | lst h _ _ => exact .base (.lst h)
    | dicK h _ _ => exact .base (.dK h)
    | dicT h _ _ => exact .base (.dT h)
    | glb _ _ => simp [tyN, tyAll] at ht
    | ty n => simp [tyN, tyAll] at ht
    | seqH _ _ _ => simp [tyN, tyAll] at ht
    | seqK _ _ => simp [tyN, tyAll] at ht
    | exn _ _ => simp [tyN, tyAll] at ht
  | lst h _ => exact .base (.lst h)
  | dicK h _ => exact .base (.dK h)
  | dicT h _ => exact .base (.dT h)
theorem NowL.two {x y : Val} {vs : List V} (h : NowL G H T [x, y] vs) : ∃ v u, vs = [v, u] ∧ Now G H T x v ∧ Now G H T y u := by
  cases h with | cons a t => cases t with | cons b t => cases t with | nil => exact ⟨_, _, rfl, a, b⟩
theorem NowL.one {x : Val} {vs : List V} (h : NowL G H T [x] vs) : ∃ v, vs = [v] ∧ Now G H T x v := by
  cases h with | cons a t => cases t with | nil => exact ⟨_, rfl, a⟩
theorem NowL.none {vs : List V} (h : NowL G H T [] vs) : vs = [] := by cases h; rfl
end
section
variable {X : Cx} {L : Lx}
theorem cb_isi : CallR X (.builtin "isinstance") (RLm (gx L X) vIsi) := by
  refine CallR.weak call_isi fun vs H Q ⟨ρ, P, st, as, rs, nl, p⟩ => ?_
  unfold vIsi at p
  split at p
  · rename_i x n
    obtain ⟨v, u, rfl, nx, ny⟩ := nl.two
    obtain rfl := ny.tyOf
    unfold isiV at p
    split at p
    · rename_i h
      rw [Bool.and_eq_true] at h
      exact ⟨v, .ty n, _, _, isT (tyN x) n, rfl, .ty n, nx.tyX h.1, kit_ty (kit_tab _ (by simpa using h.1) _ (by simpa using h.2)), p.val rs (.bl _)⟩
    · exact p.elim
  · exact p.elim
/-! ### len, abs, int, str -/
def vLen : List Val → Option SV
  | [.tup xs] => some (.v (.int xs.length))
  | [.lst xs] => some (.v (.int xs.length))
  | [.str s] => some (.v (.int s.length))
  | [.dic false kvs] => some (.v (.int kvs.length))
  | _ => none
theorem cb_len : CallR X (.builtin "len") (RLm (gx L X) vLen) := by
  have or' : CallR X (.builtin "len") (fun xs H Q => (∃ x n, xs = [x] ∧ LenV X.K x H n ∧ Q (.int n) H) ∨ (∃ a kvs, xs = [V.ref a] ∧ H a = some (.dK kvs) ∧ Q (.int kvs.length) H)) := fun pins s σ H xs us Q I r h => by
    rcases h with h | h
    · exact call_len pins s σ H xs us Q I r h
    · exact call_lenD pins s σ H xs us Q I r h
  refine CallR.weak or' fun vs H Q ⟨ρ, P, st, as, rs, nl, p⟩ => ?_
  unfold vLen at p
  split at p
  · rename_i xs
    obtain ⟨v, rfl, nx⟩ := nl.one
    obtain ⟨a, us, rfl, h, r⟩ := nx.tupOf
    exact .inl ⟨_, xs.length, rfl, .inr ⟨us, .inl (.inl h), r.len⟩, p.val rs (.int _)⟩
  · rename_i xs
    obtain ⟨v, rfl, nx⟩ := nl.one
    obtain ⟨a, us, rfl, h, r⟩ := nx.lstOf
    exact .inl ⟨_, xs.length, rfl, .inl ⟨us, .inl (.inl h), r.len⟩, p.val rs (.int _)⟩
  · rename_i s
    obtain ⟨v, rfl, nx⟩ := nl.one
    obtain ⟨rfl, hs⟩ := nx.strOf
    exact .inl ⟨_, s.length, rfl, ⟨sok_size hs, by simp [Str.length]⟩, p.val rs (.int _)⟩
  · rename_i kvs
    obtain ⟨v, rfl, nx⟩ := nl.one
    cases nx with
    | rep r => cases r with | dicK h _ r => exact .inr ⟨_, _, rfl, h, by rw [← r.len]; exact p.val rs (.int _)⟩
    | dicK h r => exact .inr ⟨_, _, rfl, h, by rw [← r.len]; exact p.val rs (.int _)⟩
  · exact p.elim
def vAbs : List Val → Option SV
  | [.int i] => some (.v (.int (if i < 0 then -i else i)))
  | _ => none
theorem cb_abs : CallR X (.builtin "abs") (RLm (gx L X) vAbs) := by
  refine CallR.weak call_abs fun vs H Q ⟨ρ, P, st, as, rs, nl, p⟩ => ?_
  unfold vAbs at p
  split at p
  · rename_i i
    obtain ⟨v, rfl, nx⟩ := nl.one
    obtain rfl := nx.intOf
    exact ⟨i, rfl, p.val rs (.int _)⟩
  · exact p.elim
def vInt : List Val → Option SV
  | [.int i] => some (.v (.int i))
  | [.bl b] => some (.v (.int (if b then 1 else 0)))
  | _ => none
theorem cb_int : CallR X (.type "int") (RLm (gx L X) vInt) := by
  refine CallR.weak call_int1 fun vs H Q ⟨ρ, P, st, as, rs, nl, p⟩ => ?_
  unfold vInt at p
  split at p
  · rename_i i
    obtain ⟨v, rfl, nx⟩ := nl.one
    obtain rfl := nx.intOf
    exact .inl ⟨i, rfl, p.val rs (.int _)⟩
  · rename_i b
    obtain ⟨v, rfl, nx⟩ := nl.one
    obtain rfl := nx.blOf
    exact .inr ⟨b, rfl, p.val rs (.int _)⟩
  · exact p.elim
def vStr : List Val → Option SV
  | [.str s] => some (.v (.str s))
  | _ => none
theorem cb_str : CallR X (.type "str") (RLm (gx L X) vStr) := by
  refine CallR.weak SkE.call_str_str fun vs H Q ⟨ρ, P, st, as, rs, nl, p⟩ => ?_
  unfold vStr at p
  split at p
  · rename_i s
    obtain ⟨v, rfl, nx⟩ := nl.one
    obtain ⟨rfl, hs⟩ := nx.strOf
    exact ⟨_, rfl, p.val rs (.str _ hs)⟩
  · exact p.elim
/-! ### tuple, list -/
def vTuple : List Val → Option SV
  | [.tup xs] => some (.v (.tup xs))
  | [.lst xs] => some (.v (.tup xs))
  | _ => none
theorem cb_tuple : CallR X (.type "tuple") (RLm (gx L X) vTuple) := by
  refine CallR.weak call_tuple_of fun vs H Q ⟨ρ, P, st, as, rs, nl, p⟩ => ?_
  unfold vTuple at p
  split at p
  · rename_i xs
    obtain ⟨v, rfl, nx⟩ := nl.one
    obtain ⟨a, us, rfl, h, r⟩ := nx.tupOf
    exact ⟨a, us, rfl, .inr ⟨.inl (.inl h), p.val rs (.tup h r)⟩⟩
  · rename_i xs
    obtain ⟨v, rfl, nx⟩ := nl.one
    obtain ⟨a, us, rfl, h, r⟩ := nx.lstOf
    exact ⟨a, us, rfl, .inl ⟨.inl (.inl h), fun l hl => p.tup rs hl r⟩⟩
  · exact p.elim
def vList : List Val → Option SV
  | [.tup xs] => some (.fl xs)
  | [.lst xs] => some (.fl xs)
  | [.seq xs] => some (.fl xs)
  | _ => none
theorem cb_list : CallR X (.type "list") (RLm (gx L X) vList) := by
  refine CallR.weak call_list_of fun vs H Q ⟨ρ, P, st, as, rs, nl, p⟩ => ?_
  unfold vList at p
  split at p
  · rename_i xs
    obtain ⟨v, rfl, nx⟩ := nl.one
    obtain ⟨a, us, rfl, h, r⟩ := nx.tupOf
    exact ⟨a, us, rfl, .inr (.inl (.inl h)), fun l hl => p.lst rs hl r⟩
  · rename_i xs
    obtain ⟨v, rfl, nx⟩ := nl.one
    obtain ⟨a, us, rfl, h, r⟩ := nx.lstOf
    exact ⟨a, us, rfl, .inl (.inl (.inl h)), fun l hl => p.lst rs hl r⟩
  · rename_i xs
    obtain ⟨v, rfl, nx⟩ := nl.one
    cases nx with
    | rep r =>
      cases r with
      | seqH h _ r => exact ⟨_, _, rfl, .inl (.inl h), fun l hl => p.lst rs hl r⟩
      | seqK h r => exact ⟨_, _, rfl, .inl (h _), fun l hl => p.lst rs hl r⟩
  · exact p.elim
end
/-! ### all, any, sum, max, min, sorted -/
def blsOf : List Val → Option (List Bool)
  | [] => some []
  | x :: r => match x, blsOf r with
    | .bl b, some bs => some (b :: bs)
    | _, _ => none
def intsOf : List Val → Option (List Int)
  | [] => some []
  | x :: r => match x, intsOf r with
    | .int b, some bs => some (b :: bs)
    | _, _ => none
def strsOf : List Val → Option (List (List Nat))
  | [] => some []
  | x :: r => match x, strsOf r with
    | .str b, some bs => some (b :: bs)
    | _, _ => none
section
variable {G : Gc} {H : Hp} {T : Ts}
theorem RepVs.bls : ∀ {xs : List Val} {vs : List V} {bs : List Bool}, RepVs G H T xs vs → blsOf xs = some bs → vs = bs.map V.bl
  | _, _, _, .nil, e => by cases e; rfl
  | x :: xs, _, bs, .cons r t, e => by
    simp only [blsOf] at e
    split at e
    · rename_i b cs e2
      cases e
      cases r
      rw [RepVs.bls t e2, List.map_cons]
    · cases e
theorem RepVs.ints : ∀ {xs : List Val} {vs : List V} {bs : List Int}, RepVs G H T xs vs → intsOf xs = some bs → vs = bs.map V.int
  | _, _, _, .nil, e => by cases e; rfl
  | x :: xs, _, bs, .cons r t, e => by
    simp only [intsOf] at e
    split at e
    · rename_i b cs e2
      cases e
      cases r
      rw [RepVs.ints t e2, List.map_cons]
    · cases e
theorem RepVs.strs : ∀ {xs : List Val} {vs : List V} {bs : List (List Nat)}, RepVs G H T xs vs → strsOf xs = some bs → vs = (bs.map toS).map V.str ∧ ∀ b ∈ bs, SOk b = true
  | _, _, _, .nil, e => by cases e; exact ⟨rfl, fun _ h => by cases h⟩
  | x :: xs, _, bs, .cons r t, e => by
    simp only [strsOf] at e
    split at e
    · rename_i b cs e2
      cases e
      cases r with
      | str _ h =>
        obtain ⟨h1, h2⟩ := RepVs.strs t e2
        exact ⟨by rw [h1]; rfl, fun c hc => by
          rcases List.mem_cons.mp hc with rfl | hc
          · exact h
          · exact h2 c hc⟩
    · cases e
theorem RepVs.ofInts : ∀ (ns : List Int), RepVs G H T (ns.map Val.int) (ns.map V.int)
  | [] => .nil
  | n :: ns => .cons (.int n) (RepVs.ofInts ns)
theorem RepVs.ofStrs : ∀ (ns : List (List Nat)), (∀ b ∈ ns, SOk b = true) → RepVs G H T (ns.map Val.str) ((ns.map toS).map V.str)
  | [], _ => .nil
  | n :: ns, h => .cons (.str n (h n (by simp))) (RepVs.ofStrs ns fun b hb => h b (by simp [hb]))
end
def leS (a b : List Nat) : Bool := !decide (b < a)
def leI (a b : Int) : Bool := decide (a ≤ b)
/-- a sort that the kernel can run -/
def insL {α : Type} (le : α → α → Bool) (a : α) : List α → List α
  | [] => [a]
  | b :: r => if le a b = true then a :: b :: r else b :: insL le a r
def isort {α : Type} (le : α → α → Bool) : List α → List α
  | [] => []
  | a :: r => insL le a (isort le r)
theorem insL_perm {α : Type} (le : α → α → Bool) (a : α) : ∀ xs : List α, (insL le a xs).Perm (a :: xs)
  | [] => .refl _
  | b :: r => by
    unfold insL
    split
    · exact .refl _
    · exact ((insL_perm le a r).cons b).trans (.swap a b r)
theorem isort_perm {α : Type} (le : α → α → Bool) : ∀ xs : List α, (isort le xs).Perm xs
  | [] => .refl _
  | a :: r => (insL_perm le a _).trans ((isort_perm le r).cons a)
theorem insL_pair {α : Type} {le : α → α → Bool} (tr : ∀ a b c, le a b = true → le b c = true → le a c = true) (tot : ∀ a b, (le a b || le b a) = true) (a : α) : ∀ xs : List α, xs.Pairwise (fun a b => le a b = true) → (insL le a xs).Pairwise fun a b => le a b = true
  | [], _ => by simp [insL]
  | b :: r, h => by
    rw [List.pairwise_cons] at h
    unfold insL
    split
    · rename_i q
      refine List.pairwise_cons.mpr ⟨fun c hc => ?_, List.pairwise_cons.mpr h⟩
      rcases List.mem_cons.mp hc with rfl | hc
      · exact q
      · exact tr _ _ _ q (h.1 c hc)
    · rename_i q
      refine List.pairwise_cons.mpr ⟨fun c hc => ?_, insL_pair tr tot a r h.2⟩
      rcases List.mem_cons.mp ((insL_perm le a r).mem_iff.mp hc) with rfl | hc
      · have := tot c b
        rw [Bool.or_eq_true] at this
        exact this.resolve_left q
      · exact h.1 c hc
theorem isort_pair {α : Type} {le : α → α → Bool} (tr : ∀ a b c, le a b = true → le b c = true → le a c = true) (tot : ∀ a b, (le a b || le b a) = true) : ∀ xs : List α, (isort le xs).Pairwise fun a b => le a b = true
  | [] => .nil
  | a :: r => insL_pair tr tot a _ (isort_pair tr tot r)
def sortS (xs : List (List Nat)) : List (List Nat) := isort leS xs
def sortI (xs : List Int) : List Int := isort leI xs
theorem leS_trans (a b c : List Nat) (h : leS a b = true) (h' : leS b c = true) : leS a c = true := by
  unfold leS at *
  simp only [Bool.not_eq_true', decide_eq_false_iff_not] at *
  rw [List.not_lt] at *
  exact List.le_trans h h'
theorem leS_total (a b : List Nat) : (leS a b || leS b a) = true := by
  unfold leS
  rcases List.le_total a b with h | h
  · rw [← List.not_lt] at h; simp [h]
  · rw [← List.not_lt] at h; simp [h]
theorem leS_anti (a b : List Nat) (h : leS a b = true) (h' : leS b a = true) : a = b := by
  unfold leS at *
  simp only [Bool.not_eq_true', decide_eq_false_iff_not] at *
  rw [List.not_lt] at *
  exact List.le_antisymm h h'
theorem sortS_pair (xs : List (List Nat)) : (sortS xs).Pairwise fun a b => leS a b = true := isort_pair leS_trans leS_total xs
theorem sortS_perm (xs : List (List Nat)) : (sortS xs).Perm xs := isort_perm leS xs
theorem sortI_pair (xs : List Int) : (sortI xs).Pairwise fun a b => a ≤ b := by
  have := isort_pair (le := leI) (fun a b c h h' => by unfold leI at *; simp only [decide_eq_true_eq] at *; omega) (fun a b => by unfold leI; simp only [Bool.or_eq_true, decide_eq_true_eq]; omega) xs
  exact this.imp fun h => by unfold leI at h; simpa using h
theorem sortI_perm (xs : List Int) : (sortI xs).Perm xs := isort_perm leI xs
theorem sortS_uniq {xs ys : List (List Nat)} (hp : ys.Perm xs) (hs : ys.Pairwise fun a b => leS a b = true) : ys = sortS xs :=
  List.Perm.eq_of_pairwise (fun a b _ _ h h' => leS_anti a b h h') hs (sortS_pair xs) (hp.trans (sortS_perm xs).symm)
theorem sortI_uniq {xs ys : List Int} (hp : ys.Perm xs) (hs : ys.Pairwise fun a b => a ≤ b) : ys = sortI xs :=
  List.Perm.eq_of_pairwise (fun a b _ _ h h' => Int.le_antisymm h h') hs (sortI_pair xs) (hp.trans (sortI_perm xs).symm)
theorem rising_pair : ∀ (r : List (List Nat)) (p : List Nat), risingS (toS p) (r.map toS) = true → (p :: r).Pairwise fun a b => leS a b = true
  | [], p, _ => by simp
  | x :: r, p, h => by
    rw [List.map_cons] at h
    simp only [risingS, Bool.and_eq_true] at h
    have ih := rising_pair r x h.2
    have hx : leS p x = true := by
      have h1 := h.1
      rw [PyProof.Rows.ltCps_eq] at h1
      unfold leS
      simpa using h1
    refine List.Pairwise.cons (fun y hy => ?_) ih
    rcases List.mem_cons.mp hy with rfl | hy
    · exact hx
    · exact leS_trans _ _ _ hx ((List.pairwise_cons.mp ih).1 y hy)
theorem sorted_pair : ∀ (r : List (List Nat)), sortedS (r.map toS) = true → r.Pairwise fun a b => leS a b = true
  | [], _ => .nil
  | x :: r, h => rising_pair r x h
end Eng

namespace Eng
open PySem PySem.Spec PyProof.Rows L2

section
variable {X : Cx} {L : Lx}
def vAll : List Val → Option SV
  | [.lst xs] => (blsOf xs).map fun bs => .v (.bl (bs.all id))
  | _ => none
def vAny : List Val → Option SV
  | [.lst xs] => (blsOf xs).map fun bs => .v (.bl (bs.any id))
  | _ => none
theorem cb_all (hc : X.calm = true) : CallR X (.builtin "all") (RLm (gx L X) vAll) := by
  refine CallR.weak (cr_all hc) fun vs H Q ⟨ρ, P, st, as, rs, nl, p⟩ => ?_
  unfold vAll at p
  split at p
  · rename_i xs
    obtain ⟨v, rfl, nx⟩ := nl.one
    obtain ⟨a, us, rfl, h, r⟩ := nx.lstOf
    cases e : blsOf xs with
    | none => rw [e] at p; exact p.elim
    | some bs =>
      rw [e] at p
      have := r.bls e
      subst this
      exact ⟨a, bs, rfl, .inl (.inl h), p.val rs (.bl _)⟩
  · exact p.elim
theorem cb_any (hc : X.calm = true) : CallR X (.builtin "any") (RLm (gx L X) vAny) := by
  refine CallR.weak (cr_any hc) fun vs H Q ⟨ρ, P, st, as, rs, nl, p⟩ => ?_
  unfold vAny at p
  split at p
  · rename_i xs
    obtain ⟨v, rfl, nx⟩ := nl.one
    obtain ⟨a, us, rfl, h, r⟩ := nx.lstOf
    cases e : blsOf xs with
    | none => rw [e] at p; exact p.elim
    | some bs =>
      rw [e] at p
      have := r.bls e
      subst this
      exact ⟨a, bs, rfl, .inl (.inl h), p.val rs (.bl _)⟩
  · exact p.elim
def vSum : List Val → Option SV
  | [.lst xs] => (intsOf xs).map fun bs => .v (.int bs.sum)
  | _ => none
theorem cb_sum (hc : X.calm = true) : CallR X (.builtin "sum") (RLm (gx L X) vSum) := by
  refine CallR.weak (cr_sum hc) fun vs H Q ⟨ρ, P, st, as, rs, nl, p⟩ => ?_
  unfold vSum at p
  split at p
  · rename_i xs
    obtain ⟨v, rfl, nx⟩ := nl.one
    obtain ⟨a, us, rfl, h, r⟩ := nx.lstOf
    cases e : intsOf xs with
    | none => rw [e] at p; exact p.elim
    | some bs =>
      rw [e] at p
      have := r.ints e
      subst this
      exact ⟨a, bs, rfl, .inl (.inl h), p.val rs (.int _)⟩
  · exact p.elim
/-- the greatest, the least of a list that is not empty -/
def maxL : List Int → Option Int
  | [] => none
  | x :: r => match maxL r with
    | none => some x
    | some m => some (if x < m then m else x)
def minL : List Int → Option Int
  | [] => none
  | x :: r => match minL r with
    | none => some x
    | some m => some (if m < x then m else x)
theorem maxL_some : ∀ {r : List Int}, r ≠ [] → ∃ m, maxL r = some m ∧ m ∈ r ∧ ∀ y ∈ r, y ≤ m
  | [], h => absurd rfl h
  | [x], _ => ⟨x, rfl, by simp, fun y hy => by simp at hy; omega⟩
  | x :: y :: r, _ => by
    obtain ⟨m, h1, h2, h3⟩ := maxL_some (r := y :: r) (by simp)
    refine ⟨if x < m then m else x, by rw [maxL, h1], ?_, fun z hz => ?_⟩
    · split
      · exact List.mem_cons_of_mem _ h2
      · exact List.mem_cons_self
    · rcases List.mem_cons.mp hz with rfl | hz
      · split <;> omega
      · have := h3 z hz; split <;> omega
theorem minL_some : ∀ {r : List Int}, r ≠ [] → ∃ m, minL r = some m ∧ m ∈ r ∧ ∀ y ∈ r, m ≤ y
  | [], h => absurd rfl h
  | [x], _ => ⟨x, rfl, by simp, fun y hy => by simp at hy; omega⟩
  | x :: y :: r, _ => by
    obtain ⟨m, h1, h2, h3⟩ := minL_some (r := y :: r) (by simp)
    refine ⟨if m < x then m else x, by rw [minL, h1], ?_, fun z hz => ?_⟩
    · split
      · exact List.mem_cons_of_mem _ h2
      · exact List.mem_cons_self
    · rcases List.mem_cons.mp hz with rfl | hz
      · split <;> omega
      · have := h3 z hz; split <;> omega
def vMax : List Val → Option SV
  | [.lst xs] => ((intsOf xs).bind maxL).map fun m => .v (.int m)
  | [.int i, .int j] => some (.v (.int (if j > i then j else i)))
  | _ => none
def vMin : List Val → Option SV
  | [.lst xs] => ((intsOf xs).bind minL).map fun m => .v (.int m)
  | [.int i, .int j] => some (.v (.int (if j < i then j else i)))
  | _ => none
theorem CallR.or {f : Value} {r r' : List V → Hp → VK → Prop} (h : CallR X f r) (h' : CallR X f r') : CallR X f (fun x H Q => r x H Q ∨ r' x H Q) := fun pins s σ H xs us Q I r q => by
  rcases q with q | q
  · exact h pins s σ H xs us Q I r q
  · exact h' pins s σ H xs us Q I r q
theorem cb_max (hc : X.calm = true) : CallR X (.builtin "max") (RLm (gx L X) vMax) := by
  refine CallR.weak (CallR.or (cr_max hc) (call_max2 hc)) fun vs H Q ⟨ρ, P, st, as, rs, nl, p⟩ => ?_
  unfold vMax at p
  split at p
  · rename_i xs
    obtain ⟨v, rfl, nx⟩ := nl.one
    obtain ⟨a, us, rfl, h, r⟩ := nx.lstOf
    cases e : intsOf xs with
    | none => rw [e] at p; exact p.elim
    | some bs =>
      rw [e] at p
      have := r.ints e
      subst this
      by_cases hb : bs = []
      · subst hb; exact p.elim
      · obtain ⟨m, h1, h2, h3⟩ := maxL_some hb
        refine .inl ⟨a, bs, rfl, .inl (.inl h), List.length_pos_iff.mpr hb, fun m' h4 h5 => ?_⟩
        have : m' = m := Int.le_antisymm (h3 m' h4) (h5 m h2)
        subst this
        simp only [Option.bind_some, h1, Option.map_some] at p
        exact p.val rs (.int _)
  · rename_i i j
    obtain ⟨v, u, rfl, nx, ny⟩ := nl.two
    obtain rfl := nx.intOf
    obtain rfl := ny.intOf
    exact .inr ⟨i, j, rfl, p.val rs (.int _)⟩
  · exact p.elim
theorem cb_min (hc : X.calm = true) : CallR X (.builtin "min") (RLm (gx L X) vMin) := by
  refine CallR.weak (CallR.or (cr_min hc) (call_min2 hc)) fun vs H Q ⟨ρ, P, st, as, rs, nl, p⟩ => ?_
  unfold vMin at p
  split at p
  · rename_i xs
    obtain ⟨v, rfl, nx⟩ := nl.one
    obtain ⟨a, us, rfl, h, r⟩ := nx.lstOf
    cases e : intsOf xs with
    | none => rw [e] at p; exact p.elim
    | some bs =>
      rw [e] at p
      have := r.ints e
      subst this
      by_cases hb : bs = []
      · subst hb; exact p.elim
      · obtain ⟨m, h1, h2, h3⟩ := minL_some hb
        refine .inl ⟨a, bs, rfl, .inl (.inl h), List.length_pos_iff.mpr hb, fun m' h4 h5 => ?_⟩
        have : m' = m := Int.le_antisymm (h5 m h2) (h3 m' h4)
        subst this
        simp only [Option.bind_some, h1, Option.map_some] at p
        exact p.val rs (.int _)
  · rename_i i j
    obtain ⟨v, u, rfl, nx, ny⟩ := nl.two
    obtain rfl := nx.intOf
    obtain rfl := ny.intOf
    exact .inr ⟨i, j, rfl, p.val rs (.int _)⟩
  · exact p.elim
/-- sorted: a list of texts, a list of ints, a dict's keys that are texts -/
def vSort : List Val → Option SV
  | [.lst xs] => match strsOf xs with
    | some ys => if ys.length < 64 then some (.fl ((sortS ys).map .str)) else none
    | none => (intsOf xs).map fun ys => .fl ((sortI ys).map .int)
  | [.dic false kvs] => match strsOf (kvs.map (·.1)) with
    | some ys => if ys.length < 64 then some (.fl ((sortS ys).map .str)) else none
    | none => none
  | _ => none
theorem ys_of {ys : List Str} {xs : List (List Nat)} (h : ys.Perm (xs.map toS)) (hs : sortedS ys = true) : ys = (sortS xs).map toS := by
  let zs := ys.map fun y => y.cps.toList
  have e : ys = zs.map toS := by
    show ys = (ys.map fun y => y.cps.toList).map toS
    rw [List.map_map]
    exact (List.map_id _).symm.trans (List.map_congr_left fun y _ => by show y = toS y.cps.toList; simp [toS])
  have hp : zs.Perm xs := by
    have := h.map fun y : Str => y.cps.toList
    rw [List.map_map] at this
    have e2 : xs.map ((fun y : Str => y.cps.toList) ∘ toS) = xs := by
      conv => rhs; rw [← List.map_id xs]
      exact List.map_congr_left fun y _ => by simp [Function.comp]
    rw [e2] at this
    exact this
  rw [e] at hs
  rw [e, sortS_uniq hp (sorted_pair zs hs)]
theorem RepK.keys {G : Gc} {H : Hp} {T : Ts} : ∀ {kvs : List (Val × Val)} {ks : List (Key × V)} {ys : List (List Nat)}, RepK G H T kvs ks → strsOf (kvs.map (·.1)) = some ys → ks.map (·.1) = (ys.map toS).map Sum.inr ∧ ∀ b ∈ ys, SOk b = true
  | _, _, _, .nil, e => by cases e; exact ⟨rfl, fun _ h => by cases h⟩
  | (x, y) :: kvs, (k, v) :: ks, ys, .cons hk rx _ t, e => by
    simp only [List.map_cons, strsOf] at e
    split at e
    · rename_i b cs e2
      cases e
      simp only [keyOf] at hk
      cases hk
      obtain ⟨h1, h2⟩ := RepK.keys t e2
      refine ⟨by rw [List.map_cons, h1]; rfl, fun c hc => ?_⟩
      rcases List.mem_cons.mp hc with rfl | hc
      · cases rx; assumption
      · exact h2 c hc
    · cases e
theorem cb_sorted (hc : X.calm = true) : CallR X (.builtin "sorted") (RLm (gx L X) vSort) := by
  refine CallR.weak (CallR.or cr_sortedS (CallR.or cr_sortedI (call_sortedD hc))) fun vs H Q ⟨ρ, P, st, as, rs, nl, p⟩ => ?_
  unfold vSort at p
  split at p
  · rename_i xs
    obtain ⟨v, rfl, nx⟩ := nl.one
    obtain ⟨a, us, rfl, h, r⟩ := nx.lstOf
    split at p
    · rename_i ys e
      split at p
      · rename_i hl
        obtain ⟨e1, e2⟩ := r.strs e
        subst e1
        refine .inl ⟨a, ys.map toS, rfl, .inl (.inl h), by simpa using hl, fun zs q h1 h2 hq => ?_⟩
        rw [ys_of h1 h2]
        exact p.lst rs hq (RepVs.ofStrs _ fun b hb => e2 b ((sortS_perm ys).mem_iff.mp hb))
      · exact p.elim
    · cases e : intsOf xs with
      | none => rw [e] at p; exact p.elim
      | some ys =>
        rw [e] at p
        have := r.ints e
        subst this
        refine .inr (.inl ⟨a, ys, rfl, .inl (.inl h), fun zs q h1 h2 hq => ?_⟩)
        rw [sortI_uniq h1 h2]
        exact p.lst rs hq (RepVs.ofInts _)
  · rename_i kvs
    obtain ⟨v, rfl, nx⟩ := nl.one
    split at p
    · rename_i ys e
      split at p
      · rename_i hl
        have fin : ∀ {b : Addr} {ks : List (Key × V)}, H b = some (.dK ks) → RepK (gx L X) H (TP P ρ) kvs ks → ∃ (a : Addr) (kvs : List (Key × V)) (ks : List Str), [V.ref b] = [V.ref a] ∧ Rd H a (.dK kvs) ∧ kvs.map (·.1) = ks.map Sum.inr ∧ ks.length < 64 ∧
            ∀ ys p, ys.Perm ks → sortedS ys = true → H p = none → Q (.ref p) (upd H p (.lst (ys.map V.str))) := fun {b ks} hb rk => by
          obtain ⟨e1, e2⟩ := rk.keys e
          refine ⟨b, ks, ys.map toS, rfl, .inl hb, e1, by simpa using hl, fun zs q h1 h2 hq => ?_⟩
          rw [ys_of h1 h2]
          exact p.lst rs hq (RepVs.ofStrs _ fun b hb => e2 b ((sortS_perm ys).mem_iff.mp hb))
        cases nx with
        | rep r => cases r with | dicK h _ r => exact .inr (.inr (fin h r))
        | dicK h r => exact .inr (.inr (fin h r))
      · exact p.elim
    · exact p.elim
  · exact p.elim
end
/-! ### ''.join, 'abcd'.index -/
def joinL (a : List Nat) : List (List Nat) → List Nat
  | [] => []
  | y :: r => y ++ (r.map fun p => a ++ p).flatten
theorem join_toS (a : List Nat) (ys : List (List Nat)) : Txt.join (toS a) (ys.map toS) = toS (joinL a ys) := by
  have key : ∀ (r : List (List Nat)) (acc : List Nat), (r.map toS).foldl (fun acc p => acc ++ (toS a).cps ++ p.cps) acc.toArray = (acc ++ (r.map fun p => a ++ p).flatten).toArray := by
    intro r
    induction r with
    | nil => intro acc; simp
    | cons y r ih =>
      intro acc
      rw [List.map_cons, List.foldl_cons, List.map_cons, List.flatten_cons]
      have e : acc.toArray ++ (toS a).cps ++ (toS y).cps = (acc ++ a ++ y).toArray := by simp
      rw [e, ih]
      simp
  unfold Txt.join Builtin.Str.glued
  cases ys with
  | nil => rfl
  | cons y r =>
    show (⟨(r.map toS).foldl (fun acc p => acc ++ (toS a).cps ++ p.cps) y.toArray⟩ : Str) = _
    rw [key]; rfl
def vJoin : Val → List Val → Option SV
  | .str a, [.lst xs] => match strsOf xs with
    | some ys => if (decide (ys.length ≤ 1000) && (decide (a.length ≤ 1000) && SOk (joinL a ys))) = true then some (.v (.str (joinL a ys))) else none
    | none => none
  | .str a, [.tup xs] => match strsOf xs with
    | some ys => if (decide (ys.length ≤ 1000) && (decide (a.length ≤ 1000) && SOk (joinL a ys))) = true then some (.v (.str (joinL a ys))) else none
    | none => none
  | _, _ => none
def vSIndex : Val → List Val → Option SV
  | .str a, [.str [c]] => if (a == [97, 98, 99, 100]) = true then (if (decide (97 ≤ c) && decide (c ≤ 100)) = true then some (.v (.int ((c - 97 : Nat) : Int))) else none) else none
  | _, _ => none
theorem sum_len (ys : List (List Nat)) : ((ys.map toS).map (·.length)).sum = (ys.map List.length).sum := by
  rw [List.map_map]; congr 1
theorem joinL_len (a : List Nat) : ∀ ys : List (List Nat), (ys.map List.length).sum ≤ (joinL a ys).length
  | [] => by simp [joinL]
  | y :: r => by
    have : ∀ r : List (List Nat), (r.map List.length).sum ≤ ((r.map fun p => a ++ p).flatten).length := fun r => by
      induction r with
      | nil => simp
      | cons z r ih => simp only [List.map_cons, List.sum_cons, List.flatten_cons, List.length_append]; omega
    have := this r
    simp only [joinL, List.map_cons, List.sum_cons, List.length_append]; omega
theorem occ_abcd : ∀ c : Nat, 97 ≤ c → c ≤ 100 → Builtin.Str.occurrences (toS [97, 98, 99, 100]) (toS [c]) 0 (toS [97, 98, 99, 100]).length 1 = [c - 97] := by
  intro c h1 h2
  have : c = 97 ∨ c = 98 ∨ c = 99 ∨ c = 100 := by omega
  rcases this with rfl | rfl | rfl | rfl <;> decide +kernel
section
variable {X : Cx} {L : Lx} {W : WX} {pos apos : Pos} {e o : Expr} {es : List Expr} {fa : Env → Sto → Rv (List SV)} {fo : Fe}
theorem join_ok {a : List Nat} {ys : List (List Nat)} (h1 : ys.length ≤ 1000) (h2 : a.length ≤ 1000) (h3 : SOk (joinL a ys) = true) : ((ys.map toS).map (·.length)).sum + (ys.map toS).length * (toS a).length ≤ 16777216 := by
  rw [sum_len, List.length_map]
  have := sok_len h3
  have := joinL_len a ys
  have h4 : ys.length * (toS a).length ≤ 1000 * 1000 := Nat.mul_le_mul h1 (by simpa [Str.length] using h2)
  omega
theorem mj_w : ∀ x xs H Q, RMm (gx L X) vJoin x xs H Q → (fun x xs H Q => ∃ a p, ∃ ys : List Str, x = .str a ∧ xs = [.ref p] ∧ (SqL X.K H p (ys.map V.str) ∨ SqT X.K H p (ys.map V.str)) ∧
    (ys.map (·.length)).sum + ys.length * a.length ≤ 16777216 ∧ Q (.str (Txt.join a ys)) H : V → List V → Hp → VK → Prop) x xs H Q := by
  intro x xs H Q ⟨ρ, P, st, a, as, rs, na, nl, p⟩
  unfold vJoin at p
  split at p
  · rename_i a xs
    obtain ⟨ex, sx⟩ := na.strOf
    obtain ⟨v, rfl, nx⟩ := nl.one
    obtain ⟨b, us, rfl, h, r⟩ := nx.lstOf
    split at p
    · rename_i ys e
      split at p
      · rename_i hl
        simp only [Bool.and_eq_true, decide_eq_true_eq] at hl
        obtain ⟨e1, e2⟩ := r.strs e
        subst e1
        exact ⟨toS a, b, ys.map toS, ex, rfl, .inl (.inl (.inl h)), join_ok hl.1 hl.2.1 hl.2.2, by rw [join_toS]; exact p.val rs (.str _ hl.2.2)⟩
      · exact p.elim
    · exact p.elim
  · rename_i a xs
    obtain ⟨ex, sx⟩ := na.strOf
    obtain ⟨v, rfl, nx⟩ := nl.one
    obtain ⟨b, us, rfl, h, r⟩ := nx.tupOf
    split at p
    · rename_i ys e
      split at p
      · rename_i hl
        simp only [Bool.and_eq_true, decide_eq_true_eq] at hl
        obtain ⟨e1, e2⟩ := r.strs e
        subst e1
        exact ⟨toS a, b, ys.map toS, ex, rfl, .inr (.inl (.inl h)), join_ok hl.1 hl.2.1 hl.2.2, by rw [join_toS]; exact p.val rs (.str _ hl.2.2)⟩
      · exact p.elim
    · exact p.elim
  · exact p.elim
theorem mi_w : ∀ x xs H Q, RMm (gx L X) vSIndex x xs H Q → (fun x xs H Q => ∃ a b i rest, x = .str a ∧ xs = [.str b] ∧ Builtin.Str.occurrences a b 0 a.length 1 = i :: rest ∧ Q (.int (i : Nat)) H : V → List V → Hp → VK → Prop) x xs H Q := by
  intro x xs H Q ⟨ρ, P, st, a, as, rs, na, nl, p⟩
  unfold vSIndex at p
  split at p
  · rename_i a c
    obtain ⟨ex, sx⟩ := na.strOf
    obtain ⟨v, rfl, nx⟩ := nl.one
    obtain ⟨rfl, sc⟩ := nx.strOf
    split at p
    · rename_i ha
      obtain rfl := eq_of_beq ha
      split at p
      · rename_i hl
        simp only [Bool.and_eq_true, decide_eq_true_eq] at hl
        exact ⟨_, _, c - 97, [], ex, rfl, occ_abcd c hl.1 hl.2, p.val rs (.int _)⟩
      · exact p.elim
    · exact p.elim
  · exact p.elim
theorem ee_join (ho : EE L X W o fo) (ha : EA L X W [e] fa) (hbase : attributeBase o "join" X.env (eval o X.env) = eval o X.env := by rfl)
    (hfew : ((backTo pos (starEach [e] X.env)).all (fun x => !x.1) && (backToKw pos (keywordEach [] X.env)).all (fun x => x.1.isSome)
      && decide ([e].length + ([] : List Keyword).length + (if ([] : List Keyword).isEmpty then 0 else 1) < 30)) = true := by rfl)
    (hline : (apos.endLine == pos.line) = true := by rfl) (hs : starEach [e] X.env = (false, eval e X.env) :: starEach [] X.env := by rfl) :
    EE L X W (.Call (.Attribute o "join" apos) [e] [] pos) (eM "str" vJoin fo fa) := ee_bm F.plainAttrs_str F.slot_str_join F.type_str_join mt_join mj_w ho ha hbase hfew hline hs
theorem ee_sindex (ho : EE L X W o fo) (ha : EA L X W [e] fa) (hbase : attributeBase o "index" X.env (eval o X.env) = eval o X.env := by rfl)
    (hfew : ((backTo pos (starEach [e] X.env)).all (fun x => !x.1) && (backToKw pos (keywordEach [] X.env)).all (fun x => x.1.isSome)
      && decide ([e].length + ([] : List Keyword).length + (if ([] : List Keyword).isEmpty then 0 else 1) < 30)) = true := by rfl)
    (hline : (apos.endLine == pos.line) = true := by rfl) (hs : starEach [e] X.env = (false, eval e X.env) :: starEach [] X.env := by rfl) :
    EE L X W (.Call (.Attribute o "index" apos) [e] [] pos) (eM "str" vSIndex fo fa) := ee_bm F.plainAttrs_str F.slot_str_index F.type_str_index mt_sindex mi_w ho ha hbase hfew hline hs
end
/-! ### displays -/
def frzAll : List SV → Option (List Val)
  | [] => some []
  | z :: zs => match z, frzAll zs with
    | .v x, some xs => some (x :: xs)
    | _, _ => none
def eTup (fa : Env → Sto → Rv (List SV)) : Fe := fun env st => (fa env st).bind fun zs st1 => if zs.length ≤ 1000000 then outO ((frzAll zs).map fun xs => .v (.tup xs)) st1 else .bad
def eLst (fa : Env → Sto → Rv (List SV)) : Fe := fun env st => (fa env st).bind fun zs st1 => if zs.length ≤ 1000000 then outO ((frzAll zs).map fun xs => .fl xs) st1 else .bad
def eDic (t : Bool) : Fe := fun _ st => .ok (.fd t []) st
section
variable {X : Cx} {L : Lx} {W : WX} {pos : Pos} {es : List Expr} {fa : Env → Sto → Rv (List SV)}
theorem RepZs.frz {G : Gc} {H : Hp} {P : Ts} {ρ : Rho} : ∀ {zs : List SV} {vs : List V} {xs : List Val}, RepZs G H P ρ zs vs → frzAll zs = some xs → RepVs G H (TP P ρ) xs vs
  | _, _, _, .nil, e => by cases e; exact .nil
  | z :: zs, _, xs, .cons r t, e => by
    simp only [frzAll] at e
    split at e
    · rename_i x ys e2
      cases e
      cases r with
      | v r => exact .cons r (RepZs.frz t e2)
    · cases e
theorem ee_tup {x1} (ha : EA L X W es fa) : EE L X W (.Tuple es x1 pos) (eTup fa) := by
  refine PE.weak (pe_tup ha) fun σ H Q ⟨env, st, ρ, P, re, rs, p⟩ => ⟨env, st, ρ, P, re, rs, PostA.then p fun zs st1 vs H1 k rs1 rz p => ?_⟩
  split at p
  · rename_i hl
    have p := POp.of p
    cases h : frzAll zs with
    | none => rw [h] at p; exact p.elim
    | some xs =>
      rw [h] at p
      have := line1
      refine ⟨by rw [← rz.len]; omega, fun q hq => p.tup rs1 hq (rz.frz h)⟩
  · exact p.elim
theorem ee_lst (ha : EA L X W es fa) : EE L X W (.List es pos) (eLst fa) := by
  refine PE.weak (pe_lst ha) fun σ H Q ⟨env, st, ρ, P, re, rs, p⟩ => ⟨env, st, ρ, P, re, rs, PostA.then p fun zs st1 vs H1 k rs1 rz p => ?_⟩
  split at p
  · rename_i hl
    have p := POp.of p
    cases h : frzAll zs with
    | none => rw [h] at p; exact p.elim
    | some xs =>
      rw [h] at p
      have := line1
      refine ⟨by rw [← rz.len]; omega, fun q hq => p.lst rs1 hq (rz.frz h)⟩
  · exact p.elim
theorem ee_dnewK : EE L X W (.Dict [] [] pos) (eDic false) :=
  PE.weak pe_dnewK fun σ H Q ⟨env, st, ρ, P, re, rs, p⟩ q hq =>
    p _ _ (kp_new hq) (rs.fresh hq) (.fdK upd_same hq .nil (rs.freshP hq ⟨by intros; simp, by intros; simp, by intros; simp, by intros; simp⟩) fun t => rs.ntr hq (.inl t))
theorem ee_dnewT : EE L X W (.Dict [] [] pos) (eDic true) :=
  PE.weak pe_dnewT fun σ H Q ⟨env, st, ρ, P, re, rs, p⟩ q hq =>
    p _ _ (kp_new hq) (rs.fresh hq) (.fdT upd_same hq .nil (rs.freshP hq ⟨by intros; simp, by intros; simp, by intros; simp, by intros; simp⟩) fun t => rs.ntr hq (.inl t))
end
/-! ### stores -/
def oSet : SO → Val → Val → Option SO
  | .lst xs, .int k, y => (ixN xs.length k).map fun j => .lst (xs.set j y)
  | .dic t kvs, x, y => if (keyIs t x && decide (kvs.length < 1000000)) = true then some (.dic t (dPut kvs x y)) else none
  | _, _, _ => none
section
variable {X : Cx} {L : Lx}
def rSetO (o : V) (i : V) (v : V) (H : Hp) (Q : Hp → Prop) : Prop := rSetL o i v H Q ∨ rSetD o i v H Q
theorem set_o (hu : X.A.units + 1 < cLine) : PSet X rSetO := fun pins s σ H o i v ov iv u Q I ro ri rv h => by
  rcases h with h | h
  · exact set_list pins s σ H o i v ov iv u Q I ro ri rv h
  · exact set_dict hu pins s σ H o i v ov iv u Q I ro ri rv h
theorem RepVs.set {G : Gc} {H : Hp} {T : Ts} {y : Val} {v : V} (r : RepV G H T y v) : ∀ {xs : List Val} {vs : List V} (j : Nat), RepVs G H T xs vs → RepVs G H T (xs.set j y) (vs.set j v)
  | _, _, _, .nil => .nil
  | _, _, 0, .cons _ t => .cons r t
  | _, _, j + 1, .cons q t => .cons q (RepVs.set r j t)
theorem setm_o : SetM X (gx L X) rSetO oSet := by
  intro H P ρ st l a so so' y z k x Q rs hl hs nk rx ho q
  obtain ⟨o1, e1, ro⟩ := rs.obj l a hl
  rw [hs] at e1; cases e1
  have kw : ∀ {o : HO}, Kp (TP P ρ) H (TP P ρ) (upd H a o) := fun {o} => kp_write (.inr (tr_at hl))
  have kw' : ∀ {o : HO}, Kp (Tr ρ) H (Tr ρ) (upd H a o) := fun {o} => kp_write (tr_at hl)
  have hz := line1
  cases ro with
  | lst h r =>
    cases k with
    | int i =>
      simp only [oSet] at ho
      cases e : ixN _ i with
      | none => rw [e] at ho; cases ho
      | some j =>
        rw [e] at ho; cases ho
        obtain rfl := nk.intOf
        refine .inl ⟨a, _, i, j, rfl, rfl, h, by rw [← r.len]; exact e, q _ kw' (rs.write hl (.lst upd_same ((r.set rx j).ext kw rs.nt)))⟩
    | _ => cases ho
  | @dicK kvs ks _ h r =>
    simp only [oSet] at ho
    split at ho
    · rename_i hk
      cases ho
      simp only [Bool.and_eq_true, decide_eq_true_eq] at hk
      obtain ⟨hk, hn⟩ := hk
      cases hkk : keyOf k with
      | none => cases k <;> simp [keyIs, keyOf] at hk hkk
      | some kk =>
        obtain ⟨rfl, rk⟩ := keyOf_V hkk nk
        refine .inr ⟨a, _, rfl, DPut.k (k := kk) h (by rw [← r.len]; omega), q _ kw' (rs.write hl (.dicK upd_same ((repK_put hkk rk rx r).ext kw rs.nt)))⟩
    · cases ho
  | @dicT kvs ks _ h r =>
    simp only [oSet] at ho
    split at ho
    · rename_i hk
      cases ho
      simp only [Bool.and_eq_true, decide_eq_true_eq] at hk
      obtain ⟨hk, hn⟩ := hk
      cases k with
      | tup xs =>
        simp only [keyIs, Bool.true_and] at hk
        obtain ⟨kk, hkk⟩ := Option.isSome_iff_exists.mp hk
        obtain ⟨b, us, rfl, hb, rv⟩ := nk.tupOf
        obtain rfl := keysOf_V hkk rv
        refine .inr ⟨a, _, rfl, DPut.t (k := kk) h hb (by rw [← r.len]; omega), q _ kw' (rs.write hl (.dicT upd_same ((repT_put hkk rv rx r).ext kw rs.nt)))⟩
      | _ => simp [keyIs] at hk
    · cases ho
end
end Eng

namespace Eng
open PySem PySem.Spec PyProof.Rows L2

def iAnyF (fa : Fe) : Fi := fun env st => (fa env st).bind fun z st1 => match z with
  | .v (.tup xs) => .ok (.seq xs) st1
  | .v (.str s) => .ok (.seq (s.map fun c => .str [c])) st1
  | .v (.lst xs) => .ok (.seq xs) st1
  | .fl xs => .ok (.seq xs) st1
  | .loc l => (match st1[l]? with
    | some (.lst _) => .ok (.cell l) st1
    | _ => .bad)
  | _ => .bad
def zipK (zs : List SV) (st1 : Sto) : Rv Src := match zs with
  | [.v (.tup xs), .v (.tup ys)] => .ok (.seq (zipV xs ys)) st1
  | [.v (.lst xs), .v (.lst ys)] => .ok (.seq (zipV xs ys)) st1
  | _ => .bad
def iZipF (fa : Env → Sto → Rv (List SV)) : Fi := fun env st => (fa env st).bind zipK
def ALen (fa : Env → Sto → Rv (List SV)) (k : Nat) : Prop := ∀ env st zs st', fa env st = .ok zs st' → zs.length = k
theorem alen_nil : ALen aNil 0 := fun env st zs st' h => by cases h; rfl
theorem alen_cons {k : Nat} {fa : Fe} {fr : Env → Sto → Rv (List SV)} (h : ALen fr k) : ALen (aCons fa fr) (k + 1) := fun env st zs st' e => by
  unfold aCons at e
  cases h1 : fa env st with
  | bad => rw [h1] at e; cases e
  | exc _ _ => rw [h1] at e; cases e
  | ok z s =>
    rw [h1] at e
    have e : ((fr env s).bind fun xs st2 => .ok (z.froz :: xs) st2) = .ok zs st' := e
    cases h2 : fr env s with
    | bad => rw [h2] at e; cases e
    | exc _ _ => rw [h2] at e; cases e
    | ok zs' s' => rw [h2] at e; cases e; exact congrArg (· + 1) (h _ _ _ _ h2)
section
variable {L : Lx} {X : Cx} {W : WX} {tg a b c e : Expr} {fa fb fc : Fe} {fr : Env → Sto → Rv (List SV)} {pos p : Pos} {x : Str} {n : Nat} {s : List Stmt} {B : List Nat}
theorem PI.or {t t' : TI} (h : PI X tg e t) (h' : PI X tg e t') : PI X tg e (fun σ H R => t σ H R ∨ t' σ H R) := ⟨fun pins s σ H Q I q => by
  rcases q with q | q
  · exact h.run pins s σ H Q I q
  · exact h'.run pins s σ H Q I q⟩
theorem ei_any (ha : EE L X W e fa) : EI L X W tg e (iAnyF fa) := by
  refine PI.weak (PI.or (ei_tup ha) (PI.or (ei_str ha) (ei_lst ha))) fun σ H R ⟨env, st, ρ, P, re, rs, p⟩ => ?_
  cases h : fa env st with
  | bad => unfold iAnyF at p; rw [h] at p; exact p.elim
  | exc ex s => exact .inl ⟨env, st, ρ, P, re, rs, by unfold iAnyF at p; rw [h] at p; unfold iTupF; rw [h]; exact p⟩
  | ok z st1 =>
    cases z with
    | loc l => exact .inr (.inr ⟨env, st, ρ, P, re, rs, by unfold iAnyF at p; rw [h] at p; unfold iLstF; rw [h]; exact p⟩)
    | fl xs => exact .inr (.inr ⟨env, st, ρ, P, re, rs, by unfold iAnyF at p; rw [h] at p; unfold iLstF; rw [h]; exact p⟩)
    | fd _ _ => unfold iAnyF at p; rw [h] at p; exact p.elim
    | v x =>
      cases x with
      | tup xs => exact .inl ⟨env, st, ρ, P, re, rs, by unfold iAnyF at p; rw [h] at p; unfold iTupF; rw [h]; exact p⟩
      | str xs => exact .inr (.inl ⟨env, st, ρ, P, re, rs, by unfold iAnyF at p; rw [h] at p; unfold iStrF; rw [h]; exact p⟩)
      | lst xs => exact .inr (.inr ⟨env, st, ρ, P, re, rs, by unfold iAnyF at p; rw [h] at p; unfold iLstF; rw [h]; exact p⟩)
      | _ => unfold iAnyF at p; rw [h] at p; exact p.elim
theorem ei_zip {elts : List Expr} {kk : Nat} {tpos : Pos} (hg : Gl X "zip") (hm : X.mg "zip" = none) (ha : EA L X W [a, b] fr) (hs : starEach [a, b] X.env = (false, eval a X.env) :: starEach [b] X.env := by rfl) (hpl : (backTo pos (starEach [b] X.env)).any (·.1) = false := by rfl) : EI L X W (.Tuple elts kk tpos) (.Call (.Name "zip" p) [a, b] [] pos) (iZipF fr) := by
  refine PI.weak (PI.or (ei_zipT hg hm ha hs hpl) (ei_zipL hg hm ha hs hpl)) fun σ H R ⟨env, st, ρ, P, re, rs, p⟩ => ?_
  unfold iZipF at p
  cases h : fr env st with
  | bad => rw [h] at p; exact p.elim
  | exc ex s => exact .inl ⟨env, st, ρ, P, re, rs, by rw [h] at p; unfold iZipTF; rw [h]; exact p⟩
  | ok zs st1 =>
    rw [h] at p
    have p : PostI (gx L X) W σ P ρ H (zipK zs st1) R := p
    unfold zipK at p
    split at p
    · exact .inl ⟨env, st, ρ, P, re, rs, by unfold iZipTF; rename_i h _ _ _ _; rw [h]; exact p⟩
    · exact .inr ⟨env, st, ρ, P, re, rs, by unfold iZipLF; rename_i h _ _ _ _; rw [h]; exact p⟩
    · exact p.elim
/-- a module's number, text -/
theorem ee_gi (i : Int) (hg : Gl X x) (hm : ∃ u, X.mg x = some u ∧ RelV (.int i) u) (hd : (x == ("__debug__" : Str)) = false := by decide) : EE L X W (.Name x pos) (eC (.int i)) := by
  obtain ⟨u, h1, h2⟩ := hm
  exact ee_gint i hg h1 h2 hd
theorem ee_gs (l : List Nat) (hg : Gl X x) (hm : ∃ u, X.mg x = some u ∧ RelV (.str (toS l)) u) (hl : SOk l = true := by rfl) (hd : (x == ("__debug__" : Str)) = false := by decide) : EE L X W (.Name x pos) (eC (.str l)) := by
  obtain ⟨u, h1, h2⟩ := hm
  exact ee_gstr l hg h1 h2 hl hd
/-- never reached -/
theorem ess_bad : ESs L X W B n s sBad := ⟨fun pins s σ H D I h => by
  obtain ⟨env, st, ρ, P, re, rs, p⟩ := h
  exact p.elim⟩
end
end Eng

namespace Eng
open PySem PySem.Spec PyProof.Rows L2

/-! ### enumerate(a tuple), enumerate(a text) -/
set_option maxHeartbeats 1000000 in
theorem meets_enum1 {src : Value} {cell : Obj} {Cond : Heap → Prop} (B : Begins src cell Cond) :
    Meets (Builtin.«enumerate.__new__» ⟨[.type "enumerate", src], []⟩) (fun _ R s => Cond s.heap ∧
      R (.ok (.ret (.ref (s.heap.push cell).objs.size))) { s with heap := (s.heap.push cell).push { cls := .type "enumerate", data := .fields #[.none, .bool false, .ref s.heap.objs.size, rawInt 0, .none, .none] } }) :=
  .of_wp fun prog w A R s hh => by
    obtain ⟨hp, g, d, tk, os⟩ := s
    obtain ⟨hC, hR⟩ := hh
    have hsub := sub_enumerate
    have go : ∀ {A' : Around} {E : Value → Shared → Prop} {Q : Value → Shared → Prop}, Q (.ref hp.objs.size) ⟨hp.push cell, g, d, tk, os⟩ → wpAny (model prog w) A' (pyIter src) Q E ⟨hp, g, d, tk, os⟩ := fun q =>
      B.iter prog w _ _ ⟨hp, g, d, tk, os⟩ _ hC q
    wp_walk using go
    refine wpAny_stack_any fun st => wpAny_pure ?_
    split
    · rename_i c _ _ _ _ _
      cases (c == Value.type "enumerate") <;> (wp_walk using go; exact ⟨_, rfl, hR⟩)
    · wp_walk using go
      exact ⟨_, rfl, hR⟩
theorem call_enum1 {prog : Program} {w : World} {A : Around} {E : Value → Shared → Prop} {s : Shared} {src : Value} {cell : Obj} {Cond : Heap → Prop} {Q : Value → Shared → Prop} (B : Begins src cell Cond) (hC : Cond s.heap)
    (hq : ∀ h', IsEnum h' (s.heap.objs.size + 1) s.heap.objs.size 0 .none → h'.get? s.heap.objs.size = some cell → (∀ b o, s.heap.get? b = some o → h'.get? b = some o) → Q (.ref (s.heap.objs.size + 1)) { s with heap := h' }) :
    wpAny (model prog w) A (call (.type "enumerate") [src]) Q E s := by
  refine callType_new F.called_enumerate (by decide) (F.typeCall_enumerate_1 _) (F.newCall_enumerate_1 _) (fun obj => F.args_object_init_2 obj _) F.entry_enumerate_new (meets_enum1 B) ⟨hC, ?_⟩
  have hz : (s.heap.push cell).objs.size = s.heap.objs.size + 1 := Heap.size_push ..
  show _ ∧ _
  rw [hz]
  have he : IsEnum ((s.heap.push cell).push { cls := .type "enumerate", data := .fields #[.none, .bool false, .ref s.heap.objs.size, rawInt 0, .none, .none] }) (s.heap.objs.size + 1) s.heap.objs.size 0 .none := by
    have q := Heap.get?_push_size (s.heap.push cell) (o := { cls := .type "enumerate", data := .fields #[.none, .bool false, .ref s.heap.objs.size, rawInt 0, .none, .none] }) rfl
    rw [hz] at q
    exact q
  exact ⟨⟨_, he, rfl⟩, hq _ he (Heap.get?_push_of_some _ (Heap.get?_push_size _ B.free)) fun b o x => Heap.get?_push_of_some _ (Heap.get?_push_of_some _ x)⟩
/-- the i-th of what x stands for -/
def NthOf (K : PySem.W.Frag) (H : Hp) (x : V) (i : Nat) (y : Option V) : Prop := match x with
  | .str z => y = (z.cps[i]?).map fun c => V.str ⟨#[c]⟩
  | .ref a => ∃ xs, SqT K H a xs ∧ y = xs[i]?
  | _ => False
def NthAll (K : PySem.W.Frag) (H : Hp) (x : V) (i : Nat) (y : V) : Prop := match x with
  | .str z => some y = (z.cps[i]?).map fun c => V.str ⟨#[c]⟩
  | .ref a => ∀ xs, SqT K H a xs → xs[i]? = some y
  | _ => False
def ItN (K : PySem.W.Frag) (x : V) : It :=
  ⟨fun i H => ∃ y, NthOf K H x i (some y),
    fun i H v H' => ∃ T y, v = .ref T ∧ H T = none ∧ H' = upd H T (.tup [.int (i : Nat), y]) ∧ NthAll K H x i y,
    fun i H => NthOf K H x i none⟩
/-- what draws, at the place i -/
def DrawAt (X : Cx) (it : Addr) (fp : List Addr) (Hold : Nat → Heap → Prop) (i : Nat) (y : Option V) (s : Shared) : Prop := match y with
  | some y => ∃ (n : Nat) (P : Nat → Value → Prop) (St : Nat → Heap → Prop), Draws X.prog X.w X.A.in1 it fp n P St ∧ St i s.heap ∧ i < n ∧ (∀ u, P i u → RelV y u) ∧ ∀ h, St (i + 1) h → Hold (i + 1) h
  | none => ∃ (P : Nat → Value → Prop) (St : Nat → Heap → Prop), Draws X.prog X.w X.A.in1 it fp i P St ∧ St i s.heap
theorem turn_enumN {P : Program} {w : World} {K : PySem.W.Frag} {elts : List Expr} {kk : Nat} {tpos : Pos} {x : V} {e it : Addr} {fp : List Addr} {Hold : Nat → Heap → Prop} (hef : e ∉ fp) (hei : e ≠ it)
    (hlive : ∀ i h, Hold i h → ∃ o, h.get? it = some o ∧ ∀ v, o.data ≠ .cell v) (hkeep : ∀ i h h', Hold i h → (∀ b o, b ≠ e → h.get? b = some o → h'.get? b = some o) → Hold i h') (hkit : ∀ i h h', Hold i h → (∀ o, h.get? it = some o → h'.get? it = some o) → Hold i h')
    (hd : ∀ (X : Cx), X.prog = P → X.w = w → X.K = K → X.calm = true → ∀ (i : Nat) (pins : List (Addr × Obj)) (s : Shared) (σ : L2.St) (H : Hp) (y : Option V), Inv X pins σ H s → Hold i s.heap → NthOf K H x i y → DrawAt X it fp Hold i y s) :
    Turn P w K (.Tuple elts kk tpos) (ItN K x) [e, it] e (fun i h => (∃ old, IsEnum h e it ((i : Nat) : Int) old) ∧ Hold i h) where
  mem := by simp
  obj := fun i h st b hb => by
    obtain ⟨⟨old, he⟩, ho⟩ := st
    rcases (by simpa using hb : b = e ∨ b = it) with z | z
    · subst z; exact ⟨_, he, fun v q => nomatch q⟩
    · subst z; exact hlive i h ho
  keep := fun i h h' st k => ⟨let ⟨⟨old, he⟩, _⟩ := st; ⟨old, k e (by simp) _ he⟩, hkit i h h' st.2 fun o q => k it (by simp) o q⟩
  item := by
    intro X hP hw hK hc i pins s σ H E I hf st hg
    have dr := hd X hP hw hK hc i pins s σ H
    subst hP hw hK
    obtain ⟨⟨old, he⟩, ho⟩ := st
    obtain ⟨y, hy⟩ := hg
    obtain ⟨n, Pr, St, D, hst, hlt, hrel, hnext⟩ := dr (some y) I ho hy
    have hel : e < s.heap.objs.size := Heap.lt_size he
    have hil : it < s.heap.objs.size := by obtain ⟨_, q, _⟩ := hlive _ _ ho; exact Heap.lt_size q
    refine wpAny_pyNext_enum_itemD D he hst hlt hei hef fun u h' tk hPu hout hst' hT hsz hk => ?_
    refine ⟨_, rfl, wpAny_letOwnedTupleGo_enum (s := { s with heap := h', toks := tk + 1 }) hout fun h2 he2 sb => ?_⟩
    have hT2 : h2.get? s.heap.objs.size = some { cls := .type "tuple", data := .seq #[.int i tk, u] } := (sb.2 _ (Nat.ne_of_gt hel)).trans hT
    have new : ObjOk X.prog X.w (upd H s.heap.objs.size (.tup [.int (i : Nat), y])) h2 s.heap.objs.size (.tup [.int (i : Nat), y]) := by
      refine ⟨?_, [.int i tk, u], .cons ⟨_, rfl⟩ (.cons (hrel u hPu) .nil), ⟨_, hT2, rfl, _, rfl⟩⟩
      show 2 ≤ sizeLine
      decide
    have I1 : Inv X pins σ (upd H s.heap.objs.size (.tup [.int (i : Nat), y])) { s with heap := h2, toks := tk + 1 } := by
      refine I.turnedNew (ch := [e, it]) (fun b ob hb q => ?_) hf (Nat.le_refl _) new
      have h1 : b ≠ e := fun z => hb (by simp [z])
      have h3 : b ≠ it := fun z => hb (by simp [z])
      exact (sb.2 b h1).trans (hk b ob h1 h3 q)
    refine ⟨.ref s.heap.objs.size, _, I1, rfl, ⟨_, y, rfl, I.hok.fresh (Nat.le_refl _), rfl, ?_⟩, ⟨⟨u, ?_⟩, ?_⟩, fun b hb => ?_⟩
    · cases x with
      | str z => exact hy
      | ref a =>
        obtain ⟨ys, hq, hy⟩ := hy
        intro xs hxs
        rw [I.tuple_inj hxs hq]
        exact hy.symm
      | _ => exact hy
    · rw [show ((i + 1 : Nat) : Int) = (i : Int) + 1 by omega]
      exact he2
    · exact hkeep _ _ _ (hnext _ hst') fun b o hb q => (sb.2 b hb).trans q
    · have hb2 : b < s.heap.objs.size := by
        rcases (by simpa using hb : b = e ∨ b = it) with z | z
        · rw [z]; exact hel
        · rw [z]; exact hil
      rw [upd_ne (Nat.ne_of_lt hb2)]
      exact (hf b hb).1
  done := by
    intro X hP hw hK hc i pins s σ H E I hf st hg
    have dr := hd X hP hw hK hc i pins s σ H none
    subst hP hw hK
    obtain ⟨⟨old, he⟩, ho⟩ := st
    obtain ⟨Pr, St, D, hst⟩ := dr I ho hg
    obtain ⟨f0, f1, f2, f3, f4, f5⟩ := hf it (by simp)
    exact wpAny_pyNext_enum_endD D he hst fun h' eb => ⟨rfl, I.turned (t' := s.toks) (fun b o hb q => eb b o hb q) f0 f1 f3 f4 f5⟩
  self := fun A i s Q E st h => let ⟨⟨_, he⟩, _⟩ := st; wpAny_pyIter_enum he h
/-- no item left -/
theorem draws_end {prog : Program} {w : World} {A : Around} (hh : A.handled = none) (it t : Addr) (items : Array Value) (i : Nat) (hx : items[i]? = none) :
    Draws prog w A it [it, t] i (fun _ _ => True) (fun k h => k = i ∧ h.IsTupleIter it t i ∧ h.IsTuple t items) where
  live := fun _ _ st => let ⟨o, ho, _⟩ := st.2.1; ⟨o, ho⟩
  frame := fun _ _ _ st hk => ⟨st.1, st.2.1.at fun o e => hk it (by simp) o e, st.2.2.at fun o e => hk t (by simp) o e⟩
  item := fun k s Q E hi st hQ => absurd st.1 (Nat.ne_of_lt hi)
  done := fun s Q E st hE => wpAny_nextOf_tuple_end hh st.2.1 st.2.2 hx hE
theorem draws_endS {prog : Program} {w : World} {A : Around} (hh : A.handled = none) (it : Addr) (x : Str) (t : Tok) (i : Nat) (hx : x.cps[i]? = none) :
    Draws prog w A it [it] i (fun _ _ => True) (fun k h => k = i ∧ h.IsStrIter it (strIterType x) x t i) where
  live := fun _ _ st => let ⟨o, ho, _⟩ := st.2; ⟨o, ho⟩
  frame := fun _ _ _ st hk => ⟨st.1, let ⟨o, ho, q⟩ := st.2; ⟨o, hk it (by simp) o ho, q⟩⟩
  item := fun k s Q E hi st hQ => absurd st.1 (Nat.ne_of_lt hi)
  done := fun s Q E st hE => by
    have st2 := st.2
    cases ha : x.cps.all (· < 128)
    · simp only [strIterType, ha, Bool.false_eq_true, if_false] at st2
      exact wpAny_nextOf_wide_end hh st2 hx hE
    · simp only [strIterType, ha, if_true] at st2
      exact wpAny_nextOf_ascii_end hh st2 hx hE
def iEnumN (K : PySem.W.Frag) (ta : TA) : TI := fun σ H R => ta σ H fun vs H1 => ∃ x, vs = [x] ∧ ((∃ z, x = .str z) ∨ ∃ a xs, x = .ref a ∧ SqT K H1 a xs) ∧ R (ItN K x) H1
theorem pi_enumN {X : Cx} {e : Expr} {ta : TA} {p pos tpos : Pos} {elts : List Expr} {kk : Nat} (hc : X.calm = true) (hg : Gl X "enumerate") (hm : X.mg "enumerate" = none) (ha : PA X [e] ta) (hs : starEach [e] X.env = [(false, eval e X.env)] := by rfl) :
    PI X (.Tuple elts kk tpos) (.Call (.Name "enumerate" p) [e] [] pos) (iEnumN X.K ta) := by
  refine ⟨fun pins s σ H R I h => ?_⟩
  refine Call_ (ld_blt I hg hm boot_enumerate (PyProof.Rows.callWith_type1 (thn (ha.run pos pins s σ H _ I h) fun us s1 ⟨vs, H1, I1, r1, q1⟩ => ?_) hs rfl))
  obtain ⟨x, ex, hx, q⟩ := q1
  subst ex
  have fpk : ∀ b ∈ [s1.heap.objs.size + 1, s1.heap.objs.size], FpOk X pins H1 b := fun b hb => by
    have hle : s1.heap.objs.size ≤ b := by
      rcases (by simpa using hb : b = s1.heap.objs.size + 1 ∨ b = s1.heap.objs.size) with z | z <;> omega
    exact I1.fpOk hle (I1.hok.fresh hle)
  cases r1 with
  | cons r rr =>
    cases rr
    rcases hx with ⟨z, rfl⟩ | ⟨a, xs, rfl, hq⟩
    · obtain ⟨t, rfl⟩ := r
      refine call_enum1 (begins_text z t) trivial fun h' he hit hk => wpAny_pyIter_enum he ?_
      have I2 : Inv X pins σ H1 { s1 with heap := h' } := I1.kept (t' := s1.toks) hk
      refine ⟨s1.heap.objs.size + 1, [s1.heap.objs.size + 1, s1.heap.objs.size], _, _, H1, rfl, I2, turn_enumN (e := s1.heap.objs.size + 1) (it := s1.heap.objs.size) (fp := [s1.heap.objs.size]) (Hold := fun i h => h.IsStrIter s1.heap.objs.size (strIterType z) z t i) (fun hm => Nat.succ_ne_self _ (List.mem_singleton.mp hm)) (Nat.succ_ne_self _) ?_ ?_ ?_ ?_, ⟨⟨.none, he⟩, ⟨_, hit, rfl, rfl⟩⟩, fpk, q⟩
      · exact fun i h hh => let ⟨o, ho, hc, hdd⟩ := hh; ⟨o, ho, fun v q => by rw [hdd] at q; cases q⟩
      · exact fun i h h2 hh kk => let ⟨o, ho, q⟩ := hh; ⟨o, kk _ o (Nat.succ_ne_self _).symm ho, q⟩
      · exact fun i h h2 hh kk => let ⟨o, ho, q⟩ := hh; ⟨o, kk o ho, q⟩
      · intro X2 hP hw hK hc2 i pins2 s2 σ2 H2 y I3 hh hn
        cases y with
        | some y =>
          have hn : some y = (z.cps[i]?).map fun c => V.str ⟨#[c]⟩ := hn
          cases hz : z.cps[i]? with
          | none => rw [hz] at hn; cases hn
          | some c =>
            rw [hz] at hn
            have ey : y = V.str ⟨#[c]⟩ := Option.some.inj hn
            subst ey
            have hi : i < z.cps.size := (Array.getElem?_eq_some_iff.mp hz).1
            refine ⟨z.cps.size, fun i v => ∃ c u, z.cps[i]? = some c ∧ v = .str ⟨#[c]⟩ u, fun i h => h.IsStrIter s1.heap.objs.size (strIterType z) z t i, Draws.text (A := X2.A.in1) (I3.ok.hd hc2) s1.heap.objs.size z t, hh, hi, fun u hu => ?_, fun h hs => hs⟩
            obtain ⟨c', u', h1, h2⟩ := hu
            rw [hz] at h1
            cases h1
            exact ⟨u', h2⟩
        | none =>
          have hn : none = (z.cps[i]?).map fun c => V.str ⟨#[c]⟩ := hn
          cases hz : z.cps[i]? with
          | some c => rw [hz] at hn; cases hn
          | none => exact ⟨_, _, draws_endS (A := X2.A.in1) (I3.ok.hd hc2) s1.heap.objs.size z t i hz, ⟨rfl, hh⟩⟩
    · cases r
      obtain ⟨its, rv, pt, hz⟩ := I1.tuple hq
      have hal : a < s1.heap.objs.size := by
        obtain ⟨o, ho, _⟩ := pt
        exact Heap.lt_size ho
      refine call_enum1 (begins_tuple a its.toArray) pt fun h' he hit hk => wpAny_pyIter_enum he ?_
      have I2 : Inv X pins σ H1 { s1 with heap := h' } := I1.kept (t' := s1.toks) hk
      refine ⟨s1.heap.objs.size + 1, [s1.heap.objs.size + 1, s1.heap.objs.size], _, _, H1, rfl, I2, turn_enumN (e := s1.heap.objs.size + 1) (it := s1.heap.objs.size) (fp := [s1.heap.objs.size, a]) (Hold := fun i h => h.IsTupleIter s1.heap.objs.size a i) (fun hm => by
        rcases List.mem_cons.mp hm with z | z
        · exact Nat.succ_ne_self _ z
        · exact Nat.ne_of_gt (Nat.lt_succ_of_lt hal) (List.mem_singleton.mp z)) (Nat.succ_ne_self _) ?_ ?_ ?_ ?_, ⟨⟨.none, he⟩, ⟨_, hit, rfl, rfl⟩⟩, fpk, q⟩
      · exact fun i h hh => let ⟨o, ho, hc, hdd⟩ := hh; ⟨o, ho, fun v q => by rw [hdd] at q; cases q⟩
      · exact fun i h h2 hh kk => let ⟨o, ho, q⟩ := hh; ⟨o, kk _ o (Nat.succ_ne_self _).symm ho, q⟩
      · exact fun i h h2 hh kk => let ⟨o, ho, q⟩ := hh; ⟨o, kk o ho, q⟩
      · intro X2 hP hw hK hc2 i pins2 s2 σ2 H2 y I3 hh hn
        obtain ⟨ys, hs2, hy⟩ := hn
        rw [← hK] at hs2
        obtain ⟨its2, rv2, pt2, _⟩ := I3.tuple hs2
        have hlen := rv2.length
        cases y with
        | some y =>
          obtain ⟨u, hu, ru⟩ := rv2.get hy.symm
          have hi : i < its2.toArray.size := by
            have := (List.getElem?_eq_some_iff.mp hu).1
            simpa using this
          refine ⟨its2.toArray.size, fun i v => its2.toArray[i]? = some v, fun i h => h.IsTupleIter s1.heap.objs.size a i ∧ h.IsTuple a its2.toArray, Draws.tuple (A := X2.A.in1) (I3.ok.hd hc2) s1.heap.objs.size a (Nat.ne_of_lt hal) its2.toArray, ⟨hh, pt2⟩, hi, fun v hv => ?_, fun h hs => hs.1⟩
          have hv : its2.toArray[i]? = some v := hv
          have : some u = some v := by rw [← hu, ← hv]; simp
          cases this
          exact ru
        | none =>
          have hi : its2.toArray[i]? = none := by
            have := List.getElem?_eq_none_iff.mp hy.symm
            simp
            omega
          exact ⟨_, _, draws_end (A := X2.A.in1) (I3.ok.hd hc2) s1.heap.objs.size a its2.toArray i hi, ⟨rfl, hh, pt2⟩⟩
/-- the pairs -/
def enumV (k : Nat) : List Val → List Val
  | [] => []
  | x :: xs => .tup [.int (k : Int), x] :: enumV (k + 1) xs
def enumK (zs : List SV) (st1 : Sto) : Rv Src := match zs with
  | [.v (.tup xs)] => .ok (.seq (enumV 0 xs)) st1
  | [.v (.str s)] => .ok (.seq (enumV 0 (s.map fun c => .str [c]))) st1
  | _ => .bad
def iEnumF (fa : Env → Sto → Rv (List SV)) : Fi := fun env st => (fa env st).bind enumK
theorem enumV_get : ∀ {xs : List Val} {k i : Nat}, (enumV k xs)[i]? = (xs[i]?).map fun x => .tup [.int ((k + i : Nat) : Int), x]
  | [], _, _ => by simp [enumV]
  | x :: xs, k, 0 => by simp [enumV]
  | x :: xs, k, i + 1 => by
    simp only [enumV, List.getElem?_cons_succ, enumV_get (xs := xs) (k := k + 1) (i := i)]
    rw [show k + 1 + i = k + (i + 1) by omega]
theorem enumV_len : ∀ (xs : List Val) (k : Nat), (enumV k xs).length = xs.length
  | [], _ => rfl
  | x :: xs, k => by simp only [enumV, List.length_cons, enumV_len xs (k + 1)]
section
variable {G : Gc} {H0 : Hp} {ρ0 : Rho} {P0 : Ts}
theorem yield_en {H : Hp} {ρ : Rho} {P : Ts} {st : Sto} {T : Addr} {k : Int} {y : Val} {u : V} (rs : RepS G H P ρ st) (hT : H T = none) (ry : RepV G H (TP P ρ) y u) :
    Kp (Tr ρ) H (Tr ρ) (upd H T (.tup [.int k, u])) ∧ RepS G (upd H T (.tup [.int k, u])) P ρ st ∧ RepV G (upd H T (.tup [.int k, u])) (TP P ρ) (.tup [.int k, y]) (.ref T) := yield_pair rs hT (.int k) ry
theorem walk_enumT {K : PySem.W.Frag} (hK : G.K = K) {a : Addr} {xs : List Val} {vs : List V} (nt : NoTup H0 (TP P0 ρ0)) (h : H0 a = some (.tup vs)) (r : RepVs G H0 (TP P0 ρ0) xs vs) : WalkS G P0 ρ0 H0 (ItN K (.ref a)) (enumV 0 xs) := by
  subst hK
  intro i H P ρ st k rs
  have hq := k.sqT (G := G) nt (.inl (.inl h))
  have hr := RepVs.ext k nt r
  refine ⟨fun x hx => ?_, fun hl => ⟨vs, hq, ?_⟩⟩
  · rw [enumV_get] at hx
    cases e : xs[i]? with
    | none => rw [e] at hx; cases hx
    | some y =>
      rw [e] at hx
      cases hx
      obtain ⟨v, hv, rv⟩ := hr.get e
      refine ⟨⟨v, vs, hq, hv.symm⟩, fun w H' q => ?_⟩
      obtain ⟨T, u, rfl, hT, rfl, hn⟩ := q
      have := hn vs hq
      rw [hv] at this
      cases this
      rw [Nat.zero_add]
      exact yield_en rs hT rv
  · rw [enumV_len] at hl
    exact (List.getElem?_eq_none_iff.mpr (by rw [← hr.len]; exact hl)).symm
theorem walk_enumS {K : PySem.W.Frag} (s : List Nat) (hs : SOk s = true) : WalkS G P0 ρ0 H0 (ItN K (.str (toS s))) (enumV 0 (s.map fun c => .str [c])) := by
  intro i H P ρ st k rs
  have at' : ∀ j : Nat, (toS s).cps[j]? = s[j]? := fun j => by simp
  refine ⟨fun x hx => ?_, fun hl => ?_⟩
  · rw [enumV_get, List.getElem?_map] at hx
    cases e : s[i]? with
    | none => rw [e] at hx; cases hx
    | some c =>
      rw [e] at hx
      cases hx
      refine ⟨⟨.str (toS [c]), by show some _ = ((toS s).cps[i]?).map _; rw [at', e]; rfl⟩, fun w H' q => ?_⟩
      obtain ⟨T, u, rfl, hT, rfl, hn⟩ := q
      have hn : some u = ((toS s).cps[i]?).map fun c => V.str ⟨#[c]⟩ := hn
      rw [at', e] at hn
      cases hn
      rw [Nat.zero_add]
      exact yield_en rs hT (.str [c] (sok_one hs e))
  · rw [enumV_len, List.length_map] at hl
    show none = ((toS s).cps[i]?).map _
    rw [at', List.getElem?_eq_none_iff.mpr hl]; rfl
end
section
variable {L : Lx} {X : Cx} {W : WX} {a e : Expr} {fr : Env → Sto → Rv (List SV)} {pos p : Pos}
theorem ei_enum {elts : List Expr} {kk : Nat} {tpos : Pos} (hc : X.calm = true) (hg : Gl X "enumerate") (hm : X.mg "enumerate" = none) (ha : EA L X W [a] fr) (hs : starEach [a] X.env = [(false, eval a X.env)] := by rfl) : EI L X W (.Tuple elts kk tpos) (.Call (.Name "enumerate" p) [a] [] pos) (iEnumF fr) := by
  refine PI.weak (pi_enumN hc hg hm ha hs) fun σ H R ⟨env, st, ρ, P, re, rs, p⟩ => ⟨env, st, ρ, P, re, rs, PostA.thenI p fun z st1 v H1 k rs1 rx p => ?_⟩
  unfold enumK at p
  split at p
  · cases rx with
    | cons r t =>
      cases t
      cases r with
      | v r => cases r with
        | tup h r => exact ⟨_, rfl, .inr ⟨_, _, rfl, .inl (.inl h)⟩, p _ H1 Kp.refl rs1 (walk_enumT rfl rs1.nt h r)⟩
  · cases rx with
    | cons r t =>
      cases t
      cases r with
      | v r => cases r with
        | str _ h => exact ⟨_, rfl, .inl ⟨_, rfl⟩, p _ H1 Kp.refl rs1 (walk_enumS _ h)⟩
  · exact p.elim
end
end Eng

namespace Eng
open PySem PySem.Spec PyProof.Rows L2

/-! ### comprehensions of two clauses -/
def compSeq2 (p : Pat) (t : Ft) (fi : Fi) (p1 : Pat) (t1 : Ft) (fe : Fe) (vs1 : List Nat) (env0 : Env) : List Val → List Val → Sto → Rv (List Val)
  | [], acc, st => .ok acc st
  | x :: r, acc, st => match bindP p x env0 with
    | some env => (t env st).bind fun b st1 => if b = true then (fi env st1).bind fun s st2 => match s with
        | .seq ys => if acc.length + ys.length ≤ 1000000 then (compSeq p1 t1 fe (wipeE env vs1) ys acc st2).bind fun acc2 st3 => compSeq2 p t fi p1 t1 fe vs1 env0 r acc2 st3 else .bad
        | .cell _ => .bad
      else compSeq2 p t fi p1 t1 fe vs1 env0 r acc st1
    | none => .bad
def eComp2 (fi : Fi) (p : Pat) (t : Ft) (fi1 : Fi) (p1 : Pat) (t1 : Ft) (fe : Fe) (vs vs1 : List Nat) : Fe := fun env st => (fi env st).bind fun s st1 => match s with
  | .seq xs => (compSeq2 p t fi1 p1 t1 fe vs1 (wipeE env vs) xs [] st1).fresh
  | .cell _ => .bad
/-- the list in the making: H the heap ahead of all, B the heap that the walk leans on -/
def CSt (G : Gc) (P : Ts) (ρ : Rho) (D : Addr) (H B : Hp) (acc : List Val) (st : Sto) (H2 : Hp) : Prop :=
  Kp (Tr ρ) H (Tr ρ) H2 ∧ Kp (TP (Plus P D) ρ) B (TP (Plus P D) ρ) H2 ∧ RepS G H2 (Plus P D) ρ st ∧ ∃ us, H2 D = some (.lst us) ∧ RepVs G H2 (TP (Plus P D) ρ) acc us
section
variable {G : Gc} {P : Ts} {ρ : Rho} {D : Addr} {H B B2 : Hp} {acc : List Val} {st st2 st4 st5 : Sto} {H2 H3 H4 : Hp}
theorem CSt.go (h : CSt G P ρ D H B acc st H2) (k : Kp (Tr ρ) H2 (Tr ρ) H3) (rs : RepS G H3 (Plus P D) ρ st2) : CSt G P ρ D H B acc st2 H3 := by
  obtain ⟨k1, k2, rs2, us, e, r⟩ := h
  exact ⟨k1.trans k, k2.trans k.tp, rs, us, k.keep D _ (rs2.apart D (.inr rfl)) e (by intros; simp), r.ext k.tp rs2.nt⟩
theorem CSt.rebase (h : CSt G P ρ D H B acc st H2) : CSt G P ρ D H H2 acc st H2 := ⟨h.1, Kp.refl, h.2.2.1, h.2.2.2⟩
theorem CSt.base (h : CSt G P ρ D H B2 acc st H2) (k : Kp (TP (Plus P D) ρ) B (TP (Plus P D) ρ) B2) : CSt G P ρ D H B acc st H2 := ⟨h.1, k.trans h.2.1, h.2.2.1, h.2.2.2⟩
end
section
variable {L : Lx} {X : Cx} {W : WX} {P : Ts} {ρ : Rho} {D : Addr} {H B : Hp} {acc : List Val} {st2 : Sto} {H2 H3 : Hp} {p p1 : Pat} {g g1 : TG} {t t1 : Ft} {fe : Fe} {fi fi1 : Fi} {envB env' : Env} {σ σB : L2.St} {vs vs1 : List Nat} {x : Val} {v : V} {stB : Sto}
/-- one turn: the target, the test -/
theorem comp_head (hpat : EP1 X p g) (hv : ∀ i ∈ p.names, i ∈ vs) (reB : RepE (gx L X) B (Plus P D) ρ envB σB) (ntB : NoTup B (TP (Plus P D) ρ)) (hS : CSt (gx L X) P ρ D H B acc st2 H2) (k3 : Kp (Tr ρ) H2 (Tr ρ) H3) (rs3 : RepS (gx L X) H3 (Plus P D) ρ st2)
    (rv : RepV (gx L X) H3 (TP (Plus P D) ρ) x v) (hb : bindP p x envB = some env') {b : Bool} {st4 : Sto} (ht : t env' st2 = .ok b st4) {C : Bool → L2.St → Hp → Prop}
    (cont : ∀ σ4 H4, RepE (gx L X) H4 (Plus P D) ρ env' σ4 → CSt (gx L X) P ρ D H B acc st4 H4 → C b σ4 H4) :
    g v σB H3 fun σ2 H2 => L2.wipe σ2 vs = L2.wipe σB vs ∧ TTm (gx L X) W0 t σ2 H2 fun b H3 => C b σ2 H3 := by
  have hS3 := hS.go k3 rs3
  have re3 : RepE (gx L X) H3 (Plus P D) ρ envB σB := ⟨reB.len, fun i z h => by
    obtain ⟨u, e, r⟩ := reB.get i z h
    refine ⟨u, e, ?_⟩
    cases r with
    | v r => exact .v (r.ext hS3.2.1 ntB)
    | loc q => exact .loc q⟩
  refine pat_ok hpat re3 rv hb fun σ4 re4 hw => ⟨hw vs hv, env', st2, ρ, Plus P D, re4, rs3, ?_⟩
  rw [ht]
  exact fun H4 k4 rs4 => cont σ4 H4 (re4.ext k4 rs3) (hS3.go k4 rs4)
/-- .. the item -/
theorem comp_push (h0D : H D = none) {σ4 : L2.St} {st4 st5 : Sto} {H4 : Hp} (re : RepE (gx L X) H4 (Plus P D) ρ env' σ4) (hS : CSt (gx L X) P ρ D H B acc st4 H4) {z : SV} {y : Val} (hf : fe env' st4 = .ok z st5) (hz : z.froz = .v y) (hl : acc.length < sizeLine) {Nx : Hp → Prop}
    (w : ∀ H5, CSt (gx L X) P ρ D H B (acc ++ [y]) st5 H5 → Nx H5) : TEm (gx L X) W0 fe σ4 H4 fun y H5 => ∃ us, H5 D = some (.lst us) ∧ us.length < sizeLine ∧ Nx (upd H5 D (.lst (us ++ [y]))) := by
  refine ⟨env', st4, ρ, Plus P D, re, hS.2.2.1, ?_⟩
  rw [hf]
  intro u H5 k5 rs5 rx
  have rz := rx.z
  rw [hz] at rz
  obtain ⟨kA, kB, rs6, us, e5, rus⟩ := hS.go k5 rs5
  cases rz with
  | v ry =>
    refine ⟨us, e5, by rw [← rus.len]; exact hl, ?_⟩
    have kw : Kp (TP (Plus P D) ρ) H5 (TP (Plus P D) ρ) (upd H5 D (.lst (us ++ [u]))) := kp_write (.inl (.inr rfl))
    refine w _ ⟨⟨fun a o na e nt => ?_, fun a o e => ?_, fun a t => .inl t⟩, kB.trans kw, rs5.writeP (.inr rfl) ⟨by intros; simp, by intros; simp, by intros; simp, by intros; simp⟩, us ++ [u], upd_same, RepVs.app (rus.ext kw rs5.nt) (ry.ext kw rs5.nt)⟩
    · rw [upd_ne (ne_of_none e h0D)]; exact kA.keep a o na e nt
    · obtain ⟨o', e'⟩ := kA.stay a o e
      exact ⟨o', by rw [upd_ne (ne_of_none e h0D)]; exact e'⟩
theorem bind_ok {α β : Type} {r : Rv α} {f : α → Sto → Rv β} {a : β} {s : Sto} (h : r.bind f = .ok a s) : ∃ b s1, r = .ok b s1 ∧ f b s1 = .ok a s := by
  cases r with
  | ok b s1 => exact ⟨b, s1, rfl, h⟩
  | exc _ _ => cases h
  | bad => cases h
/-- what a turn of a comprehension comes to -/
theorem compSeq_ok {env0 : Env} {r : List Val} {a : List Val} {s : Sto} (h : compSeq p t fe env0 (x :: r) acc st2 = .ok a s) :
    ∃ env b st4, bindP p x env0 = some env ∧ t env st2 = .ok b st4 ∧ (b = true → ∃ z y st5, fe env st4 = .ok z st5 ∧ z.froz = .v y ∧ compSeq p t fe env0 r (acc ++ [y]) st5 = .ok a s) ∧ (b = false → compSeq p t fe env0 r acc st4 = .ok a s) := by
  unfold compSeq at h
  cases hb : bindP p x env0 with
  | none => rw [hb] at h; cases h
  | some env =>
    rw [hb] at h
    obtain ⟨b, st4, h1, h2⟩ := bind_ok h
    refine ⟨env, b, st4, rfl, h1, fun e => ?_, fun e => ?_⟩
    · subst e
      rw [if_pos rfl] at h2
      obtain ⟨z, st5, h3, h4⟩ := bind_ok h2
      cases hz : z.froz with
      | v y => simp only [hz] at h4; exact ⟨z, y, st5, h3, hz, h4⟩
      | loc _ => simp only [hz] at h4; cases h4
      | fl _ => simp only [hz] at h4; cases h4
      | fd _ _ => simp only [hz] at h4; cases h4
    · subst e
      simpa using h2
theorem compSeq2_ok {env0 : Env} {r : List Val} {a : List Val} {s : Sto} (h : compSeq2 p t fi1 p1 t1 fe vs1 env0 (x :: r) acc st2 = .ok a s) :
    ∃ env b st4, bindP p x env0 = some env ∧ t env st2 = .ok b st4 ∧ (b = true → ∃ ys st5 acc2 st6, fi1 env st4 = .ok (.seq ys) st5 ∧ acc.length + ys.length ≤ 1000000 ∧ compSeq p1 t1 fe (wipeE env vs1) ys acc st5 = .ok acc2 st6 ∧ compSeq2 p t fi1 p1 t1 fe vs1 env0 r acc2 st6 = .ok a s) ∧
      (b = false → compSeq2 p t fi1 p1 t1 fe vs1 env0 r acc st4 = .ok a s) := by
  unfold compSeq2 at h
  cases hb : bindP p x env0 with
  | none => rw [hb] at h; cases h
  | some env =>
    rw [hb] at h
    obtain ⟨b, st4, h1, h2⟩ := bind_ok h
    refine ⟨env, b, st4, rfl, h1, fun e => ?_, fun e => ?_⟩
    · subst e
      rw [if_pos rfl] at h2
      obtain ⟨sr, st5, h3, h4⟩ := bind_ok h2
      cases sr with
      | cell _ => cases h4
      | seq ys =>
        simp only at h4
        split at h4
        · rename_i hl
          obtain ⟨acc2, st6, h5, h6⟩ := bind_ok h4
          exact ⟨ys, st5, acc2, st6, h3, hl, h5, h6⟩
        · cases h4
    · subst e
      simpa using h2
/-- the inner walk -/
theorem comp_in (hpat : EP1 X p1 g1) (hv : ∀ i ∈ p1.names, i ∈ vs1) (h0D : H D = none) {env2 : Env} {σ4 : L2.St} {H5 : Hp} {J : It} {ys acc2 : List Val} {st5 st6 : Sto} {Nx : Hp → Prop} (re : RepE (gx L X) H5 (Plus P D) ρ env2 σ4) (hS : CSt (gx L X) P ρ D H B acc st5 H5)
    (wk : WalkS (gx L X) (Plus P D) ρ H5 J ys) (hl : acc.length + ys.length ≤ 1000000) (hq : compSeq p1 t1 fe (wipeE env2 vs1) ys acc st5 = .ok acc2 st6) (fin : ∀ H', CSt (gx L X) P ρ D H B acc2 st6 H' → Nx H') :
    ∃ W1 : Nat → Nat → Hp → Prop, (∃ m, W1 0 m H5) ∧ ∀ j k H, W1 j k H → (J.stop j H ∧ Nx H) ∨ (J.go j H ∧ ∃ N1 : Hp → Prop, (∀ H', N1 H' → ∃ k', k' < k ∧ W1 (j + 1) k' H') ∧ ∀ x H', J.yld j H x H' → g1 x (L2.wipe σ4 vs1) H' fun σ3 H5 => L2.wipe σ3 vs1 = L2.wipe σ4 vs1 ∧ TTm (gx L X) W0 t1 σ3 H5 fun b H6 =>
      if b = true then TEm (gx L X) W0 fe σ3 H6 fun y H7 => ∃ us, H7 D = some (.lst us) ∧ us.length < sizeLine ∧ N1 (upd H7 D (.lst (us ++ [y]))) else N1 H6) := by
  have hz : 1000000 < sizeLine := by decide
  have reW : RepE (gx L X) H5 (Plus P D) ρ (wipeE env2 vs1) (L2.wipe σ4 vs1) := re.wipe vs1
  have nt5 := hS.2.2.1.nt
  refine ⟨fun j k H6 => ∃ ac s6, k = ys.length - j ∧ ac.length ≤ acc.length + j ∧ CSt (gx L X) P ρ D H H5 ac s6 H6 ∧ compSeq p1 t1 fe (wipeE env2 vs1) (ys.drop j) ac s6 = .ok acc2 st6, ⟨ys.length, acc, st5, rfl, Nat.le_refl _, hS.rebase, hq⟩, fun j k H6 hW1 => ?_⟩
  obtain ⟨ac, s6, hk, hl6, hS6, hq6⟩ := hW1
  have w1 := wk j H6 (Plus P D) ρ s6 hS6.2.1 hS6.2.2.1
  by_cases hj : j < ys.length
  · rw [List.drop_eq_getElem_cons hj] at hq6
    obtain ⟨env3, b3, st7, hb3, ht3, hT3, hF3⟩ := compSeq_ok hq6
    obtain ⟨hgo1, hy1⟩ := w1.1 ys[j] (List.getElem?_eq_getElem hj)
    refine .inr ⟨hgo1, fun H' => ∃ ac' s', ac'.length ≤ acc.length + (j + 1) ∧ CSt (gx L X) P ρ D H H5 ac' s' H' ∧ compSeq p1 t1 fe (wipeE env2 vs1) (ys.drop (j + 1)) ac' s' = .ok acc2 st6, fun H' hN => ?_, fun v7 H7 yy7 => ?_⟩
    · obtain ⟨ac', s', a, b, c⟩ := hN
      exact ⟨ys.length - (j + 1), by omega, ac', s', rfl, a, b, c⟩
    · obtain ⟨k7, rs7, rv7⟩ := hy1 v7 H7 yy7
      have key1 := comp_head (C := fun b σ3 H6 => if b = true then TEm (gx L X) W0 fe σ3 H6 fun y H7 => ∃ us, H7 D = some (.lst us) ∧ us.length < sizeLine ∧ ∃ ac' s', ac'.length ≤ acc.length + (j + 1) ∧ CSt (gx L X) P ρ D H H5 ac' s' (upd H7 D (.lst (us ++ [y]))) ∧ compSeq p1 t1 fe (wipeE env2 vs1) (ys.drop (j + 1)) ac' s' = .ok acc2 st6
        else ∃ ac' s', ac'.length ≤ acc.length + (j + 1) ∧ CSt (gx L X) P ρ D H H5 ac' s' H6 ∧ compSeq p1 t1 fe (wipeE env2 vs1) (ys.drop (j + 1)) ac' s' = .ok acc2 st6) hpat hv reW nt5 hS6 k7 rs7 rv7 hb3 ht3 (fun σ8 H8 re8 hS8 => ?_)
      · rw [wipe_wipe fun i h => h] at key1
        exact key1
      · cases b3 with
        | false =>
          simp only [Bool.false_eq_true, if_false]
          exact ⟨ac, st7, by omega, hS8, hF3 rfl⟩
        | true =>
          simp only [if_true]
          obtain ⟨z, y, st8, h1, h2, h3⟩ := hT3 rfl
          exact comp_push (Nx := fun H' => ∃ ac' s', ac'.length ≤ acc.length + (j + 1) ∧ CSt (gx L X) P ρ D H H5 ac' s' H' ∧ compSeq p1 t1 fe (wipeE env2 vs1) (ys.drop (j + 1)) ac' s' = .ok acc2 st6) h0D re8 hS8 h1 h2 (by omega) fun H9 hS9 => ⟨ac ++ [y], st8, by rw [List.length_append]; simp; omega, hS9, h3⟩
  · rw [List.drop_eq_nil_of_le (by omega)] at hq6
    cases hq6
    exact .inl ⟨w1.2 (by omega), fin H6 (hS6.base hS.2.1)⟩
theorem comp2_tm (hpat : EP1 X p g) (hv : ∀ i ∈ p.names, i ∈ vs) (hpat1 : EP1 X p1 g1) (hv1 : ∀ i ∈ p1.names, i ∈ vs1) (σ : L2.St) (H : Hp) (Q : VK) (h : TEm (gx L X) W (eComp2 fi p t fi1 p1 t1 fe vs vs1) σ H Q) (hz : 1000000 < sizeLine := by decide) :
    tLc2 (TIm (gx L X) W fi) g (TTm (gx L X) W0 t) (TIm (gx L X) W0 fi1) g1 (TTm (gx L X) W0 t1) (TEm (gx L X) W0 fe) vs vs1 σ H Q := by
  obtain ⟨env, st, ρ, P, re, rs, q⟩ := h
  refine ⟨env, st, ρ, P, re, rs, ?_⟩
  unfold eComp2 at q
  cases hf : fi env st with
  | exc e st1 => rw [hf] at q; exact q
  | bad => rw [hf] at q; exact q
  | ok s st1 =>
    rw [hf] at q
    cases s with
    | cell l => exact q.elim
    | seq xs =>
      intro J H1 k1 rs1 wk D hD
      have q : Post (gx L X) W σ P ρ H (compSeq2 p t fi1 p1 t1 fe vs1 (wipeE env vs) xs [] st1).fresh Q := q
      cases hc : compSeq2 p t fi1 p1 t1 fe vs1 (wipeE env vs) xs [] st1 with
      | exc _ _ => rw [hc] at q; exact q.elim
      | bad => rw [hc] at q; exact q.elim
      | ok res stE =>
        rw [hc] at q
        have h0D : H D = none := k1.none hD
        have rsD : RepS (gx L X) (upd H1 D (.lst [])) (Plus P D) ρ st1 := rs1.freshP hD ⟨by intros; simp, by intros; simp, by intros; simp, by intros; simp⟩
        have nP : ¬ P D := fun t => rs1.ntr hD (.inl t)
        have reD : RepE (gx L X) (upd H1 D (.lst [])) (Plus P D) ρ (wipeE env vs) (L2.wipe σ vs) := (re.ext k1 rs).plus hD rs1 |>.wipe vs
        have st0 : CSt (gx L X) P ρ D H (upd H1 D (.lst [])) [] st1 (upd H1 D (.lst [])) := ⟨k1.trans (kp_new hD), Kp.refl, rsD, [], upd_same, .nil⟩
        let Nn := fun (i : Nat) (H' : Hp) => ∃ acc' st', CSt (gx L X) P ρ D H (upd H1 D (.lst [])) acc' st' H' ∧ compSeq2 p t fi1 p1 t1 fe vs1 (wipeE env vs) (xs.drop i) acc' st' = .ok res stE
        refine ⟨fun i m H2 => m = xs.length - i ∧ Nn i H2, ⟨xs.length, rfl, [], st1, st0, hc⟩, fun i m H2 hW => ?_⟩
        obtain ⟨hm, acc, st2, hS, hq⟩ := hW
        have w := wk i H2 (Plus P D) ρ st2 ((kp_newP hD).trans hS.2.1) hS.2.2.1
        by_cases hi : i < xs.length
        · rw [List.drop_eq_getElem_cons hi] at hq
          obtain ⟨env2, b, st4, hb, ht, hT, hF⟩ := compSeq2_ok hq
          obtain ⟨hgo, hy⟩ := w.1 xs[i] (List.getElem?_eq_getElem hi)
          refine .inr ⟨hgo, Nn (i + 1), fun H' hN => ⟨xs.length - (i + 1), by omega, rfl, hN⟩, fun v H3 yy => ?_⟩
          obtain ⟨k3, rs3, rv⟩ := hy v H3 yy
          have key := comp_head (C := fun b σ2 H3 => if b = true then TIm (gx L X) W0 fi1 σ2 H3 fun J1 H4 => ∃ W1 : Nat → Nat → Hp → Prop, (∃ m, W1 0 m H4) ∧ ∀ j k H, W1 j k H →
              (J1.stop j H ∧ Nn (i + 1) H) ∨ (J1.go j H ∧ ∃ Nx1 : Hp → Prop, (∀ H', Nx1 H' → ∃ k', k' < k ∧ W1 (j + 1) k' H') ∧ ∀ x H', J1.yld j H x H' → g1 x (L2.wipe σ2 vs1) H' fun σ3 H5 => L2.wipe σ3 vs1 = L2.wipe σ2 vs1 ∧ TTm (gx L X) W0 t1 σ3 H5 fun b H6 =>
                if b = true then TEm (gx L X) W0 fe σ3 H6 fun y H7 => ∃ us, H7 D = some (.lst us) ∧ us.length < sizeLine ∧ Nx1 (upd H7 D (.lst (us ++ [y]))) else Nx1 H6) else Nn (i + 1) H3)
              hpat hv reD rsD.nt hS k3 rs3 rv hb ht (fun σ4 H4 re4 hS4 => ?_)
          · rw [wipe_wipe fun i h => h] at key
            exact key
          · cases b with
            | false => simp only [Bool.false_eq_true, if_false]; exact ⟨acc, st4, hS4, hF rfl⟩
            | true =>
              simp only [if_true]
              obtain ⟨ys, st5, acc2, st6, h1, h2, h3, h4⟩ := hT rfl
              refine ⟨env2, st4, ρ, Plus P D, re4, hS4.2.2.1, ?_⟩
              rw [h1]
              intro J1 H5 k5 rs5 wk1
              exact comp_in hpat1 hv1 h0D (re4.ext k5 hS4.2.2.1) (hS4.go k5 rs5) wk1 h2 h3 fun H' hS' => ⟨acc2, st6, hS', h4⟩
        · rw [List.drop_eq_nil_of_le (by omega)] at hq
          cases hq
          obtain ⟨k2, _, rs2, us, e, rv⟩ := hS
          exact .inl ⟨w.2 (by omega), q _ H2 k2 rs2.drop (.fl e h0D rv rs2 nP)⟩
end
section
variable {L : Lx} {X : Cx} {W : WX} {elt tg iter tg1 iter1 : Expr} {ifs ifs1 : List Expr} {scope : Scope} {own : List (Str × Nat)} {vs1 : List Nat} {pos : Pos} {fi fi1 : Fi} {p p1 : Pat} {t t1 : Ft} {fe : Fe} {g g1 : TG}
theorem ee_comp2 (hc : X.calm = true) (hN : X.N.Nodup) (hi : EI L X W tg iter fi) (ok : BlkOk X.N X.env.scope scope own) (hv : ∀ i ∈ vs1, i ∈ own.map (·.2))
    (hg : ∀ (s : Shared) (H : Hp) (C : Addr) (cl : List (Str × Addr)) (fp : List Addr), PG (X.blk s H scope (compEnvC scope cl C X.env) fp) tg g) (ht : ∀ (s : Shared) (H : Hp) (C : Addr) (cl : List (Str × Addr)) (fp : List Addr), PTs (X.blk s H scope (compEnvC scope cl C X.env) fp) ifs (TTm (gx L X) W0 t))
    (hi1 : ∀ (s : Shared) (H : Hp) (C : Addr) (cl : List (Str × Addr)) (fp : List Addr), PI (X.blk s H scope (compEnvC scope cl C X.env) fp) tg1 iter1 (TIm (gx L X) W0 fi1))
    (hg1 : ∀ (s : Shared) (H : Hp) (C : Addr) (cl : List (Str × Addr)) (fp : List Addr), PG (X.blk s H scope (compEnvC scope cl C X.env) fp) tg1 g1) (ht1 : ∀ (s : Shared) (H : Hp) (C : Addr) (cl : List (Str × Addr)) (fp : List Addr), PTs (X.blk s H scope (compEnvC scope cl C X.env) fp) ifs1 (TTm (gx L X) W0 t1))
    (he : ∀ (s : Shared) (H : Hp) (C : Addr) (cl : List (Str × Addr)) (fp : List Addr), PE (X.blk s H scope (compEnvC scope cl C X.env) fp) elt (TEm (gx L X) W0 fe)) (hpat : EP1 X p g) (hpv : ∀ i ∈ p.names, i ∈ own.map (·.2)) (hpat1 : EP1 X p1 g1) (hpv1 : ∀ i ∈ p1.names, i ∈ vs1)
    (hs : ∀ x, foldedSetIterable iter X.env x = pure x := by intro _; rfl) (hs1 : ∀ env x, foldedSetIterable iter1 env x = pure x := by intro _ _; rfl) :
    EE L X W (.ListComp elt [⟨tg, iter, ifs, 0⟩, ⟨tg1, iter1, ifs1, 0⟩] scope pos) (eComp2 fi p t fi1 p1 t1 fe (own.map (·.2)) vs1) :=
  PE.weak (pe_lc2 hc hN hi ok hv hg ht hi1 hg1 ht1 he hs hs1) fun σ H Q h => comp2_tm hpat hpv hpat1 hpv1 σ H Q h
theorem es_setc2 {n i : Nat} {y : Str} {py spos : Pos} (m : Md) (B : List Nat) (hc : X.calm = true) (hN : X.N.Nodup) (hi : EI L X W tg iter fi) (ok : BlkOk X.N X.env.scope scope own) (hv : ∀ i ∈ vs1, i ∈ own.map (·.2))
    (hg : ∀ (s : Shared) (H : Hp) (C : Addr) (cl : List (Str × Addr)) (fp : List Addr), PG (X.blk s H scope (compEnvC scope cl C X.env) fp) tg g) (ht : ∀ (s : Shared) (H : Hp) (C : Addr) (cl : List (Str × Addr)) (fp : List Addr), PTs (X.blk s H scope (compEnvC scope cl C X.env) fp) ifs (TTm (gx L X) W0 t))
    (hi1 : ∀ (s : Shared) (H : Hp) (C : Addr) (cl : List (Str × Addr)) (fp : List Addr), PI (X.blk s H scope (compEnvC scope cl C X.env) fp) tg1 iter1 (TIm (gx L X) W0 fi1))
    (hg1 : ∀ (s : Shared) (H : Hp) (C : Addr) (cl : List (Str × Addr)) (fp : List Addr), PG (X.blk s H scope (compEnvC scope cl C X.env) fp) tg1 g1) (ht1 : ∀ (s : Shared) (H : Hp) (C : Addr) (cl : List (Str × Addr)) (fp : List Addr), PTs (X.blk s H scope (compEnvC scope cl C X.env) fp) ifs1 (TTm (gx L X) W0 t1))
    (he : ∀ (s : Shared) (H : Hp) (C : Addr) (cl : List (Str × Addr)) (fp : List Addr), PE (X.blk s H scope (compEnvC scope cl C X.env) fp) elt (TEm (gx L X) W0 fe)) (hpat : EP1 X p g) (hpv : ∀ i ∈ p.names, i ∈ own.map (·.2)) (hpat1 : EP1 X p1 g1) (hpv1 : ∀ i ∈ p1.names, i ∈ vs1)
    (hy : X.N[i]? = some y := by rfl) (hyl : X.env.scope.names.lookup y = some .local := by rfl)
    (hsw : swapsWith (.ListComp elt [⟨tg, iter, ifs, 0⟩, ⟨tg1, iter1, ifs1, 0⟩] scope pos) (some (.Name y py)) spos.line X.env = pure true := by exact sw_true rfl rfl rfl (by decide +kernel)) (hs : ∀ x, foldedSetIterable iter X.env x = pure x := by intro _; rfl) (hs1 : ∀ env x, foldedSetIterable iter1 env x = pure x := by intro _ _; rfl) :
    ES L X W (B ++ m.cells) n (.Assign [.Name y py] (.ListComp elt [⟨tg, iter, ifs, 0⟩, ⟨tg1, iter1, ifs1, 0⟩] scope pos) spos) (sSet m n B i (eComp2 fi p t fi1 p1 t1 fe (own.map (·.2)) vs1)) :=
  PS.weak (ps_setLc2 hc hN hy hyl hsw hi ok hv hg ht hi1 hg1 ht1 he hs hs1) fun D σ H h => comp2_tm hpat hpv hpat1 hpv1 σ H _ (set_tm D σ H h)
end
end Eng

namespace Eng
open PySem PySem.Spec PyProof.Rows L2
theorem rm65 {A : Around} {k : Nat} (hr : Room k A) : A.units + 65 < cLine := by have := hr.un; omega
/-- what a law's def is asked -/
def spLaw (K : PySem.W.Frag) : Sp := fun vs H Q _ => ∃ (a : Addr) (ns : List Int), vs = [.ref a] ∧ SqL K H a (ns.map V.int) ∧ ns.length ≤ 63 ∧ ∀ H', Q (.bl true) H'
theorem ofInts {G : Gc} {H : Hp} {T : Ts} : ∀ ns : List Int, RepVs G H T (ns.map Val.int) (ns.map V.int)
  | [] => .nil
  | n :: ns => .cons (.int n) (ofInts ns)
theorem sp_law {K : PySem.W.Frag} {mg : Str → Option Value} {c : Fc} (hc : ∀ ns : List Int, ns.length ≤ 63 → ∃ st, c [.v (.seq (ns.map .int))] [] = .ok (.v (.bl true)) st) (vs : List V) (H : Hp) (Q : VK) (E : XK) (h : spLaw K vs H Q E) : SpF0 ⟨K, mg, [], none⟩ 1 c vs H Q E := by
  obtain ⟨a, ns, rfl, hs, hl, q⟩ := h
  have e0 : ∀ b, ¬ TP (fun _ => False) ([] : Rho) b := fun b t => t.elim id fun t => by cases t
  have rs : RepS (⟨K, mg, [], none⟩ : Gc) H (fun _ => False) [] [] := by
    refine ⟨rfl, fun l l' a e => ?_, fun l a e => ?_, fun l e => ?_, fun p hp => ?_, fun a h => h.elim, fun a h => h.elim⟩
    · simp at e
    · simp at e
    · simp at e
    · cases hp
  have rv : RepV (⟨K, mg, [], none⟩ : Gc) H (TP (fun _ => False) []) (.seq (ns.map .int)) (.ref a) := by
    rcases hs with hs | hs
    · exact .seqH hs (e0 _) (ofInts ns)
    · exact .seqK (fun H' => .inr hs) (ofInts ns)
  refine ⟨[.v (.seq (ns.map .int))], [], [], fun _ => False, rfl, .cons (.v rv) .nil, rs, ?_⟩
  obtain ⟨st, e⟩ := hc ns hl
  rw [e]
  intro v H' k rs' rx
  cases rx with
  | v r => cases r; exact q H'
end Eng

namespace Eng
open PySem PySem.Spec PyProof.Rows L2
/-! ### the mirrors, reckoned -/
def sel3 {γ : Type} (o : Option Bool) (p q r : γ) : γ := match o with
  | some true => p
  | some false => q
  | none => r
section
variable {α β : Type} {a : α} {st st1 : Sto} {f : α → Sto → Rv β} {env env1 : Env} {fa fb fc fo fi : Fe} {ta tb : Ft} {x y : Val} {z : SV} {fr : Env → Sto → Rv (List SV)} {i j : Int} {s t : List Nat} {xs ys : List Val}
@[simp] theorem s_bind_ok : (Rv.ok a st).bind f = f a st := rfl
@[simp] theorem s_bind_bad : (Rv.bad : Rv α).bind f = .bad := rfl
@[simp] theorem s_eVar (i : Nat) : eVar i env st = (match env[i]? with
  | some (some z) => .ok z st
  | _ => .bad) := rfl
@[simp] theorem s_eC : eC x env st = .ok (.v x) st := rfl
@[simp] theorem s_e1 {o : Val → Option SV} : e1 o fa env st = (fa env st).bind fun x st1 => outO ((x.val st1).bind o) st1 := rfl
@[simp] theorem s_e2 {o : Val → Val → Option SV} : e2 o fa fb env st = (fa env st).bind fun x st1 => (fb env st1).bind fun y st2 => outO ((x.val st2).bind fun a => (y.val st2).bind fun b => o a b) st2 := rfl
@[simp] theorem s_outO : outO (some z) st = .ok z st := rfl
@[simp] theorem s_outO0 : outO none st = .bad := rfl
@[simp] theorem s_val_v : (SV.v x).val st = some x := rfl
@[simp] theorem s_val_fl : (SV.fl xs).val st = some (.lst xs) := rfl
@[simp] theorem s_val_fd {t : Bool} {k : List (Val × Val)} : (SV.fd t k).val st = some (.dic t k) := rfl
@[simp] theorem s_val_loc {l : Nat} : (SV.loc l).val st = (match st[l]? with
    | some (.lst xs) => some (.lst xs)
    | some (.dic t kvs) => some (.dic t kvs)
    | _ => none) := rfl
@[simp] theorem s_froz_v : (SV.v x).froz = .v x := rfl
@[simp] theorem s_froz_fl : (SV.fl xs).froz = .v (.lst xs) := rfl
@[simp] theorem s_froz_fd {t : Bool} {k : List (Val × Val)} : (SV.fd t k).froz = .v (.dic t k) := rfl
@[simp] theorem s_froz_loc {l : Nat} : (SV.loc l).froz = .loc l := rfl
@[simp] theorem s_outB {b : Bool} : outB (some (.v (.bl b))) st = .ok b st := rfl
@[simp] theorem s_tV : tV fa env st = (fa env st).bind fun x st1 => outB (some x) st1 := rfl
@[simp] theorem s_tAnd : tAnd ta tb env st = (ta env st).bind fun b st1 => if b = true then tb env st1 else .ok false st1 := rfl
@[simp] theorem s_tOr : tOr ta tb env st = (ta env st).bind fun b st1 => if b = true then .ok true st1 else tb env st1 := rfl
@[simp] theorem s_tNot : tNot ta env st = (ta env st).bind fun b st1 => .ok (!b) st1 := rfl
@[simp] theorem s_asB {b : Bool} : asB (.v (.bl b)) = some b := rfl
@[simp] theorem s_sel {γ : Type} {b : Bool} {p q r : γ} : sel3 (some b) p q r = if b = true then p else q := by cases b <;> rfl
@[simp] theorem s_eAnd : eAnd fa fb env st = (fa env st).bind fun x st1 => sel3 (asB x) (fb env st1) (.ok (.v (.bl false)) st1) .bad := by
  unfold eAnd
  cases fa env st with
  | ok z s =>
    simp only [s_bind_ok]
    cases asB z with
    | none => rfl
    | some b => cases b <;> rfl
  | _ => rfl
@[simp] theorem s_eOr : eOr fa fb env st = (fa env st).bind fun x st1 => sel3 (asB x) (.ok (.v (.bl true)) st1) (fb env st1) .bad := by
  unfold eOr
  cases fa env st with
  | ok z s =>
    simp only [s_bind_ok]
    cases asB z with
    | none => rfl
    | some b => cases b <;> rfl
  | _ => rfl
@[simp] theorem s_eNot : eNot fa env st = (fa env st).bind fun x st1 => sel3 (asB x) (.ok (.v (.bl false)) st1) (.ok (.v (.bl true)) st1) .bad := by
  unfold eNot
  cases fa env st with
  | ok z s =>
    simp only [s_bind_ok]
    cases asB z with
    | none => rfl
    | some b => cases b <;> rfl
  | _ => rfl
@[simp] theorem s_eIf : eIf ta fa fb env st = (ta env st).bind fun b st1 => if b = true then fa env st1 else fb env st1 := rfl
@[simp] theorem s_aNil : aNil env st = .ok [] st := rfl
@[simp] theorem s_aCons : aCons fa fr env st = (fa env st).bind fun x st1 => (fr env st1).bind fun xs st2 => .ok (x.froz :: xs) st2 := rfl
@[simp] theorem s_eChain {o o' : Val → Val → Option SV} : eChain o o' fa fb fc env st = (fa env st).bind fun x st1 => (fb env st1).bind fun y st2 =>
  sel3 (((x.val st2).bind fun a => (y.val st2).bind fun b => o a b).bind asB) ((fc env st2).bind fun z st3 => outO ((y.val st3).bind fun b => (z.val st3).bind fun c => o' b c) st3) (.ok (.v (.bl false)) st2) .bad := by
  unfold eChain
  cases fa env st with
  | ok x s1 =>
    simp only [s_bind_ok]
    cases fb env s1 with
    | ok y s2 =>
      simp only [s_bind_ok]
      cases ((x.val s2).bind fun a => (y.val s2).bind fun b => o a b).bind asB with
      | none => rfl
      | some b => cases b <;> rfl
    | _ => rfl
  | _ => rfl
@[simp] theorem s_sNil : sNil env st = .nx env st := rfl
@[simp] theorem s_andThen_nx {g : Fs} : (Rs.nx env st).andThen g = g env st := rfl
@[simp] theorem s_andThen_rt {g : Fs} : (Rs.rt z st).andThen g = .rt z st := rfl
@[simp] theorem s_sSeq {f g : Fs} : sSeq f g env st = (f env st).andThen g := rfl
@[simp] theorem s_toS {f : SV → Sto → Rs} : (Rv.ok z st).toS env f = f z st := rfl
@[simp] theorem s_toSB {b : Bool} {f : Bool → Sto → Rs} : (Rv.ok b st).toSB env f = f b st := rfl
@[simp] theorem s_sExpr : sExpr fa env st = (fa env st).toS env fun _ st1 => .nx env st1 := rfl
@[simp] theorem s_sRet : sRet fa env st = (fa env st).toS env fun z st1 => .rt z st1 := rfl
@[simp] theorem s_sIf {f g : Fs} : sIf ta f g env st = (ta env st).toSB env fun b st1 => if b = true then f env st1 else g env st1 := rfl
@[simp] theorem s_frz_v {n : Nat} {B : List Nat} : Md.run .f n B (.v x) env st = some (.v x, env, st) := rfl
@[simp] theorem s_frz_fl {n : Nat} {B : List Nat} : Md.run .f n B (.fl xs) env st = some (.v (.lst xs), env, st) := rfl
@[simp] theorem s_frz_fd {n : Nat} {B : List Nat} {t : Bool} {k : List (Val × Val)} : Md.run .f n B (.fd t k) env st = some (.v (.dic t k), env, st) := rfl
@[simp] theorem s_bnd {n j : Nat} {B : List Nat} : Md.run (.c j) n B z env st = bnd n j z env st := rfl
@[simp] theorem s_setAll0 : setAll env [] [] = some env := rfl
@[simp] theorem s_setAll {i : Nat} {is : List Nat} {zs : List SV} : setAll env (i :: is) (z :: zs) = setAll (env.set i (some z)) is zs := rfl
@[simp] theorem s_bNil : bNil env st = .ok [] env st := rfl
@[simp] theorem s_rbS {zs : List SV} {f : List SV → Env → Sto → Rs} : (Rb.ok zs env st).toS f = f zs env st := rfl
@[simp] theorem s_sPar {is : List Nat} {fb : Fb} : sPar is fb env st = (fb env st).toS fun zs env' st' => match setAll env' is zs with
  | some env2 => .nx env2 st'
  | none => .bad := rfl
@[simp] theorem s_gN {i : Nat} : gN i z env st = .nx (env.set i (some z)) st := rfl
@[simp] theorem s_gsNil : gsNil [] env st = .nx env st := rfl
@[simp] theorem s_gsCons {g : Fg} {r : List SV → Fs} {zs : List SV} : gsCons g r (z :: zs) env st = (g z env st).andThen (r zs) := rfl
@[simp] theorem s_sTup {fb : Fb} {g : List SV → Fs} : sTup fb g env st = (fb env st).toS fun zs env' st' => match g zs env' st' with
  | .nx env2 st2 => .nx env2 st2
  | _ => .bad := rfl
@[simp] theorem s_eCall {c : Fc} : eCall c fr env st = (fr env st).bind fun zs st1 => c zs st1 := rfl
@[simp] theorem s_valsOf0 : valsOf st [] = some [] := rfl
@[simp] theorem s_valsOf {zs : List SV} : valsOf st (z :: zs) = (match z.val st, valsOf st zs with
    | some x, some xs => some (x :: xs)
    | _, _ => none) := rfl
@[simp] theorem s_eB {o : List Val → Option SV} : eB o fr env st = (fr env st).bind fun zs st1 => outO ((valsOf st1 zs).bind o) st1 := rfl
@[simp] theorem s_eM {T : String} {o : Val → List Val → Option SV} : eM T o fo fr env st = (fo env st).bind fun z st1 => if rcv T (z.val st1) = true then
  (fr env st1).bind fun zs st2 => outO ((z.val st2).bind fun a => (valsOf st2 zs).bind fun as => o a as) st2 else .bad := rfl
@[simp] theorem s_rcv_str : rcv "str" (some (.str s)) = true := rfl
@[simp] theorem s_rcv_lst : rcv "list" (some (.lst xs)) = true := rfl
@[simp] theorem s_pNo : pNo env st = .ok none st := rfl
@[simp] theorem s_pAt : pAt fa env st = (fa env st).bind pInt := rfl
@[simp] theorem s_pInt : pInt (.v (.int i)) st = .ok (some i) st := rfl
@[simp] theorem s_eSl {fl fu : Fp} : eSl fa fl fu env st = (fa env st).bind fun x st1 => (fl env st1).bind fun lo st2 => (fu env st2).bind fun hi st3 => outO ((x.val st3).bind fun a => vSl a lo hi) st3 := rfl
@[simp] theorem s_frzAll0 : frzAll [] = some [] := rfl
@[simp] theorem s_frzAll {zs : List SV} : frzAll (.v x :: zs) = (frzAll zs).map (x :: ·) := by
  simp only [frzAll]
  cases frzAll zs <;> rfl
@[simp] theorem s_eTup : eTup fr env st = (fr env st).bind fun zs st1 => if zs.length ≤ 1000000 then outO ((frzAll zs).map fun xs => .v (.tup xs)) st1 else .bad := rfl
@[simp] theorem s_eLst : eLst fr env st = (fr env st).bind fun zs st1 => if zs.length ≤ 1000000 then outO ((frzAll zs).map fun xs => .fl xs) st1 else .bad := rfl
@[simp] theorem s_eDic {t : Bool} : eDic t env st = .ok (.fd t []) st := rfl
@[simp] theorem s_tYes : tYesF env st = .ok true st := rfl
@[simp] theorem s_bind_n {i : Nat} : bindP (.n i) x env = some (env.set i (some (.v x))) := rfl
@[simp] theorem s_bind_t {is : List Nat} : bindP (.t is) (.tup xs) env = setAll env is (xs.map .v) := rfl
@[simp] theorem s_retV {n : Nat} : retV n (.v x) st = some (.v x) := rfl
@[simp] theorem s_retF {n : Nat} : retV n (.fl xs) st = some (.fl xs) := rfl
@[simp] theorem s_wipe0 : wipeE env [] = env := rfl
@[simp] theorem s_wipe {v : Nat} {vs : List Nat} : wipeE env (v :: vs) = (wipeE env vs).set v none := rfl
@[simp] theorem s_fresh {st : Sto} : (Rv.ok xs st).fresh = .ok (.fl xs) st := rfl
/-! the ops -/
@[simp] theorem s_add : vAdd (.int i) (.int j) = some (.v (.int (i + j))) := rfl
@[simp] theorem s_addS : vAdd (.str s) (.str t) = if SOk (s ++ t) = true then some (.v (.str (s ++ t))) else none := rfl
@[simp] theorem s_addT : vAdd (.tup xs) (.tup ys) = if xs.length + ys.length ≤ 1000000 then some (.v (.tup (xs ++ ys))) else none := rfl
@[simp] theorem s_addL : vAdd (.lst xs) (.lst ys) = if xs.length + ys.length ≤ 1000000 then some (.fl (xs ++ ys)) else none := rfl
@[simp] theorem s_sub : vSub (.int i) (.int j) = some (.v (.int (i - j))) := rfl
theorem mul_ok (h : mulOk i = true) : vMul (.int i) (.int j) = some (.v (.int (i * j))) := by
  show (if (mulOk i || mulOk j) = true then some (SV.v (Val.int (i * j))) else none) = _
  rw [h]
  rfl
@[simp] theorem s_div : vDiv (.int i) (.int j) = if (decide (0 < j) && decide (j < 1073741824)) = true then some (.v (.int (i / j))) else none := rfl
@[simp] theorem s_mod : vMod (.int i) (.int j) = if 0 < j then some (.v (.int (i % j))) else none := rfl
@[simp] theorem s_eq : vEq x y = if (okD x 32 && okD y 32) = true then some (.v (.bl (eqB x y))) else none := rfl
@[simp] theorem s_ne : vNe x y = if (okD x 32 && okD y 32) = true then some (.v (.bl (!eqB x y))) else none := rfl
@[simp] theorem s_lt : vLt (.int i) (.int j) = some (.v (.bl (decide (i < j)))) := rfl
@[simp] theorem s_ltS : vLt (.str s) (.str t) = some (.v (.bl (decide (s < t)))) := rfl
@[simp] theorem s_le : vLe (.int i) (.int j) = some (.v (.bl (decide (i ≤ j)))) := rfl
@[simp] theorem s_gt : vGt (.int i) (.int j) = some (.v (.bl (decide (j < i)))) := rfl
@[simp] theorem s_ge : vGe (.int i) (.int j) = some (.v (.bl (decide (j ≤ i)))) := rfl
@[simp] theorem s_is : vIs x .non = if isGlb x = true then none else some (.v (.bl (isNon x))) := by cases x <;> rfl
@[simp] theorem s_isB {b c : Bool} : vIs (.bl b) (.bl c) = some (.v (.bl (b == c))) := rfl
@[simp] theorem s_isn : vIsN x .non = if isGlb x = true then none else some (.v (.bl (!isNon x))) := by cases x <;> rfl
@[simp] theorem s_isnB {b c : Bool} : vIsN (.bl b) (.bl c) = some (.v (.bl (!(b == c)))) := rfl
@[simp] theorem s_ixT : vIx (.tup xs) (.int i) = (atI xs i).map .v := rfl
@[simp] theorem s_ixL : vIx (.lst xs) (.int i) = (atI xs i).map .v := rfl
@[simp] theorem s_ixS : vIx (.str s) (.int i) = (atI s i).map fun c => .v (.str [c]) := rfl
@[simp] theorem s_slT {lo hi : Option Int} : vSl (.tup xs) lo hi = some (.v (.tup (cutL xs lo hi))) := rfl
@[simp] theorem s_slL {lo hi : Option Int} : vSl (.lst xs) lo hi = some (.fl (cutL xs lo hi)) := rfl
@[simp] theorem s_slS {lo hi : Option Int} : vSl (.str s) lo hi = some (.v (.str (cutL s lo hi))) := rfl
@[simp] theorem s_in : vIn x y = (inB x y).map fun b => .v (.bl b) := rfl
@[simp] theorem s_notin : vNotIn x y = (inB x y).map fun b => .v (.bl (!b)) := rfl
theorem s_inT : inB x (.tup ys) = if (flatA x && ys.all flatA) = true then some (ys.any fun y => eqB y x) else none := by cases x <;> rfl
@[simp] theorem s_inS {c : Nat} : inB (.str [c]) (.str s) = some (decide (c ∈ s)) := rfl
@[simp] theorem s_lenT : vLen [.tup xs] = some (.v (.int xs.length)) := rfl
@[simp] theorem s_lenL : vLen [.lst xs] = some (.v (.int xs.length)) := rfl
@[simp] theorem s_lenS : vLen [.str s] = some (.v (.int s.length)) := rfl
@[simp] theorem s_abs : vAbs [.int i] = some (.v (.int (if i < 0 then -i else i))) := rfl
@[simp] theorem s_int : vInt [.int i] = some (.v (.int i)) := rfl
@[simp] theorem s_str : vStr [.str s] = some (.v (.str s)) := rfl
@[simp] theorem s_tupL : vTuple [.lst xs] = some (.v (.tup xs)) := rfl
@[simp] theorem s_tupT : vTuple [.tup xs] = some (.v (.tup xs)) := rfl
@[simp] theorem s_listT : vList [.tup xs] = some (.fl xs) := rfl
@[simp] theorem s_listL : vList [.lst xs] = some (.fl xs) := rfl
@[simp] theorem s_listQ : vList [.seq xs] = some (.fl xs) := rfl
@[simp] theorem s_all : vAll [.lst xs] = (blsOf xs).map fun bs => .v (.bl (bs.all id)) := rfl
@[simp] theorem s_any : vAny [.lst xs] = (blsOf xs).map fun bs => .v (.bl (bs.any id)) := rfl
@[simp] theorem s_isiI (n : String) : vIsi [x, .ty n] = (isiV x n).map fun b => .v (.bl b) := rfl
end
theorem isi_int (x : Val) : isiV x "int" = (if isGlb x = true then isiV x "int" else match x with
  | .int _ => some true
  | .bl _ => some true
  | .ty _ => none
  | .seq _ => none
  | .exn _ _ => none
  | _ => some false) := by cases x <;> rfl
section
variable {i : Int} {b : Bool} {s : List Nat} {xs : List Val}
@[simp] theorem isi_ii : isiV (.int i) "int" = some true := rfl
@[simp] theorem isi_ib : isiV (.int i) "bool" = some false := rfl
@[simp] theorem isi_is : isiV (.int i) "str" = some false := rfl
@[simp] theorem isi_it : isiV (.int i) "tuple" = some false := rfl
@[simp] theorem isi_bi : isiV (.bl b) "int" = some true := rfl
@[simp] theorem isi_bb : isiV (.bl b) "bool" = some true := rfl
@[simp] theorem isi_bs : isiV (.bl b) "str" = some false := rfl
@[simp] theorem isi_bt : isiV (.bl b) "tuple" = some false := rfl
@[simp] theorem isi_si : isiV (.str s) "int" = some false := rfl
@[simp] theorem isi_sb : isiV (.str s) "bool" = some false := rfl
@[simp] theorem isi_ss : isiV (.str s) "str" = some true := rfl
@[simp] theorem isi_st : isiV (.str s) "tuple" = some false := rfl
@[simp] theorem isi_ti : isiV (.tup xs) "int" = some false := rfl
@[simp] theorem isi_tb : isiV (.tup xs) "bool" = some false := rfl
@[simp] theorem isi_ts : isiV (.tup xs) "str" = some false := rfl
@[simp] theorem isi_tt : isiV (.tup xs) "tuple" = some true := rfl
@[simp] theorem isi_li : isiV (.lst xs) "int" = some false := rfl
@[simp] theorem isi_lb : isiV (.lst xs) "bool" = some false := rfl
@[simp] theorem isi_ls : isiV (.lst xs) "str" = some false := rfl
@[simp] theorem isi_lt : isiV (.lst xs) "tuple" = some false := rfl
@[simp] theorem isi_ni : isiV .non "int" = some false := rfl
@[simp] theorem isi_nb : isiV .non "bool" = some false := rfl
@[simp] theorem isi_ns : isiV .non "str" = some false := rfl
@[simp] theorem isi_nt : isiV .non "tuple" = some false := rfl
end
@[simp] theorem s_rbcons {z : SV} {zs : List SV} {env : Env} {st : Sto} : Rb.cons z (.ok zs env st) = .ok (z :: zs) env st := rfl
def onI (g : Int → Val) : Val → Val
  | .int i => g i
  | _ => .non
@[simp] theorem onI_int (g : Int → Val) (i : Int) : onI g (.int i) = g i := rfl
def onS (g : List Nat → Val) : Val → Val
  | .str i => g i
  | _ => .non
@[simp] theorem onS_str (g : List Nat → Val) (i : List Nat) : onS g (.str i) = g i := rfl
def onIb (g : Int → Bool) : Val → Bool
  | .int i => g i
  | _ => false
@[simp] theorem onIb_int (g : Int → Bool) (i : Int) : onIb g (.int i) = g i := rfl
section
variable {i : Int} {b t : Bool} {s : List Nat} {xs : List Val} {k : List (Val × Val)}
@[simp] theorem ig_n : isGlb .non = false := rfl
@[simp] theorem ig_b : isGlb (.bl b) = false := rfl
@[simp] theorem ig_i : isGlb (.int i) = false := rfl
@[simp] theorem ig_s : isGlb (.str s) = false := rfl
@[simp] theorem ig_t : isGlb (.tup xs) = false := rfl
@[simp] theorem ig_l : isGlb (.lst xs) = false := rfl
@[simp] theorem ig_d : isGlb (.dic t k) = false := rfl
@[simp] theorem in_n : isNon .non = true := rfl
@[simp] theorem in_b : isNon (.bl b) = false := rfl
@[simp] theorem in_i : isNon (.int i) = false := rfl
@[simp] theorem in_s : isNon (.str s) = false := rfl
@[simp] theorem in_t : isNon (.tup xs) = false := rfl
@[simp] theorem in_l : isNon (.lst xs) = false := rfl
@[simp] theorem in_d : isNon (.dic t k) = false := rfl
end
/-! ### statements, step by step -/
section
variable {env env1 : Env} {st st1 st2 : Sto} {f g : Fs} {t : Ft} {z : SV} {fa : Fe} {x : Val}
theorem seq_nx (h : f env st = .nx env1 st1) : sSeq f g env st = g env1 st1 := by unfold sSeq; rw [h]; rfl
theorem seq_rt (h : f env st = .rt z st1) : sSeq f g env st = .rt z st1 := by unfold sSeq; rw [h]; rfl
theorem if_t (h : t env st = .ok true st1) : sIf t f g env st = f env st1 := by unfold sIf; rw [h]; rfl
theorem if_f (h : t env st = .ok false st1) : sIf t f g env st = g env st1 := by unfold sIf; rw [h]; rfl
theorem ret_v (h : fa env st = .ok z st1) : sRet fa env st = .rt z st1 := by unfold sRet; rw [h]; rfl
theorem exp_v (h : fa env st = .ok z st1) : sExpr fa env st = .nx env st1 := by unfold sExpr; rw [h]; rfl
theorem set_f {n i : Nat} (h : fa env st = .ok z st1) (hz : z.froz = .v x) (hn : ∀ l, z ≠ .loc l) : sSet .f n [] i fa env st = .nx (env.set i (some (.v x))) st1 := by
  unfold sSet
  rw [h]
  cases z with
  | v y => cases hz; rfl
  | fl y => cases hz; rfl
  | fd t y => cases hz; rfl
  | loc l => exact absurd rfl (hn l)
theorem set_v {n i : Nat} (h : fa env st = .ok (.v x) st1) : sSet .f n [] i fa env st = .nx (env.set i (some (.v x))) st1 := set_f h rfl fun _ e => by cases e
theorem set_l {n i : Nat} {xs : List Val} (h : fa env st = .ok (.fl xs) st1) : sSet .f n [] i fa env st = .nx (env.set i (some (.v (.lst xs)))) st1 := set_f h rfl fun _ e => by cases e
end
/-! steps that leave the store -/
section
variable {env env1 : Env} {st : Sto} {f g h : Fs} {t : Ft} {z : SV} {fa : Fe} {x : Val} {r : Rs}
theorem stF (ht : t env st = .ok false st) (k : h env st = r) : sSeq (sIf t f sNil) h env st = r := (seq_nx (if_f ht)).trans k
theorem stT {z : SV} {st1 : Sto} (ht : t env st = .ok true st) (k : f env st = .rt z st1) : sSeq (sIf t f g) h env st = .rt z st1 := seq_rt ((if_t ht).trans k)
theorem stV {n i : Nat} (hf : fa env st = .ok (.v x) st) (k : h (env.set i (some (.v x))) st = r) : sSeq (sSet .f n [] i fa) h env st = r := (seq_nx (set_v hf)).trans k
theorem stL {n i : Nat} {xs : List Val} (hf : fa env st = .ok (.fl xs) st) (k : h (env.set i (some (.v (.lst xs)))) st = r) : sSeq (sSet .f n [] i fa) h env st = r := (seq_nx (set_l hf)).trans k
theorem stE (hf : fa env st = .ok z st) (k : h env st = r) : sSeq (sExpr fa) h env st = r := (seq_nx (exp_v hf)).trans k
end
section
variable {env : Env} {st st1 : Sto} {fa fb : Fe} {b : Bool} {x : Val} {r : Rv SV}
theorem tn_v (h : fa env st = .ok (.v (.bl b)) st1) : tNot (tV fa) env st = .ok (!b) st1 := by simp [h]
theorem tv_v (h : fa env st = .ok (.v (.bl b)) st1) : tV fa env st = .ok b st1 := by simp [h]
theorem ea_t (h : fa env st = .ok (.v (.bl true)) st1) (k : fb env st1 = r) : eAnd fa fb env st = r := by simp [h, k]
theorem ea_f (h : fa env st = .ok (.v (.bl false)) st1) : eAnd fa fb env st = .ok (.v (.bl false)) st1 := by simp [h]
theorem e2_ok {o : Val → Val → Option SV} {y : Val} {z : SV} (ha : fa env st = .ok (.v x) st) (hb : fb env st = .ok (.v y) st) (ho : o x y = some z) : e2 o fa fb env st = .ok z st := by
  unfold e2
  rw [ha, s_bind_ok, hb, s_bind_ok]
  show outO (o x y) st = _
  rw [ho]
  rfl
theorem e2_g {o : Val → Val → Option SV} {y : Val} {z za zb : SV} (ha : fa env st = .ok za st) (hb : fb env st = .ok zb st) (va : za.val st = some x) (vb : zb.val st = some y) (ho : o x y = some z) : e2 o fa fb env st = .ok z st := by
  unfold e2
  rw [ha, s_bind_ok, hb, s_bind_ok, va, vb]
  show outO (o x y) st = _
  rw [ho]
  rfl
theorem e2_h {o : Val → Val → Option SV} {y : Val} {z za zb : SV} {st2 : Sto} (ha : fa env st = .ok za st1) (hb : fb env st1 = .ok zb st2) (va : za.val st2 = some x) (vb : zb.val st2 = some y) (ho : o x y = some z) : e2 o fa fb env st = .ok z st2 := by
  unfold e2
  rw [ha, s_bind_ok, hb, s_bind_ok, va, vb]
  show outO (o x y) st2 = _
  rw [ho]
  rfl
theorem ar_1 {z1 : SV} (h1 : fa env st = .ok z1 st) : aCons fa aNil env st = .ok [z1.froz] st := by simp [h1]
theorem ar_c {z1 : SV} {fr : Env → Sto → Rv (List SV)} {zs : List SV} (h1 : fa env st = .ok z1 st) (h2 : fr env st = .ok zs st) : aCons fa fr env st = .ok (z1.froz :: zs) st := by simp [h1, h2]
theorem ec_ok {c : Fc} {fr : Env → Sto → Rv (List SV)} {zs : List SV} (h : fr env st = .ok zs st1) (k : c zs st1 = r) : eCall c fr env st = r := by simp [h, k]
theorem ec_1 {c : Fc} (h : fa env st = .ok (.v x) st1) (k : c [.v x] st1 = r) : eCall c (aCons fa aNil) env st = r := by simp [h, k]
end
theorem bc_v {n : Nat} {fa : Fe} {fr : Fb} {env : Env} {st st1 st2 : Sto} {x : Val} {zs : List SV} (h : fa env st = .ok (.v x) st1) (k : fr env st1 = .ok zs env st2) : bCons .f n [] fa fr env st = .ok (.v x :: zs) env st2 := by
  unfold bCons
  rw [h]
  simp [k]
theorem bc_c {n j : Nat} {fa : Fe} {fr : Fb} {env env1 env3 : Env} {st st1 st2 st3 : Sto} {z z' : SV} {zs : List SV} (h : fa env st = .ok z st1) (hb : bnd n j z env st1 = some (z', env1, st2)) (k : fr env1 st2 = .ok zs env3 st3) : bCons (.c j) n [] fa fr env st = .ok (z' :: zs) env3 st3 := by
  unfold bCons
  rw [h]
  simp [hb, k]
theorem tup_nx {fb : Fb} {g : List SV → Fs} {env env1 env2 : Env} {st st1 st2 : Sto} {zs : List SV} (h : fb env st = .ok zs env1 st1) (k : g zs env1 st1 = .nx env2 st2) : sTup fb g env st = .nx env2 st2 := by
  rw [s_sTup, h]
  simp [k]
/-! ### a def -/
theorem call_rt {N m : Nat} {body : Nat → Fs} {zs : List SV} {st st' : Sto} {z z' : SV} (h : body st.length (zs.map some ++ List.replicate (N - zs.length) none) (st ++ List.replicate m .dead) = .rt z st') (hz : retV st.length z st' = some z') : callF N m body zs st = .ok z' (st'.take st.length) := by
  unfold callF
  rw [h]
  simp only [hz]
theorem call_rt0 {N : Nat} {body : Nat → Fs} {zs : List SV} {st st' : Sto} {x : Val} (h : body st.length (zs.map some ++ List.replicate (N - zs.length) none) st = .rt (.v x) st') (hl : st'.length = st.length) : callF N 0 body zs st = .ok (.v x) st' := by
  rw [call_rt (z := .v x) (z' := .v x) (st' := st') (by simpa using h) rfl, ← hl, List.take_length]
/-- a def without cells that hands back a value -/
theorem call_v {N : Nat} {body : Nat → Fs} {zs : List SV} {st : Sto} {x : Val} (h : body st.length (zs.map some ++ List.replicate (N - zs.length) none) st = .rt (.v x) st) : callF N 0 body zs st = .ok (.v x) st := by
  rw [call_rt (z := .v x) (z' := .v x) (st' := st) (by simpa using h) rfl]
  simp
theorem call_fl {N : Nat} {body : Nat → Fs} {zs : List SV} {st : Sto} {x : List Val} (h : body st.length (zs.map some ++ List.replicate (N - zs.length) none) st = .rt (.fl x) st) : callF N 0 body zs st = .ok (.fl x) st := by
  rw [call_rt (z := .fl x) (z' := .fl x) (st' := st) (by simpa using h) rfl]
  simp
theorem call_nx {N : Nat} {body : Nat → Fs} {zs : List SV} {st : Sto} {env : Env} (h : body st.length (zs.map some ++ List.replicate (N - zs.length) none) st = .nx env st) : callF N 0 body zs st = .ok (.v .non) st := by
  unfold callF
  simp only [List.replicate_zero, List.append_nil]
  rw [h]
  simp
/-! ### loops -/
theorem forSeq_inv {bd : Val → Fs} : ∀ (xs : List Val) (Iv : Nat → Env → Sto → Prop) {env : Env} {st : Sto}, Iv 0 env st → (∀ i x env st, xs[i]? = some x → Iv i env st → ∃ env' st', bd x env st = .nx env' st' ∧ Iv (i + 1) env' st') →
    ∃ env' st', forSeq bd xs env st = .nx env' st' ∧ Iv xs.length env' st'
  | [], Iv, env, st, h0, _ => ⟨env, st, rfl, h0⟩
  | x :: xs, Iv, env, st, h0, hs => by
    obtain ⟨e1, s1, h1, h2⟩ := hs 0 x env st rfl h0
    obtain ⟨e2, s2, h3, h4⟩ := forSeq_inv xs (fun i => Iv (i + 1)) h2 fun i y e s hy hi => hs (i + 1) y e s (by simpa using hy) hi
    exact ⟨e2, s2, by rw [forSeq, h1]; exact h3, h4⟩
theorem for_inv {fi : Fi} {p : Pat} {n : Nat} {B : List Nat} {body : Fs} {xs : List Val} (Iv : Nat → Env → Sto → Prop) {env : Env} {st st1 : Sto} (hf : fi env st = .ok (.seq xs) st1) (h0 : Iv 0 env st1)
    (hs : ∀ i x env st, xs[i]? = some x → Iv i env st → ∃ env1, bindP p x env = some env1 ∧ ∃ env' st', body env1 st = .nx env' st' ∧ Iv (i + 1) env' st') :
    ∃ env' st', sFor fi p n B body env st = .nx env' st' ∧ Iv xs.length env' st' := by
  unfold sFor
  rw [hf]
  refine forSeq_inv xs Iv h0 fun i x env st hx hi => ?_
  obtain ⟨env1, h1, h2⟩ := hs i x env st hx hi
  rw [h1]
  exact h2
/-! ### comprehensions that only reckon -/
theorem compSeq_map {p : Pat} {t : Ft} {fe : Fe} {env0 : Env} {st : Sto} (c : Val → Bool) (g : Val → Val) : ∀ (xs acc : List Val), (∀ x ∈ xs, ∃ env, bindP p x env0 = some env ∧ t env st = .ok (c x) st ∧ (c x = true → ∃ z, fe env st = .ok z st ∧ z.froz = .v (g x))) →
    compSeq p t fe env0 xs acc st = .ok (acc ++ (xs.filter c).map g) st
  | [], acc, _ => by simp [compSeq]
  | x :: xs, acc, h => by
    obtain ⟨env, h1, h2, h3⟩ := h x List.mem_cons_self
    have ih := fun acc => compSeq_map c g xs acc fun y hy => h y (List.mem_cons_of_mem _ hy)
    unfold compSeq
    rw [h1]
    simp only [h2, s_bind_ok]
    cases e : c x with
    | false =>
      simp only [Bool.false_eq_true, if_false]
      rw [ih, List.filter_cons_of_neg (by simp [e])]
    | true =>
      obtain ⟨z, h4, h5⟩ := h3 e
      simp only [if_true, h4, s_bind_ok, h5]
      rw [ih, List.filter_cons_of_pos e]
      simp
/-- .. over what is told -/
theorem comp_map {fi : Fi} {p : Pat} {t : Ft} {fe : Fe} {vs : List Nat} {env : Env} {st : Sto} {xs : List Val} (c : Val → Bool) (g : Val → Val) (hf : fi env st = .ok (.seq xs) st) (hl : xs.length ≤ 1000000)
    (h : ∀ x ∈ xs, ∃ env', bindP p x (wipeE env vs) = some env' ∧ t env' st = .ok (c x) st ∧ (c x = true → ∃ z, fe env' st = .ok z st ∧ z.froz = .v (g x))) : eComp fi p t fe vs env st = .ok (.fl ((xs.filter c).map g)) st := by
  unfold eComp
  rw [hf]
  simp only [s_bind_ok, hl, if_true]
  rw [compSeq_map c g xs [] h]
  simp
/-- no condition -/
theorem comp_all {fi : Fi} {p : Pat} {fe : Fe} {vs : List Nat} {env : Env} {st : Sto} {xs : List Val} (g : Val → Val) (hf : fi env st = .ok (.seq xs) st) (hl : xs.length ≤ 1000000)
    (h : ∀ x ∈ xs, ∃ env', bindP p x (wipeE env vs) = some env' ∧ ∃ z, fe env' st = .ok z st ∧ z.froz = .v (g x)) : eComp fi p tYesF fe vs env st = .ok (.fl (xs.map g)) st := by
  rw [comp_map (fun _ => true) g hf hl fun x hx => ?_]
  · rw [List.filter_eq_self.mpr fun _ _ => rfl]
  · obtain ⟨env', h1, h2⟩ := h x hx
    exact ⟨env', h1, rfl, fun _ => h2⟩
theorem bls_map (g : Val → Bool) : ∀ xs : List Val, blsOf (xs.map fun x => .bl (g x)) = some (xs.map g)
  | [] => rfl
  | x :: xs => by simp only [List.map_cons, blsOf, bls_map g xs]
theorem strs_map : ∀ xs : List (List Nat), strsOf (xs.map .str) = some xs
  | [] => rfl
  | x :: xs => by simp only [List.map_cons, strsOf, strs_map xs]
theorem ints_map : ∀ xs : List Int, intsOf (xs.map .int) = some xs
  | [] => rfl
  | x :: xs => by simp only [List.map_cons, intsOf, ints_map xs]
/-- all([..]) -/
theorem all_comp {fi : Fi} {p : Pat} {fe : Fe} {vs : List Nat} {env : Env} {st : Sto} {xs : List Val} (g : Val → Bool) (hf : fi env st = .ok (.seq xs) st) (hl : xs.length ≤ 1000000)
    (h : ∀ x ∈ xs, ∃ env', bindP p x (wipeE env vs) = some env' ∧ fe env' st = .ok (.v (.bl (g x))) st) : eB vAll (aCons (eComp fi p tYesF fe vs) aNil) env st = .ok (.v (.bl (xs.all g))) st := by
  have e := comp_all (p := p) (fe := fe) (vs := vs) (fun x => .bl (g x)) hf hl fun x hx => let ⟨env', h1, h2⟩ := h x hx; ⟨env', h1, _, h2, rfl⟩
  rw [s_eB, s_aCons, e]
  simp only [s_bind_ok, s_aNil, s_froz_fl, s_valsOf, s_val_v, s_valsOf0, Option.bind_some, s_all, bls_map, Option.map_some, s_outO]
  simp [Function.comp_def]
/-! ### walks -/
theorem any_tup {fa : Fe} {env : Env} {st st1 : Sto} {xs : List Val} (h : fa env st = .ok (.v (.tup xs)) st1) : iAnyF fa env st = .ok (.seq xs) st1 := by unfold iAnyF; rw [h]; rfl
theorem any_lst {fa : Fe} {env : Env} {st st1 : Sto} {xs : List Val} (h : fa env st = .ok (.v (.lst xs)) st1) : iAnyF fa env st = .ok (.seq xs) st1 := by unfold iAnyF; rw [h]; rfl
theorem any_fl {fa : Fe} {env : Env} {st st1 : Sto} {xs : List Val} (h : fa env st = .ok (.fl xs) st1) : iAnyF fa env st = .ok (.seq xs) st1 := by unfold iAnyF; rw [h]; rfl
theorem any_str {fa : Fe} {env : Env} {st st1 : Sto} {s : List Nat} (h : fa env st = .ok (.v (.str s)) st1) : iAnyF fa env st = .ok (.seq (s.map fun c => .str [c])) st1 := by unfold iAnyF; rw [h]; rfl
/-! two clauses -/
theorem compSeq2_map {p p1 : Pat} {fi1 : Fi} {fe : Fe} {vs1 : List Nat} {env0 : Env} {st : Sto} (ys : Val → List Val) (g : Val → Val → Val) : ∀ (xs acc : List Val), acc.length + (xs.flatMap fun x => (ys x).map (g x)).length ≤ 1000000 →
    (∀ x ∈ xs, ∃ env, bindP p x env0 = some env ∧ fi1 env st = .ok (.seq (ys x)) st ∧ ∀ y ∈ ys x, ∃ env1, bindP p1 y (wipeE env vs1) = some env1 ∧ ∃ z, fe env1 st = .ok z st ∧ z.froz = .v (g x y)) →
    compSeq2 p tYesF fi1 p1 tYesF fe vs1 env0 xs acc st = .ok (acc ++ xs.flatMap fun x => (ys x).map (g x)) st
  | [], acc, _, _ => by simp [compSeq2]
  | x :: xs, acc, hl, h => by
    obtain ⟨env, h1, h2, h3⟩ := h x List.mem_cons_self
    rw [List.flatMap_cons, List.length_append, List.length_map] at hl
    have e1 := compSeq_map (p := p1) (t := tYesF) (fe := fe) (env0 := wipeE env vs1) (st := st) (fun _ => true) (g x) (ys x) acc fun y hy => by
      obtain ⟨env1, a, b⟩ := h3 y hy
      exact ⟨env1, a, rfl, fun _ => b⟩
    rw [List.filter_eq_self.mpr fun _ _ => rfl] at e1
    have ih := compSeq2_map ys g xs (acc ++ (ys x).map (g x)) (by rw [List.length_append, List.length_map]; omega) fun y hy => h y (List.mem_cons_of_mem _ hy)
    unfold compSeq2
    rw [h1]
    simp only [s_tYes, s_bind_ok, if_true, h2]
    rw [if_pos (by omega), e1]
    simp only [s_bind_ok]
    rw [ih]
    simp
theorem comp2_map {fi fi1 : Fi} {p p1 : Pat} {fe : Fe} {vs vs1 : List Nat} {env : Env} {st : Sto} {xs : List Val} (ys : Val → List Val) (g : Val → Val → Val) (hf : fi env st = .ok (.seq xs) st) (hl : (xs.flatMap fun x => (ys x).map (g x)).length ≤ 1000000)
    (h : ∀ x ∈ xs, ∃ env1, bindP p x (wipeE env vs) = some env1 ∧ fi1 env1 st = .ok (.seq (ys x)) st ∧ ∀ y ∈ ys x, ∃ env2, bindP p1 y (wipeE env1 vs1) = some env2 ∧ ∃ z, fe env2 st = .ok z st ∧ z.froz = .v (g x y)) :
    eComp2 fi p tYesF fi1 p1 tYesF fe vs vs1 env st = .ok (.fl (xs.flatMap fun x => (ys x).map (g x))) st := by
  unfold eComp2
  rw [hf]
  simp only [s_bind_ok]
  rw [compSeq2_map ys g xs [] (by simpa using hl) h]
  simp
/-! comprehensions that draw -/
theorem compSeq_st {p : Pat} {fe : Fe} {env0 : Env} (Iv : Sto → Prop) (Pv : Val → Prop) : ∀ (xs acc : List Val) (st : Sto), Iv st → (∀ x ∈ xs, ∀ st, Iv st → ∃ env, bindP p x env0 = some env ∧ ∃ z st', fe env st = .ok z st' ∧ (∃ y, z.froz = .v y ∧ Pv y) ∧ Iv st') →
    ∃ ys st', compSeq p tYesF fe env0 xs acc st = .ok (acc ++ ys) st' ∧ ys.length = xs.length ∧ (∀ y ∈ ys, Pv y) ∧ Iv st'
  | [], acc, st, h0, _ => ⟨[], st, by simp [compSeq], rfl, (fun _ h => by cases h), h0⟩
  | x :: xs, acc, st, h0, h => by
    obtain ⟨env, h1, z, s1, h2, ⟨y, h3, h4⟩, h5⟩ := h x List.mem_cons_self st h0
    obtain ⟨ys, s2, h6, h7, h8, h9⟩ := compSeq_st Iv Pv xs (acc ++ [y]) s1 h5 fun q hq => h q (List.mem_cons_of_mem _ hq)
    refine ⟨y :: ys, s2, ?_, by simp [h7], fun q hq => ?_, h9⟩
    · unfold compSeq
      rw [h1]
      simp only [s_tYes, s_bind_ok, if_true, h2, h3]
      rw [h6]
      simp
    · rcases List.mem_cons.mp hq with rfl | hq
      · exact h4
      · exact h8 q hq
theorem comp_st {fi : Fi} {p : Pat} {fe : Fe} {vs : List Nat} {env : Env} {st st1 : Sto} {xs : List Val} (Iv : Sto → Prop) (Pv : Val → Prop) (hf : fi env st = .ok (.seq xs) st1) (hl : xs.length ≤ 1000000) (h0 : Iv st1)
    (h : ∀ x ∈ xs, ∀ st, Iv st → ∃ env', bindP p x (wipeE env vs) = some env' ∧ ∃ z st', fe env' st = .ok z st' ∧ (∃ y, z.froz = .v y ∧ Pv y) ∧ Iv st') :
    ∃ ys st', eComp fi p tYesF fe vs env st = .ok (.fl ys) st' ∧ ys.length = xs.length ∧ (∀ y ∈ ys, Pv y) ∧ Iv st' := by
  obtain ⟨ys, s2, h6, h7⟩ := compSeq_st Iv Pv xs [] st1 h0 h
  refine ⟨ys, s2, ?_, h7⟩
  unfold eComp
  rw [hf]
  simp only [s_bind_ok, hl, if_true, h6]
  rfl
/-! keys that are texts -/
def dv (ws : List (List Nat)) : List (Val × Val) := ws.map fun w => (.str w, .bl true)
def addW (ws : List (List Nat)) (w : List Nat) : List (List Nat) := if w ∈ ws then ws else ws ++ [w]
theorem dHas_dv (ws : List (List Nat)) (w : List Nat) : dHas (dv ws) (.str w) = decide (w ∈ ws) := by
  unfold dHas dv
  rw [Bool.eq_iff_iff]
  simp [eqB]
theorem dPut_dv (ws : List (List Nat)) (w : List Nat) : dPut (dv ws) (.str w) (.bl true) = dv (addW ws w) := by
  unfold dPut addW
  rw [dHas_dv]
  by_cases h : w ∈ ws
  · rw [if_pos h, decide_eq_true h, if_pos rfl]
    unfold dv
    rw [List.map_map]
    refine List.map_congr_left fun q _ => ?_
    simp only [Function.comp]
    split <;> rfl
  · rw [if_neg h, decide_eq_false h]
    simp [dv]
theorem addW_nodup {ws : List (List Nat)} {w : List Nat} (h : ws.Nodup) : (addW ws w).Nodup := by
  unfold addW
  split
  · exact h
  · rename_i hn
    rw [List.nodup_append]
    refine ⟨h, by simp, fun a ha b hb => ?_⟩
    have : b = w := by simpa using hb
    subst this
    exact fun e => hn (e ▸ ha)
theorem addW_len (ws : List (List Nat)) (w : List Nat) : (addW ws w).length ≤ ws.length + 1 := by
  unfold addW
  split <;> simp
theorem addW_pos (ws : List (List Nat)) (w : List Nat) : addW ws w ≠ [] := by
  unfold addW
  split
  · rename_i h
    intro e
    rw [e] at h
    cases h
  · simp
theorem addW_mem {ws : List (List Nat)} {w q : List Nat} (h : q ∈ addW ws w) : q ∈ ws ∨ q = w := by
  unfold addW at h
  split at h
  · exact .inl h
  · rcases List.mem_append.mp h with h | h
    · exact .inl h
    · exact .inr (by simpa using h)
theorem dv_len (ws : List (List Nat)) : (dv ws).length = ws.length := by simp [dv]
theorem dv_keys (ws : List (List Nat)) : strsOf ((dv ws).map (·.1)) = some ws := by
  have : (dv ws).map (·.1) = ws.map Val.str := by simp [dv, Function.comp_def]
  rw [this, strs_map]
theorem sort_dv {ws : List (List Nat)} (h : ws.length < 64) : vSort [.dic false (dv ws)] = some (.fl ((sortS ws).map .str)) := by
  show (match strsOf ((dv ws).map (·.1)) with
    | some ys => if ys.length < 64 then some (SV.fl ((sortS ys).map .str)) else none
    | none => none) = _
  rw [dv_keys]
  simp [h]
end Eng

namespace K81
open PySem PySem.Spec PyProof.Rows L2 Eng
/-! ### the text -/
def topS (i : Nat) : Stmt := PySem.Challenge.pw_ringread_k81_whole_belts_cut_in_turn.main.body.getD i (.Pass ⟨0, 0, 0, 0⟩)
abbrev s__law_cup : Stmt := topS 37
theorem sc__law_cup : FnScope ["script", "cell"] ["script"] (defScope s__law_cup) := ⟨rfl, rfl, rfl, by decide +kernel, rfl, by decide +kernel, by decide +kernel⟩
abbrev s_is_tuple_of : Stmt := topS 11
theorem sc_is_tuple_of : FnScope ["value", "low", "high"] ["value", "low", "high"] (defScope s_is_tuple_of) := ⟨rfl, rfl, rfl, by decide +kernel, rfl, by decide +kernel, by decide +kernel⟩
abbrev s_is_whole : Stmt := topS 10
theorem sc_is_whole : FnScope ["value", "low", "high"] ["value", "low", "high"] (defScope s_is_whole) := ⟨rfl, rfl, rfl, by decide +kernel, rfl, by decide +kernel, by decide +kernel⟩
abbrev s_fits_row : Stmt := topS 13
theorem sc_fits_row : FnScope ["letters", "value", "low", "high", "own"] ["letters", "value", "low", "high"] (defScope s_fits_row) := ⟨rfl, rfl, rfl, by decide +kernel, rfl, by decide +kernel, by decide +kernel⟩
abbrev s_is_rising : Stmt := topS 12
theorem sc_is_rising : FnScope ["values", "one", "other"] ["values"] (defScope s_is_rising) := ⟨rfl, rfl, rfl, by decide +kernel, rfl, by decide +kernel, by decide +kernel⟩
abbrev s_fits_list : Stmt := topS 14
theorem sc_fits_list : FnScope ["value", "own"] ["value"] (defScope s_fits_list) := ⟨rfl, rfl, rfl, by decide +kernel, rfl, by decide +kernel, by decide +kernel⟩
abbrev s_length_in : Stmt := topS 15
theorem sc_length_in : FnScope ["words"] ["words"] (defScope s_length_in) := ⟨rfl, rfl, rfl, by decide +kernel, rfl, by decide +kernel, by decide +kernel⟩
abbrev s_fits_relay : Stmt := topS 22
theorem sc_fits_relay : FnScope ["value", "own"] ["value"] (defScope s_fits_relay) := ⟨rfl, rfl, rfl, by decide +kernel, rfl, by decide +kernel, by decide +kernel⟩
abbrev s_need_relay : Stmt := topS 23
theorem sc_need_relay : FnScope ["relay"] ["relay"] (defScope s_need_relay) := ⟨rfl, rfl, rfl, by decide +kernel, rfl, by decide +kernel, by decide +kernel⟩
abbrev s_fits_belt : Stmt := topS 18
theorem sc_fits_belt : FnScope ["letters", "value"] ["letters", "value"] (defScope s_fits_belt) := ⟨rfl, rfl, rfl, by decide +kernel, rfl, by decide +kernel, by decide +kernel⟩
abbrev s_need_belt : Stmt := topS 24
theorem sc_need_belt : FnScope ["relay", "belt"] ["relay", "belt"] (defScope s_need_belt) := ⟨rfl, rfl, rfl, by decide +kernel, rfl, by decide +kernel, by decide +kernel⟩
abbrev s_are_in_turn : Stmt := topS 26
theorem sc_are_in_turn : FnScope ["relay", "rows", "at", "own"] ["relay", "rows"] (defScope s_are_in_turn) := ⟨rfl, rfl, rfl, by decide +kernel, rfl, by decide +kernel, by decide +kernel⟩
abbrev s_pieces_in : Stmt := topS 25
theorem sc_pieces_in : FnScope ["relay", "belt", "first", "late", "length", "at"] ["relay", "belt", "first"] (defScope s_pieces_in) := ⟨rfl, rfl, rfl, by decide +kernel, rfl, by decide +kernel, by decide +kernel⟩
abbrev s_cuttings_in : Stmt := topS 27
theorem sc_cuttings_in : FnScope ["relay", "belt", "whole", "at"] ["relay", "belt"] (defScope s_cuttings_in) := ⟨rfl, rfl, rfl, by decide +kernel, rfl, by decide +kernel, by decide +kernel⟩
abbrev s_relay_cuttings : Stmt := topS 29
theorem sc_relay_cuttings : FnScope ["relay", "belt"] ["relay", "belt"] (defScope s_relay_cuttings) := ⟨rfl, rfl, rfl, by decide +kernel, rfl, by decide +kernel, by decide +kernel⟩
abbrev s_relay_words : Stmt := topS 31
theorem sc_relay_words : FnScope ["relay", "belt", "first"] ["relay", "belt", "first"] (defScope s_relay_words) := ⟨rfl, rfl, rfl, by decide +kernel, rfl, by decide +kernel, by decide +kernel⟩
abbrev s__law_same : Stmt := topS 40
theorem sc__law_same : FnScope ["told", "due", "at"] ["told", "due"] (defScope s__law_same) := ⟨rfl, rfl, rfl, by decide +kernel, rfl, by decide +kernel, by decide +kernel⟩
abbrev s_relay_belt : Stmt := topS 32
theorem sc_relay_belt : FnScope ["relay", "row", "most", "own"] ["relay", "row"] (defScope s_relay_belt) := ⟨rfl, rfl, rfl, by decide +kernel, rfl, by decide +kernel, by decide +kernel⟩
abbrev s_relay_verdict : Stmt := topS 30
theorem sc_relay_verdict : FnScope ["relay", "belt", "many"] ["relay", "belt"] (defScope s_relay_verdict) := ⟨rfl, rfl, rfl, by decide +kernel, rfl, by decide +kernel, by decide +kernel⟩
abbrev s_turned_relay : Stmt := topS 33
theorem sc_turned_relay : FnScope ["relay", "by"] ["relay", "by"] (defScope s_turned_relay) := ⟨rfl, rfl, rfl, by decide +kernel, rfl, by decide +kernel, by decide +kernel⟩
abbrev s_relay_list : Stmt := topS 34
theorem sc_relay_list : FnScope ["relay", "rows", "own", "row", "word"] ["relay"] (defScope s_relay_list) := ⟨rfl, rfl, rfl, by decide +kernel, rfl, by decide +kernel, by decide +kernel⟩
abbrev s_count_relay_rows : Stmt := topS 35
theorem sc_count_relay_rows : FnScope ["relay", "rounds", "found", "turn", "own"] ["relay", "rounds"] (defScope s_count_relay_rows) := ⟨rfl, rfl, rfl, by decide +kernel, rfl, by decide +kernel, by decide +kernel⟩
abbrev s__law_roll : Stmt := topS 38
theorem sc__law_roll : FnScope ["cup", "many", "found", "deep"] ["cup", "many"] (defScope s__law_roll) := ⟨rfl, rfl, rfl, by decide +kernel, rfl, by decide +kernel, by decide +kernel⟩
abbrev s__law_some : Stmt := topS 39
theorem sc__law_some : FnScope ["cup", "things"] ["cup", "things"] (defScope s__law_some) := ⟨rfl, rfl, rfl, by decide +kernel, rfl, by decide +kernel, by decide +kernel⟩
abbrev s__law_list : Stmt := topS 41
theorem sc__law_list : FnScope ["cup", "letters", "length", "many", "most", "rows", "head", "turn", "at", "word", "cut"] ["cup", "letters", "length", "many", "most"] (defScope s__law_list) := ⟨rfl, rfl, rfl, by decide +kernel, rfl, by decide +kernel, by decide +kernel⟩
abbrev s__law_relay : Stmt := topS 42
theorem sc__law_relay : FnScope ["cup", "lists", "letters", "length", "size", "most", "found", "turn"] ["cup", "lists", "letters", "length", "size", "most"] (defScope s__law_relay) := ⟨rfl, rfl, rfl, by decide +kernel, rfl, by decide +kernel, by decide +kernel⟩
abbrev s_is_relay : Stmt := topS 28
theorem sc_is_relay : FnScope ["value"] ["value"] (defScope s_is_relay) := ⟨rfl, rfl, rfl, by decide +kernel, rfl, by decide +kernel, by decide +kernel⟩
abbrev s__law_places : Stmt := topS 43
theorem sc__law_places : FnScope ["relay", "belt", "length", "found", "whole", "first", "late", "rows", "at"] ["relay", "belt"] (defScope s__law_places) := ⟨rfl, rfl, rfl, by decide +kernel, rfl, by decide +kernel, by decide +kernel⟩
abbrev s__law_rounds : Stmt := topS 44
theorem sc__law_rounds : FnScope ["relay", "rows", "own", "longer", "row", "word"] ["relay"] (defScope s__law_rounds) := ⟨rfl, rfl, rfl, by decide +kernel, rfl, by decide +kernel, by decide +kernel⟩
abbrev s__law_right : Stmt := topS 45
theorem sc__law_right : FnScope ["cup", "lists", "letters", "length", "size", "most", "relay", "whole", "row", "turn", "belt", "by", "at", "late", "value", "due", "first", "turned", "words", "rows", "many", "ways", "odds", "own", "spot", "odd"] ["cup", "lists", "letters", "length", "size", "most"] (defScope s__law_right) := ⟨rfl, rfl, rfl, by decide +kernel, rfl, by decide +kernel, by decide +kernel⟩
abbrev s_law : Stmt := topS 46
theorem sc_law : FnScope ["script", "cup", "one", "two", "told", "lists", "letters", "length", "size", "most"] ["script"] (defScope s_law) := ⟨rfl, rfl, rfl, by decide +kernel, rfl, by decide +kernel, by decide +kernel⟩
/-! ### what each def does -/
-- _law_cup: 0=script 1=cell
def b__law_cup (n : Nat) : Fs := sSeq (sSet (.f) n [] 1 (eB vAbs (aCons (e2 vIx (e2 vAdd (eB vList (aCons (eVar 0) (aNil))) (eLst (aCons (eC (.int 0)) (aNil)))) (eC (.int 0))) (aNil)))) (sRet (eLst (aCons (eIf (tV (e2 vGe (eVar 1) (e2 vPow (eC (.int 10)) (eC (.int 18))))) (e2 vDiv (eVar 1) (eC (.int 291))) (eC (.int 0))) (aCons (e2 vAdd (e2 vMod (eB vInt (aCons (e2 vAdd (e2 vMul (eVar 1) (eC (.int 621))) (eC (.int 5331))) (aNil))) (eC (.int 2077503101))) (eC (.int 417))) (aNil)))))
def m__law_cup : Fc := callF 2 0 b__law_cup
-- is_tuple_of: 0=value 1=low 2=high
def b_is_tuple_of (n : Nat) : Fs := sRet (eAnd (eB vIsi (aCons (eVar 0) (aCons (eC (.ty "tuple")) (aNil)))) (eChain vLe vLe (eVar 1) (eB vLen (aCons (eVar 0) (aNil))) (eVar 2)))
def m_is_tuple_of : Fc := callF 3 0 b_is_tuple_of
-- is_whole: 0=value 1=low 2=high
def b_is_whole (n : Nat) : Fs := sRet (eAnd (eB vIsi (aCons (eVar 0) (aCons (eC (.ty "int")) (aNil)))) (eAnd (eNot (eB vIsi (aCons (eVar 0) (aCons (eC (.ty "bool")) (aNil))))) (eChain vLe vLe (eVar 1) (eVar 0) (eVar 2))))
def m_is_whole : Fc := callF 3 0 b_is_whole
-- fits_row: 0=letters 1=value 2=low 3=high 4=own
def b_fits_row (n : Nat) : Fs := sSeq (sIf (tOr (tNot (tV (eB vIsi (aCons (eVar 1) (aCons (eC (.ty "str")) (aNil)))))) (tNot (tV (eChain vLe vLe (eVar 2) (eB vLen (aCons (eVar 1) (aNil))) (eVar 3))))) (sRet (eC (.bl false))) (sNil)) (sRet (eB vAll (aCons (eComp (iAnyF (eVar 1)) (.n 4) (tYesF) (e2 vIn (eVar 4) (eSl (eC (.str [97, 98, 99, 100])) (pNo) (pAt (eVar 0)))) [4]) (aNil))))
def m_fits_row : Fc := callF 5 0 b_fits_row
-- is_rising: 0=values 1=one 2=other
def b_is_rising (n : Nat) : Fs := sRet (eB vAll (aCons (eComp (iZipF (aCons (eVar 0) (aCons (eSl (eVar 0) (pAt (eC (.int 1))) (pNo)) (aNil)))) (.t [1, 2]) (tYesF) (e2 vLt (eVar 1) (eVar 2)) [1, 2]) (aNil)))
def m_is_rising : Fc := callF 3 0 b_is_rising
-- fits_list: 0=value 1=own
def b_fits_list (n : Nat) : Fs := sSeq (sIf (tOr (tNot (tV (eCall m_is_tuple_of (aCons (eVar 0) (aCons (eC (.int 2)) (aCons (eC (.int 2)) (aNil))))))) (tOr (tNot (tV (eCall m_is_whole (aCons (e2 vIx (eVar 0) (eC (.int 0))) (aCons (eC (.int 1)) (aCons (eB vLen (aCons (eC (.str [97, 98, 99, 100])) (aNil))) (aNil))))))) (tNot (tV (eCall m_is_tuple_of (aCons (e2 vIx (eVar 0) (eC (.int 1))) (aCons (eC (.int 1)) (aCons (eC (.int 40)) (aNil))))))))) (sRet (eC (.bl false))) (sNil)) (sSeq (sIf (tNot (tV (eB vAll (aCons (eComp (iAnyF (e2 vIx (eVar 0) (eC (.int 1)))) (.n 1) (tYesF) (eCall m_fits_row (aCons (e2 vIx (eVar 0) (eC (.int 0))) (aCons (eVar 1) (aCons (eC (.int 2)) (aCons (eC (.int 4)) (aNil)))))) [1]) (aNil))))) (sRet (eC (.bl false))) (sNil)) (sRet (eAnd (eB vAll (aCons (eComp (iAnyF (e2 vIx (eVar 0) (eC (.int 1)))) (.n 1) (tYesF) (e2 vEq (eB vLen (aCons (eVar 1) (aNil))) (eB vLen (aCons (e2 vIx (e2 vIx (eVar 0) (eC (.int 1))) (eC (.int 0))) (aNil)))) [1]) (aNil))) (eCall m_is_rising (aCons (e2 vIx (eVar 0) (eC (.int 1))) (aNil))))))
def m_fits_list : Fc := callF 2 0 b_fits_list
-- length_in: 0=words
def b_length_in (n : Nat) : Fs := sRet (eB vLen (aCons (e2 vIx (e2 vIx (eVar 0) (eC (.int 1))) (eC (.int 0))) (aNil)))
def m_length_in : Fc := callF 1 0 b_length_in
-- fits_relay: 0=value 1=own
def b_fits_relay (n : Nat) : Fs := sSeq (sIf (tOr (tNot (tV (eCall m_is_tuple_of (aCons (eVar 0) (aCons (eC (.int 1)) (aCons (eC (.int 4)) (aNil))))))) (tNot (tV (eB vAll (aCons (eComp (iAnyF (eVar 0)) (.n 1) (tYesF) (eCall m_fits_list (aCons (eVar 1) (aNil))) [1]) (aNil)))))) (sRet (eC (.bl false))) (sNil)) (sRet (eB vAll (aCons (eComp (iAnyF (eVar 0)) (.n 1) (tYesF) (eAnd (e2 vEq (e2 vIx (eVar 1) (eC (.int 0))) (e2 vIx (e2 vIx (eVar 0) (eC (.int 0))) (eC (.int 0)))) (e2 vEq (eCall m_length_in (aCons (eVar 1) (aNil))) (eCall m_length_in (aCons (e2 vIx (eVar 0) (eC (.int 0))) (aNil))))) [1]) (aNil))))
def m_fits_relay : Fc := callF 2 0 b_fits_relay
-- need_relay: 0=relay
def b_need_relay (n : Nat) : Fs := sIf (tNot (tV (eCall m_fits_relay (aCons (eVar 0) (aNil))))) (sBad) (sNil)
def m_need_relay : Fc := callF 1 0 b_need_relay
-- fits_belt: 0=letters 1=value
def b_fits_belt (n : Nat) : Fs := sRet (eCall m_fits_row (aCons (eVar 0) (aCons (eVar 1) (aCons (eC (.int 1)) (aCons (eC (.int 24)) (aNil))))))
def m_fits_belt : Fc := callF 2 0 b_fits_belt
-- need_belt: 0=relay 1=belt
def b_need_belt (n : Nat) : Fs := sSeq (sExpr (eCall m_need_relay (aCons (eVar 0) (aNil)))) (sIf (tNot (tV (eCall m_fits_belt (aCons (e2 vIx (e2 vIx (eVar 0) (eC (.int 0))) (eC (.int 0))) (aCons (eVar 1) (aNil)))))) (sBad) (sNil))
def m_need_belt : Fc := callF 2 0 b_need_belt
-- are_in_turn: 0=relay 1=rows 2=at 3=own
def b_are_in_turn (n : Nat) : Fs := sRet (eB vAll (aCons (eComp (iEnumF (aCons (eVar 1) (aNil))) (.t [2, 3]) (tYesF) (e2 vIn (eVar 3) (e2 vIx (e2 vIx (eVar 0) (e2 vMod (eVar 2) (eB vLen (aCons (eVar 0) (aNil))))) (eC (.int 1)))) [2, 3]) (aNil)))
def m_are_in_turn : Fc := callF 4 0 b_are_in_turn
-- pieces_in: 0=relay 1=belt 2=first 3=late 4=length 5=at
def b_pieces_in (n : Nat) : Fs := sSeq (sTup (bCons (.f) n [] (e2 vAdd (eSl (eVar 1) (pAt (eVar 2)) (pNo)) (eSl (eVar 1) (pNo) (pAt (eVar 2)))) (bCons (.f) n [] (eCall m_length_in (aCons (e2 vIx (eVar 0) (eC (.int 0))) (aNil))) (bNil))) (gsCons (gN 3) (gsCons (gN 4) (gsNil)))) (sRet (eB vTuple (aCons (eComp (iRng3F (aCons (eC (.int 0)) (aCons (eB vLen (aCons (eVar 3) (aNil))) (aCons (eVar 4) (aNil))))) (.n 5) (tYesF) (eSl (eVar 3) (pAt (eVar 5)) (pAt (e2 vAdd (eVar 5) (eVar 4)))) [5]) (aNil))))
def m_pieces_in : Fc := callF 6 0 b_pieces_in
-- cuttings_in: 0=relay 1=belt 2=whole 3=at
def b_cuttings_in (n : Nat) : Fs := sSeq (sSet (.f) n [] 2 (e2 vMul (eB vLen (aCons (eVar 0) (aNil))) (eCall m_length_in (aCons (e2 vIx (eVar 0) (eC (.int 0))) (aNil))))) (sSeq (sIf (tV (e2 vNe (e2 vMod (eB vLen (aCons (eVar 1) (aNil))) (eVar 2)) (eC (.int 0)))) (sRet (eLst (aNil))) (sNil)) (sRet (eComp (iRng1F (aCons (eVar 2) (aNil))) (.n 3) (tV (eCall m_are_in_turn (aCons (eVar 0) (aCons (eCall m_pieces_in (aCons (eVar 0) (aCons (eVar 1) (aCons (eVar 3) (aNil))))) (aNil))))) (eVar 3) [3])))
def m_cuttings_in : Fc := callF 4 0 b_cuttings_in
-- relay_cuttings: 0=relay 1=belt
def b_relay_cuttings (n : Nat) : Fs := sSeq (sExpr (eCall m_need_belt (aCons (eVar 0) (aCons (eVar 1) (aNil))))) (sRet (eB vTuple (aCons (eCall m_cuttings_in (aCons (eVar 0) (aCons (eVar 1) (aNil)))) (aNil))))
def m_relay_cuttings : Fc := callF 2 0 b_relay_cuttings
-- relay_words: 0=relay 1=belt 2=first
def b_relay_words (n : Nat) : Fs := sSeq (sExpr (eCall m_need_belt (aCons (eVar 0) (aCons (eVar 1) (aNil))))) (sSeq (sIf (tNot (tV (eCall m_is_whole (aCons (eVar 2) (aCons (eC (.int 0)) (aCons (e2 vSub (e2 vMul (eB vLen (aCons (eVar 0) (aNil))) (eCall m_length_in (aCons (e2 vIx (eVar 0) (eC (.int 0))) (aNil)))) (eC (.int 1))) (aNil))))))) (sBad) (sNil)) (sRet (eIf (tV (e2 vIn (eVar 2) (eCall m_cuttings_in (aCons (eVar 0) (aCons (eVar 1) (aNil)))))) (eCall m_pieces_in (aCons (eVar 0) (aCons (eVar 1) (aCons (eVar 2) (aNil))))) (eC .non))))
def m_relay_words : Fc := callF 3 0 b_relay_words
-- _law_same: 0=told 1=due 2=at
def b__law_same (rec : Fc) (n : Nat) : Fs := sSeq (sIf (tV (eB vIsi (aCons (eVar 1) (aCons (eC (.ty "tuple")) (aNil))))) (sSeq (sIf (tOr (tNot (tV (eB vIsi (aCons (eVar 0) (aCons (eC (.ty "tuple")) (aNil)))))) (tV (e2 vNe (eB vLen (aCons (eVar 0) (aNil))) (eB vLen (aCons (eVar 1) (aNil)))))) (sRet (eC (.bl false))) (sNil)) (sRet (eB vAll (aCons (eComp (iRng1F (aCons (eB vLen (aCons (eVar 1) (aNil))) (aNil))) (.n 2) (tYesF) (eCall (rec) (aCons (e2 vIx (eVar 0) (eVar 2)) (aCons (e2 vIx (eVar 1) (eVar 2)) (aNil)))) [2]) (aNil))))) (sNil)) (sSeq (sIf (tV (e2 vIs (eVar 1) (eC .non))) (sRet (e2 vIs (eVar 0) (eC .non))) (sNil)) (sSeq (sIf (tV (eB vIsi (aCons (eVar 1) (aCons (eC (.ty "bool")) (aNil))))) (sRet (eIf (tV (eVar 1)) (e2 vIs (eVar 0) (eC (.bl true))) (e2 vIs (eVar 0) (eC (.bl false))))) (sNil)) (sSeq (sIf (tV (eB vIsi (aCons (eVar 1) (aCons (eC (.ty "int")) (aNil))))) (sRet (eAnd (eB vIsi (aCons (eVar 0) (aCons (eC (.ty "int")) (aNil)))) (eAnd (eNot (eB vIsi (aCons (eVar 0) (aCons (eC (.ty "bool")) (aNil))))) (e2 vEq (eB vInt (aCons (eVar 0) (aNil))) (eVar 1))))) (sNil)) (sRet (eAnd (eB vIsi (aCons (eVar 0) (aCons (eC (.ty "str")) (aNil)))) (e2 vEq (eB vStr (aCons (eVar 0) (aNil))) (eVar 1)))))))
def m__law_same : Nat → Fc
  | 0 => callF 3 0 fun _ => sBad
  | k + 1 => callF 3 0 (b__law_same (m__law_same k))
-- relay_belt: 0=relay 1=row 2=most 3=own
def b_relay_belt (n : Nat) : Fs := sSeq (sExpr (eCall m_need_relay (aCons (eVar 0) (aNil)))) (sSeq (sSet (.f) n [] 2 (e2 vDiv (eC (.int 24)) (eCall m_length_in (aCons (e2 vIx (eVar 0) (eC (.int 0))) (aNil))))) (sSeq (sIf (tOr (tNot (tV (eCall m_is_tuple_of (aCons (eVar 1) (aCons (eC (.int 1)) (aCons (eVar 2) (aNil))))))) (tNot (tV (eB vAll (aCons (eComp (iAnyF (eVar 1)) (.n 3) (tYesF) (eB vIsi (aCons (eVar 3) (aCons (eC (.ty "str")) (aNil)))) [3]) (aNil)))))) (sBad) (sNil)) (sSeq (sIf (tOr (tV (e2 vNe (e2 vMod (eB vLen (aCons (eVar 1) (aNil))) (eB vLen (aCons (eVar 0) (aNil)))) (eC (.int 0)))) (tNot (tV (eCall m_are_in_turn (aCons (eVar 0) (aCons (eVar 1) (aNil))))))) (sBad) (sNil)) (sRet (eM "str" vJoin (eC (.str [])) (aCons (eVar 1) (aNil)))))))
def m_relay_belt : Fc := callF 4 0 b_relay_belt
-- relay_verdict: 0=relay 1=belt 2=many
def b_relay_verdict (n : Nat) : Fs := sSeq (sExpr (eCall m_need_belt (aCons (eVar 0) (aCons (eVar 1) (aNil))))) (sSeq (sSet (.f) n [] 2 (eB vLen (aCons (eCall m_cuttings_in (aCons (eVar 0) (aCons (eVar 1) (aNil)))) (aNil)))) (sRet (eIf (tV (e2 vEq (eVar 2) (eC (.int 0)))) (eC (.str [110, 111, 110, 101])) (eIf (tV (e2 vEq (eVar 2) (eC (.int 1)))) (eC (.str [111, 110, 101])) (eC (.str [115, 101, 118, 101, 114, 97, 108]))))))
def m_relay_verdict : Fc := callF 3 0 b_relay_verdict
-- turned_relay: 0=relay 1=by
def b_turned_relay (n : Nat) : Fs := sSeq (sExpr (eCall m_need_relay (aCons (eVar 0) (aNil)))) (sSeq (sIf (tNot (tV (eCall m_is_whole (aCons (eVar 1) (aCons (eC (.int 0)) (aCons (e2 vSub (eB vLen (aCons (eVar 0) (aNil))) (eC (.int 1))) (aNil))))))) (sBad) (sNil)) (sRet (e2 vAdd (eSl (eVar 0) (pAt (eVar 1)) (pNo)) (eSl (eVar 0) (pNo) (pAt (eVar 1))))))
def m_turned_relay : Fc := callF 2 0 b_turned_relay
-- relay_list: 0=relay 1=rows 2=own 3=row 4=word
def b_relay_list (n : Nat) : Fs := sSeq (sExpr (eCall m_need_relay (aCons (eVar 0) (aNil)))) (sSeq (sSet (.f) n [] 1 (eLst (aCons (eC (.str [])) (aNil)))) (sSeq (sFor (iAnyF (eVar 0)) (.n 2) n (([] ++ []) ++ ([] ++ [])) (sSeq (sIf (tV (e2 vGt (e2 vMul (eB vLen (aCons (eVar 1) (aNil))) (eB vLen (aCons (e2 vIx (eVar 2) (eC (.int 1))) (aNil)))) (eC (.int 40)))) (sRet (eC .non)) (sNil)) (sSet (.f) n [] 1 (eComp2 (iAnyF (eVar 1)) (.n 3) (tYesF) (iAnyF (e2 vIx (eVar 2) (eC (.int 1)))) (.n 4) (tYesF) (e2 vAdd (eVar 3) (eVar 4)) [3, 4] [4])))) (sRet (eIf (tV (e2 vLe (eB vLen (aCons (e2 vIx (eVar 1) (eC (.int 0))) (aNil))) (eC (.int 4)))) (eTup (aCons (e2 vIx (e2 vIx (eVar 0) (eC (.int 0))) (eC (.int 0))) (aCons (eB vTuple (aCons (eB vSort (aCons (eVar 1) (aNil))) (aNil))) (aNil)))) (eC .non)))))
def m_relay_list : Fc := callF 5 0 b_relay_list
-- count_relay_rows: 0=relay 1=rounds 2=found 3=turn 4=own
def b_count_relay_rows (n : Nat) : Fs := sSeq (sExpr (eCall m_need_relay (aCons (eVar 0) (aNil)))) (sSeq (sIf (tNot (tV (eCall m_is_whole (aCons (eVar 1) (aCons (eC (.int 0)) (aCons (eC (.int 24)) (aNil))))))) (sBad) (sNil)) (sSeq (sSet (.f) n [] 2 (eC (.int 1))) (sSeq (sFor (iRng1F (aCons (eVar 1) (aNil))) (.n 3) n ([] ++ []) (sFor (iAnyF (eVar 0)) (.n 4) n ([] ++ []) (sSet (.f) n [] 2 (e2 vMul (eVar 2) (eB vLen (aCons (e2 vIx (eVar 4) (eC (.int 1))) (aNil))))))) (sRet (eVar 2)))))
def m_count_relay_rows : Fc := callF 5 0 b_count_relay_rows
-- _law_roll: 0=cup 1=many 2=found 3=deep
def b__law_roll (n : Nat) : Fs := sSeq (sIf (tV (e2 vGt (e2 vIx (eVar 0) (eC (.int 0))) (eC (.int 0)))) (sSeq (sSet (.f) n [] 2 (e2 vMod (eB vInt (aCons (e2 vIx (eVar 0) (eC (.int 0))) (aNil))) (eVar 1))) (sSeq (sAsg (e2 vDiv (e2 vIx (eVar 0) (eC (.int 0))) (eVar 1)) (gSt oSet (eVar 0) (eC (.int 0)))) (sRet (eVar 2)))) (sNil)) (sSeq (sAsg (e2 vMod (eB vInt (aCons (e2 vAdd (e2 vMul (e2 vIx (eVar 0) (eC (.int 1))) (eC (.int 31293))) (eC (.int 8321))) (aNil))) (eC (.int 2147483399))) (gSt oSet (eVar 0) (eC (.int 1)))) (sSeq (sSet (.f) n [] 3 (e2 vMod (eB vInt (aCons (e2 vMul (e2 vIx (eVar 0) (eC (.int 1))) (e2 vAdd (e2 vIx (eVar 0) (eC (.int 1))) (eC (.int 589)))) (aNil))) (eC (.int 2147483563)))) (sRet (e2 vMod (eB vInt (aCons (e2 vDiv (eVar 3) (eC (.int 797))) (aNil))) (eVar 1)))))
def m__law_roll : Fc := callF 4 0 b__law_roll
-- _law_some: 0=cup 1=things
def b__law_some (n : Nat) : Fs := sRet (e2 vIx (eVar 1) (eCall m__law_roll (aCons (eVar 0) (aCons (eB vLen (aCons (eVar 1) (aNil))) (aNil)))))
def m__law_some : Fc := callF 2 0 b__law_some
-- _law_list: 0=cup 1=letters 2=length 3=many 4=most 5=rows 6=head 7=turn 8=at 9=word 10=cut own: rows
def b__law_list (n : Nat) : Fs := sSeq (sPar [5, 6] (bCons (.c 0) n [] (eDic false) (bCons (.f) n [] (e2 vMul (eC (.str [97])) (eVar 2)) (bNil)))) (sSeq (sFor (iRng1F (aCons (eVar 3) (aNil))) (.n 7) n (([] ++ []) ++ (([] ++ []) ++ (([] ++ []) ++ ((([] ++ []) ++ (([] ++ []) ++ [])) ++ ([] ++ []))))) (sSeq (sSet (.f) n [] 9 (eM "str" vJoin (eC (.str [])) (aCons (eComp (iRng1F (aCons (eVar 2) (aNil))) (.n 8) (tYesF) (e2 vIx (eC (.str [97, 98, 99, 100])) (eCall m__law_roll (aCons (eVar 0) (aCons (eVar 1) (aNil))))) [8]) (aNil)))) (sSeq (sSet (.f) n [] 10 (eCall m__law_roll (aCons (eVar 0) (aCons (eVar 2) (aNil))))) (sSeq (sSet (.f) n [] 9 (eSl (e2 vAdd (eSl (eVar 6) (pNo) (pAt (eVar 10))) (eVar 9)) (pNo) (pAt (eVar 2)))) (sSeq (sTup (bCons (.f) n [] (eCall m__law_some (aCons (eVar 0) (aCons (eLst (aCons (eVar 6) (aCons (eVar 9) (aNil)))) (aNil)))) (bCons (.f) n [] (eC (.bl true)) (bNil))) (gsCons (gN 6) (gsCons (gSt oSet (eVar 5) (eVar 9)) (gsNil)))) (sIf (tV (e2 vEq (eCall m__law_roll (aCons (eVar 0) (aCons (eC (.int 3)) (aNil)))) (eC (.int 0)))) (sFor (iRng1F (aCons (eVar 1) (aNil))) (.n 8) n [] (sAsg (eC (.bl true)) (gSt oSet (eVar 5) (e2 vAdd (eSl (eVar 9) (pNo) (pAt (e1 vNeg (eC (.int 1))))) (e2 vIx (eC (.str [97, 98, 99, 100])) (eVar 8)))))) (sNil))))))) (sRet (eTup (aCons (eVar 1) (aCons (eB vTuple (aCons (eSl (eB vSort (aCons (eVar 5) (aNil))) (pNo) (pAt (eVar 4))) (aNil))) (aNil))))))
def m__law_list : Fc := callF 11 1 b__law_list
-- _law_relay: 0=cup 1=lists 2=letters 3=length 4=size 5=most 6=found 7=turn
def b__law_relay (n : Nat) : Fs := sSeq (sSet (.f) n [] 6 (eTup (aNil))) (sSeq (sFor (iRng1F (aCons (eVar 1) (aNil))) (.n 7) n ([] ++ []) (sSet (.f) n [] 6 (e2 vAdd (eVar 6) (eTup (aCons (eCall m__law_list (aCons (eVar 0) (aCons (eVar 2) (aCons (eVar 3) (aCons (eVar 4) (aCons (eVar 5) (aNil))))))) (aNil)))))) (sRet (eVar 6)))
def m__law_relay : Fc := callF 8 0 b__law_relay
-- is_relay: 0=value
def b_is_relay (n : Nat) : Fs := sRet (eCall m_fits_relay (aCons (eVar 0) (aNil)))
def m_is_relay : Fc := callF 1 0 b_is_relay
-- _law_places: 0=relay 1=belt 2=length 3=found 4=whole 5=first 6=late 7=rows 8=at
def b__law_places (n : Nat) : Fs := sSeq (sTup (bCons (.f) n [] (eB vLen (aCons (e2 vIx (e2 vIx (e2 vIx (eVar 0) (eC (.int 0))) (eC (.int 1))) (eC (.int 0))) (aNil))) (bCons (.f) n [] (eTup (aNil)) (bNil))) (gsCons (gN 2) (gsCons (gN 3) (gsNil)))) (sSeq (sSet (.f) n [] 4 (e2 vMul (eVar 2) (eB vLen (aCons (eVar 0) (aNil))))) (sSeq (sFor (iRng1F (aCons (eIf (tV (e2 vEq (e2 vMod (eB vInt (aCons (eB vLen (aCons (eVar 1) (aNil))) (aNil))) (eVar 4)) (eC (.int 0)))) (eVar 4) (eC (.int 0))) (aNil))) (.n 5) n (([] ++ []) ++ (([] ++ []) ++ (([] ++ []) ++ []))) (sSeq (sSet (.f) n [] 6 (e2 vAdd (eSl (eVar 1) (pAt (eVar 5)) (pNo)) (eSl (eVar 1) (pNo) (pAt (eVar 5))))) (sSeq (sSet (.f) n [] 7 (eComp (iRng3F (aCons (eC (.int 0)) (aCons (eB vLen (aCons (eVar 6) (aNil))) (aCons (eVar 2) (aNil))))) (.n 8) (tYesF) (eSl (eVar 6) (pAt (eVar 8)) (pAt (e2 vAdd (eVar 8) (eVar 2)))) [8])) (sIf (tV (e2 vEq (eComp (iRng1F (aCons (eB vLen (aCons (eVar 7) (aNil))) (aNil))) (.n 8) (tV (e2 vNotIn (e2 vIx (eVar 7) (eVar 8)) (e2 vIx (e2 vIx (eVar 0) (e2 vMod (eVar 8) (eB vLen (aCons (eVar 0) (aNil))))) (eC (.int 1))))) (eVar 8) [8]) (eLst (aNil)))) (sSet (.f) n [] 3 (e2 vAdd (eVar 3) (eTup (aCons (eVar 5) (aNil))))) (sNil))))) (sRet (eVar 3))))
def m__law_places : Fc := callF 9 0 b__law_places
-- _law_rounds: 0=relay 1=rows 2=own 3=longer 4=row 5=word
def b__law_rounds (n : Nat) : Fs := sSeq (sSet (.f) n [] 1 (eLst (aCons (eC (.str [])) (aNil)))) (sSeq (sFor (iAnyF (eVar 0)) (.n 2) n (([] ++ []) ++ (([] ++ []) ++ ([] ++ []))) (sSeq (sSet (.f) n [] 3 (eLst (aNil))) (sSeq (sFor (iAnyF (eVar 1)) (.n 4) n ([] ++ []) (sSet (.f) n [] 3 (e2 vAdd (eVar 3) (eComp (iAnyF (e2 vIx (eVar 2) (eC (.int 1)))) (.n 5) (tYesF) (e2 vAdd (eVar 4) (eVar 5)) [5])))) (sSet (.f) n [] 1 (eVar 3))))) (sRet (eVar 1)))
def m__law_rounds : Fc := callF 6 0 b__law_rounds
-- _law_right: 0=cup 1=lists 2=letters 3=length 4=size 5=most 6=relay 7=whole 8=row 9=turn 10=belt 11=by 12=at 13=late 14=value 15=due 16=first 17=turned 18=words 19=rows 20=many 21=ways 22=odds 23=own 24=spot 25=odd
def b__law_right (n : Nat) : Fs := sSeq (sSet (.f) n [] 6 (eCall m__law_relay (aCons (eVar 0) (aCons (eVar 1) (aCons (eVar 2) (aCons (eVar 3) (aCons (eVar 4) (aCons (eVar 5) (aNil))))))))) (sSeq (sSet (.f) n [] 7 (e2 vMul (eVar 1) (eVar 3))) (sSeq (sSet (.f) n [] 8 (eTup (aNil))) (sSeq (sFor (iRng1F (aCons (e2 vMul (eVar 1) (e2 vAdd (eC (.int 1)) (eCall m__law_roll (aCons (eVar 0) (aCons (e2 vDiv (eC (.int 24)) (eVar 7)) (aNil)))))) (aNil))) (.n 9) n ([] ++ []) (sSet (.f) n [] 8 (e2 vAdd (eVar 8) (eTup (aCons (eCall m__law_some (aCons (eVar 0) (aCons (e2 vIx (e2 vIx (eVar 6) (e2 vMod (eVar 9) (eVar 1))) (eC (.int 1))) (aNil)))) (aNil)))))) (sSeq (sSet (.f) n [] 10 (eM "str" vJoin (eC (.str [])) (aCons (eVar 8) (aNil)))) (sSeq (sIf (tNot (tV (eCall (m__law_same 6) (aCons (eTup (aCons (eCall m_is_relay (aCons (eVar 6) (aNil))) (aCons (eCall m_relay_belt (aCons (eVar 6) (aCons (eVar 8) (aNil)))) (aCons (eCall m_relay_words (aCons (eVar 6) (aCons (eVar 10) (aCons (eC (.int 0)) (aNil))))) (aNil))))) (aCons (eTup (aCons (eC (.bl true)) (aCons (eVar 10) (aCons (eVar 8) (aNil))))) (aNil)))))) (sRet (eC (.bl false))) (sNil)) (sSeq (sTup (bCons (.f) n [] (eCall m__law_roll (aCons (eVar 0) (aCons (eVar 1) (aNil)))) (bCons (.f) n [] (eCall m__law_roll (aCons (eVar 0) (aCons (eB vLen (aCons (eVar 10) (aNil))) (aNil)))) (bNil))) (gsCons (gN 11) (gsCons (gN 12) (gsNil)))) (sSeq (sSet (.f) n [] 13 (eCall m_turned_relay (aCons (eVar 6) (aCons (eVar 11) (aNil))))) (sSeq (sIf (tNot (tV (eCall (m__law_same 6) (aCons (eVar 13) (aCons (e2 vAdd (eSl (eVar 6) (pAt (eVar 11)) (pNo)) (eSl (eVar 6) (pNo) (pAt (eVar 11)))) (aNil)))))) (sRet (eC (.bl false))) (sNil)) (sSeq (sFor (iAnyF (eTup (aCons (eVar 10) (aCons (e2 vAdd (eSl (eVar 10) (pAt (eVar 12)) (pNo)) (eSl (eVar 10) (pNo) (pAt (eVar 12)))) (aCons (e2 vAdd (e2 vAdd (eSl (eVar 10) (pNo) (pAt (eVar 12))) (eC (.str [97]))) (eSl (eVar 10) (pAt (e2 vAdd (eVar 12) (eC (.int 1)))) (pNo))) (aCons (eSl (eVar 10) (pAt (eC (.int 1))) (pNo)) (aNil))))))) (.n 14) n (([] ++ []) ++ (([] ++ []) ++ (([] ++ []) ++ (([] ++ []) ++ (([] ++ []) ++ ([] ++ [])))))) (sSeq (sSet (.f) n [] 15 (eCall m__law_places (aCons (eVar 6) (aCons (eVar 14) (aNil))))) (sSeq (sIf (tAnd (tV (e2 vNe (eVar 14) (eC (.str [])))) (tNot (tV (eCall (m__law_same 6) (aCons (eTup (aCons (eCall m_relay_cuttings (aCons (eVar 6) (aCons (eVar 14) (aNil)))) (aCons (eCall m_relay_verdict (aCons (eVar 6) (aCons (eVar 14) (aNil)))) (aNil)))) (aCons (eTup (aCons (eVar 15) (aCons (eIf (tV (e2 vEq (eVar 15) (eTup (aNil)))) (eC (.str [110, 111, 110, 101])) (eIf (tV (e2 vEq (eB vLen (aCons (eVar 15) (aNil))) (eC (.int 1)))) (eC (.str [111, 110, 101])) (eC (.str [115, 101, 118, 101, 114, 97, 108])))) (aNil)))) (aNil))))))) (sRet (eC (.bl false))) (sNil)) (sSeq (sIf (tAnd (tV (e2 vNe (eVar 14) (eC (.str [])))) (tNot (tV (eCall (m__law_same 6) (aCons (eCall m_relay_cuttings (aCons (eVar 13) (aCons (eVar 14) (aNil)))) (aCons (eB vTuple (aCons (eB vSort (aCons (eComp (iAnyF (eVar 15)) (.n 23) (tYesF) (e2 vMod (eB vInt (aCons (e2 vAdd (eVar 23) (e2 vMul (eVar 11) (eVar 3))) (aNil))) (eVar 7)) [23]) (aNil))) (aNil))) (aNil))))))) (sRet (eC (.bl false))) (sNil)) (sFor (iRng1F (aCons (eIf (tV (e2 vNe (eVar 14) (eC (.str [])))) (eVar 7) (eC (.int 0))) (aNil))) (.n 16) n (([] ++ []) ++ (([] ++ []) ++ ([] ++ []))) (sSeq (sSet (.f) n [] 17 (e2 vAdd (eSl (eVar 14) (pAt (eVar 16)) (pNo)) (eSl (eVar 14) (pNo) (pAt (eVar 16))))) (sSeq (sSet (.f) n [] 18 (eIf (tV (e2 vIn (eVar 16) (eVar 15))) (eB vTuple (aCons (eComp (iRng3F (aCons (eC (.int 0)) (aCons (eB vLen (aCons (eVar 17) (aNil))) (aCons (eVar 3) (aNil))))) (.n 24) (tYesF) (eSl (eVar 17) (pAt (eVar 24)) (pAt (e2 vAdd (eVar 24) (eVar 3)))) [24]) (aNil))) (eC .non))) (sIf (tNot (tV (eCall (m__law_same 6) (aCons (eCall m_relay_words (aCons (eVar 6) (aCons (eVar 14) (aCons (eVar 16) (aNil))))) (aCons (eVar 18) (aNil)))))) (sRet (eC (.bl false))) (sNil))))))))) (sSeq (sSet (.f) n [] 19 (eCall m__law_rounds (aCons (eVar 6) (aNil)))) (sSeq (sIf (tNot (tV (eCall (m__law_same 6) (aCons (eCall m_relay_list (aCons (eVar 6) (aNil))) (aCons (eIf (tAnd (tV (e2 vLt (eB vLen (aCons (eVar 19) (aNil))) (eC (.int 41)))) (tV (e2 vLt (eVar 7) (eC (.int 5))))) (eTup (aCons (eVar 2) (aCons (eB vTuple (aCons (eB vSort (aCons (eVar 19) (aNil))) (aNil))) (aNil)))) (eC .non)) (aNil)))))) (sRet (eC (.bl false))) (sNil)) (sSeq (sSet (.f) n [] 20 (eCall m__law_roll (aCons (eVar 0) (aCons (eC (.int 4)) (aNil))))) (sSeq (sSet (.f) n [] 21 (eC (.int 1))) (sSeq (sFor (iRng1F (aCons (eVar 20) (aNil))) (.n 9) n ([] ++ []) (sSet (.f) n [] 21 (e2 vMul (eVar 21) (eB vLen (aCons (eVar 19) (aNil)))))) (sSeq (sSet (.f) n [] 22 (eLst (aCons (eC .non) (aCons (eTup (aNil)) (aCons (eB vList (aCons (eVar 6) (aNil))) (aCons (e2 vIx (eVar 6) (eC (.int 0))) (aCons (eTup (aCons (eC .non) (aNil))) (aCons (e2 vAdd (eVar 6) (eTup (aCons (eTup (aCons (eVar 2) (aCons (eTup (aCons (e2 vMul (eC (.str [97])) (eIf (tV (e2 vLt (eVar 3) (eC (.int 4)))) (e2 vAdd (eVar 3) (eC (.int 1))) (eC (.int 2)))) (aNil))) (aNil)))) (aNil)))) (aCons (e2 vAdd (eVar 6) (eTup (aCons (eTup (aCons (e2 vAdd (eC (.int 1)) (e2 vMod (eVar 2) (eC (.int 4)))) (aCons (eTup (aCons (e2 vMul (eC (.str [97])) (eVar 3)) (aNil))) (aNil)))) (aNil)))) (aCons (e2 vMul (eSl (eVar 6) (pNo) (pAt (eC (.int 1)))) (eC (.int 5))) (aCons (eC (.int 5)) (aNil)))))))))))) (sRet (eAnd (eCall (m__law_same 6) (aCons (eCall m_count_relay_rows (aCons (eVar 6) (aCons (eVar 20) (aNil)))) (aCons (eVar 21) (aNil)))) (e2 vEq (eComp (iAnyF (eVar 22)) (.n 25) (tV (e2 vIsN (eCall m_is_relay (aCons (eVar 25) (aNil))) (eC (.bl false)))) (eVar 25) [25]) (eLst (aNil))))))))))))))))))))
def m__law_right : Fc := callF 26 0 b__law_right
-- law: 0=script 1=cup 2=one 3=two 4=told 5=lists 6=letters 7=length 8=size 9=most own: cup
def b_law (n : Nat) : Fs := sSeq (sSet (.c 0) n [] 1 (eCall m__law_cup (aCons (eVar 0) (aNil)))) (sSeq (sTup (bCons (.f) n [] (eTup (aCons (eTup (aCons (eC (.int 2)) (aCons (eTup (aCons (eC (.str [97, 97])) (aNil))) (aNil)))) (aCons (eTup (aCons (eC (.int 2)) (aCons (eTup (aCons (eC (.str [98, 98])) (aNil))) (aNil)))) (aNil)))) (bCons (.f) n [] (eTup (aCons (eTup (aCons (eC (.int 2)) (aCons (eTup (aCons (eC (.str [97, 98])) (aCons (eC (.str [98, 97])) (aNil)))) (aNil)))) (aCons (eTup (aCons (eC (.int 2)) (aCons (eTup (aCons (eC (.str [97, 98])) (aNil))) (aNil)))) (aNil)))) (bNil))) (gsCons (gN 2) (gsCons (gN 3) (gsNil)))) (sSeq (sSet (.f) n [] 4 (eTup (aCons (eCall m_relay_cuttings (aCons (eVar 2) (aCons (eC (.str [97, 97, 98, 98])) (aNil)))) (aCons (eCall m_relay_cuttings (aCons (eVar 2) (aCons (eC (.str [97, 98, 98, 97])) (aNil)))) (aCons (eCall m_relay_cuttings (aCons (eVar 3) (aCons (eC (.str [97, 98, 97, 98])) (aNil)))) (aCons (eCall m_relay_cuttings (aCons (eVar 3) (aCons (eC (.str [98, 97, 97, 98])) (aNil)))) (aCons (eCall m_relay_words (aCons (eVar 3) (aCons (eC (.str [97, 98, 97, 98])) (aCons (eC (.int 2)) (aNil))))) (aCons (eCall m_relay_words (aCons (eVar 3) (aCons (eC (.str [97, 98, 97, 98])) (aCons (eC (.int 1)) (aNil))))) (aNil))))))))) (sSeq (sIf (tNot (tV (eCall (m__law_same 6) (aCons (eVar 4) (aCons (eTup (aCons (eTup (aCons (eC (.int 0)) (aNil))) (aCons (eTup (aCons (eC (.int 3)) (aNil))) (aCons (eTup (aCons (eC (.int 0)) (aCons (eC (.int 2)) (aNil)))) (aCons (eTup (aCons (eC (.int 0)) (aNil))) (aCons (eTup (aCons (eC (.str [97, 98])) (aCons (eC (.str [97, 98])) (aNil)))) (aCons (eC .non) (aNil)))))))) (aNil)))))) (sRet (eC (.bl false))) (sNil)) (sSeq (sSet (.f) n [] 4 (eTup (aCons (eCall m_relay_belt (aCons (eVar 3) (aCons (eTup (aCons (eC (.str [98, 97])) (aCons (eC (.str [97, 98])) (aNil)))) (aNil)))) (aCons (eCall m_relay_verdict (aCons (eVar 3) (aCons (eC (.str [97, 98, 97, 98])) (aNil)))) (aCons (eCall m_relay_verdict (aCons (eVar 2) (aCons (eC (.str [97, 97, 98, 98, 97, 97])) (aNil)))) (aCons (eCall m_turned_relay (aCons (eVar 2) (aCons (eC (.int 1)) (aNil)))) (aCons (eCall m_relay_list (aCons (eVar 2) (aNil))) (aCons (eCall m_relay_list (aCons (eVar 3) (aNil))) (aCons (eCall m_count_relay_rows (aCons (eVar 3) (aCons (eC (.int 3)) (aNil)))) (aNil)))))))))) (sSeq (sIf (tNot (tV (eCall (m__law_same 6) (aCons (eVar 4) (aCons (eTup (aCons (eC (.str [98, 97, 97, 98])) (aCons (eC (.str [115, 101, 118, 101, 114, 97, 108])) (aCons (eC (.str [110, 111, 110, 101])) (aCons (eTup (aCons (eTup (aCons (eC (.int 2)) (aCons (eTup (aCons (eC (.str [98, 98])) (aNil))) (aNil)))) (aCons (eTup (aCons (eC (.int 2)) (aCons (eTup (aCons (eC (.str [97, 97])) (aNil))) (aNil)))) (aNil)))) (aCons (eTup (aCons (eC (.int 2)) (aCons (eTup (aCons (eC (.str [97, 97, 98, 98])) (aNil))) (aNil)))) (aCons (eTup (aCons (eC (.int 2)) (aCons (eTup (aCons (eC (.str [97, 98, 97, 98])) (aCons (eC (.str [98, 97, 97, 98])) (aNil)))) (aNil)))) (aCons (eC (.int 8)) (aNil))))))))) (aNil)))))) (sRet (eC (.bl false))) (sNil)) (sSeq (sFor (iAnyF (eTup (aCons (eTup (aCons (eC (.int 1)) (aCons (eC (.int 2)) (aCons (eC (.int 3)) (aCons (eC (.int 3)) (aCons (eC (.int 4)) (aNil))))))) (aCons (eTup (aCons (eC (.int 2)) (aCons (eC (.int 2)) (aCons (eC (.int 2)) (aCons (eC (.int 3)) (aCons (eC (.int 3)) (aNil))))))) (aCons (eTup (aCons (eC (.int 2)) (aCons (eC (.int 3)) (aCons (eC (.int 3)) (aCons (eC (.int 3)) (aCons (eC (.int 4)) (aNil))))))) (aCons (eTup (aCons (eC (.int 3)) (aCons (eC (.int 2)) (aCons (eC (.int 2)) (aCons (eC (.int 2)) (aCons (eC (.int 3)) (aNil))))))) (aCons (eTup (aCons (eC (.int 4)) (aCons (eC (.int 2)) (aCons (eC (.int 4)) (aCons (eC (.int 2)) (aCons (eC (.int 2)) (aNil))))))) (aNil)))))))) (.t [5, 6, 7, 8, 9]) n ([] ++ []) (sIf (tNot (tV (eCall m__law_right (aCons (eVar 1) (aCons (eVar 5) (aCons (eVar 6) (aCons (eVar 7) (aCons (eVar 8) (aCons (eVar 9) (aNil)))))))))) (sRet (eC (.bl false))) (sNil))) (sRet (eC (.bl true)))))))))
def m_law : Fc := callF 10 1 b_law

end K81

namespace K81
open PySem PySem.Spec PyProof.Rows L2 Eng
section
variable {st : Sto}
theorem is_whole_i (i lo hi : Int) : m_is_whole [.v (.int i), .v (.int lo), .v (.int hi)] st = .ok (.v (.bl (decide (lo ≤ i) && decide (i ≤ hi)))) st := by
  refine call_v ?_
  by_cases h : lo ≤ i <;> simp [b_is_whole, h]
theorem is_whole_s (s : List Nat) (lo hi : Int) : m_is_whole [.v (.str s), .v (.int lo), .v (.int hi)] st = .ok (.v (.bl false)) st := by
  refine call_v ?_
  simp [b_is_whole]
theorem is_tup_t (xs : List Val) (lo hi : Int) : m_is_tuple_of [.v (.tup xs), .v (.int lo), .v (.int hi)] st = .ok (.v (.bl (decide (lo ≤ xs.length) && decide ((xs.length : Int) ≤ hi)))) st := by
  refine call_v ?_
  by_cases h : lo ≤ xs.length <;> simp [b_is_tuple_of, h]
theorem is_tup_n {x : Val} (lo hi : Int) (h : isiV x "tuple" = some false) : m_is_tuple_of [.v x, .v (.int lo), .v (.int hi)] st = .ok (.v (.bl false)) st := by
  refine call_v ?_
  simp [b_is_tuple_of, h]
def okL (L : Nat) (l : List Nat) : Bool := l.all fun c => decide (c ∈ [97, 98, 99, 100].take L)
theorem cut_abcd (L : Nat) : cutL [97, 98, 99, 100] none (some (L : Int)) = [97, 98, 99, 100].take L := by
  unfold cutL
  rw [HT.sIx_none, HT.sIx_nat]
  simp only [List.drop_zero, Nat.sub_zero, List.length_cons, List.length_nil]
  by_cases h : L ≤ 4
  · rw [Nat.min_eq_left h]
  · rw [Nat.min_eq_right (by omega), List.take_of_length_le (by simp), List.take_of_length_le (by simp; omega)]
theorem fits_row_s (L : Nat) (l : List Nat) (lo hi : Int) (hl : l.length ≤ 1000000) (h1 : lo ≤ l.length) (h2 : (l.length : Int) ≤ hi) : m_fits_row [.v (.int L), .v (.str l), .v (.int lo), .v (.int hi)] st = .ok (.v (.bl (okL L l))) st := by
  refine call_v ?_
  refine stF ?_ (ret_v ?_)
  · simp [h1, h2]
  · refine (all_comp (fun x => match x with | .str [c] => decide (c ∈ [97, 98, 99, 100].take L) | _ => false) (any_str (s := l) (by simp)) (by simpa using hl) fun x hx => ?_).trans ?_
    · obtain ⟨c, hc, rfl⟩ := List.mem_map.mp hx
      exact ⟨_, rfl, by simp [cut_abcd]⟩
    · unfold okL; simp [List.all_map, Function.comp_def]
theorem cut1 {α : Type} (xs : List α) : cutL xs (some 1) none = xs.drop 1 := by
  unfold cutL
  rw [show HT.sIx xs.length 0 (some 1) = min 1 xs.length from HT.sIx_nat xs.length 0 1, HT.sIx_none]
  cases xs with
  | nil => rfl
  | cons x r => simp
def strP : Val → Bool
  | .tup [.str a, .str b] => decide (a < b)
  | _ => false
theorem is_rising_s {rows : List (List Nat)} (h : rows.Pairwise (· < ·)) (hl : rows.length ≤ 1000) : m_is_rising [.v (.tup (rows.map .str))] st = .ok (.v (.bl true)) st := by
  refine call_v (ret_v ?_)
  have hz : ∀ z ∈ zipV (rows.map Val.str) ((rows.map Val.str).drop 1), ∃ a b, z = .tup [.str a, .str b] ∧ a < b := fun z hz => by
    obtain ⟨i, hi, e⟩ := List.mem_iff_getElem.mp hz
    obtain ⟨x, y, h1, h2, rfl⟩ := zipV_get (i := i) (by rw [List.getElem?_eq_getElem hi, e])
    rw [List.getElem?_drop, List.getElem?_map] at h2
    rw [List.getElem?_map] at h1
    cases e1 : rows[i]? with
    | none => rw [e1] at h1; cases h1
    | some a =>
      cases e2 : rows[1 + i]? with
      | none => rw [e2] at h2; cases h2
      | some b =>
        rw [e1] at h1; rw [e2] at h2
        cases h1; cases h2
        obtain ⟨p1, q1⟩ := List.getElem?_eq_some_iff.mp e1
        obtain ⟨p2, q2⟩ := List.getElem?_eq_some_iff.mp e2
        exact ⟨a, b, rfl, by rw [← q1, ← q2]; exact List.pairwise_iff_getElem.mp h i (1 + i) p1 p2 (by omega)⟩
  refine (all_comp strP (xs := zipV (rows.map Val.str) ((rows.map Val.str).drop 1)) ?_ ?_ fun z hm => ?_).trans ?_
  · simp [iZipF, zipK, cut1]
  · rw [zipV_len]; simp; omega
  · obtain ⟨a, b, rfl, _⟩ := hz z hm
    exact ⟨_, rfl, by simp [strP]⟩
  · rw [List.all_eq_true.mpr fun z hm => ?_]
    obtain ⟨a, b, rfl, hab⟩ := hz z hm
    simp [strP, hab]
/-- a list's value -/
def lw (L : Nat) (rows : List (List Nat)) : Val := .tup [.int L, .tup (rows.map .str)]
structure Good (L len : Nat) (rows : List (List Nat)) : Prop where
  l1 : 1 ≤ L
  l4 : L ≤ 4
  n2 : 2 ≤ len
  n4 : len ≤ 4
  ne : rows ≠ []
  r40 : rows.length ≤ 40
  len : ∀ r ∈ rows, r.length = len
  ok : ∀ r ∈ rows, okL L r = true
  up : rows.Pairwise (· < ·)
theorem at0 {α : Type} (x : α) (xs : List α) : atI (x :: xs) 0 = some x := atI_nat (j := 0) rfl
theorem at1 {α : Type} (x y : α) (xs : List α) : atI (x :: y :: xs) 1 = some y := atI_nat (j := 1) rfl
theorem fits_list_s {L len : Nat} {rows : List (List Nat)} (g : Good L len rows) : m_fits_list [.v (lw L rows)] st = .ok (.v (.bl true)) st := by
  have h1 : (1 : Int) ≤ L := by have := g.l1; omega
  have h4 : (L : Int) ≤ 4 := by have := g.l4; omega
  have hr1 : (1 : Int) ≤ rows.length := by have := List.length_pos_iff.mpr g.ne; omega
  have hr40 : (rows.length : Int) ≤ 40 := by have := g.r40; omega
  have hm : rows.length ≤ 1000000 := by have := g.r40; omega
  obtain ⟨r0, rs, e⟩ : ∃ r0 rs, rows = r0 :: rs := by
    cases rows with
    | nil => exact absurd rfl g.ne
    | cons a b => exact ⟨a, b, rfl⟩
  have hl0 : r0.length = len := g.len r0 (by rw [e]; simp)
  refine call_v ?_
  refine stF ?_ (stF ?_ (ret_v ?_))
  · simp [lw, is_tup_t, is_whole_i, at0, at1, h1, h4, hr1, hr40]
  · refine tn_v (b := true) ((all_comp (fun _ => true) (any_tup (xs := rows.map .str) (by simp [lw, at1])) (by simpa using hm) fun x hx => ?_).trans (by simp))
    obtain ⟨r, hr, rfl⟩ := List.mem_map.mp hx
    have e1 := g.len r hr
    have e2 := g.n2
    have e3 := g.n4
    refine ⟨_, rfl, ?_⟩
    simp [lw, at0, fits_row_s L r 2 4 (by omega) (by omega) (by omega), g.ok r hr]
  · refine ea_t (st1 := st) ((all_comp (fun _ => true) (any_tup (xs := rows.map .str) (by simp [lw, at1])) (by simpa using hm) fun x hx => ?_).trans (by simp)) ?_
    · obtain ⟨r, hr, rfl⟩ := List.mem_map.mp hx
      have e1 := g.len r hr
      refine ⟨_, rfl, ?_⟩
      simp [lw, e, at0, at1, okD, eqB, e1, hl0]
    · simp [lw, at1, is_rising_s g.up (by have := g.r40; omega)]
theorem length_in_s {L len : Nat} {rows : List (List Nat)} (g : Good L len rows) : m_length_in [.v (lw L rows)] st = .ok (.v (.int len)) st := by
  obtain ⟨r0, rs, e⟩ : ∃ r0 rs, rows = r0 :: rs := by
    cases rows with
    | nil => exact absurd rfl g.ne
    | cons a b => exact ⟨a, b, rfl⟩
  have hl0 : r0.length = len := g.len r0 (by rw [e]; simp)
  refine call_v (ret_v ?_)
  simp [lw, e, at0, at1, hl0]
/-- a relay -/
structure GR (L len : Nat) (R : List (List (List Nat))) : Prop where
  n1 : R ≠ []
  n4 : R.length ≤ 4
  all : ∀ rows ∈ R, Good L len rows
def rV (L : Nat) (R : List (List (List Nat))) : Val := .tup (R.map (lw L))
theorem GR.head {L len : Nat} {R : List (List (List Nat))} (g : GR L len R) : ∃ r0 rs, R = r0 :: rs ∧ Good L len r0 := by
  cases R with
  | nil => exact absurd rfl g.n1
  | cons a b => exact ⟨a, b, rfl, g.all a (by simp)⟩
theorem fits_relay_s {L len : Nat} {R : List (List (List Nat))} (g : GR L len R) : m_fits_relay [.v (rV L R)] st = .ok (.v (.bl true)) st := by
  obtain ⟨r0, rs, e, g0⟩ := g.head
  have h1 : (1 : Int) ≤ R.length := by rw [e]; simp; omega
  have h4 : (R.length : Int) ≤ 4 := by have := g.n4; omega
  have hm : (R.map (lw L)).length ≤ 1000000 := by have := g.n4; simp; omega
  have key : eB vAll (aCons (eComp (iAnyF (eVar 0)) (.n 1) tYesF (eCall m_fits_list (aCons (eVar 1) aNil)) [1]) aNil) [some (.v (rV L R)), none] st = .ok (.v (.bl true)) st := by
    refine (all_comp (fun _ => true) (any_tup (xs := R.map (lw L)) rfl) hm fun x hx => ?_).trans (by simp)
    obtain ⟨r, hr, rfl⟩ := List.mem_map.mp hx
    exact ⟨_, rfl, ec_1 rfl (fits_list_s (g.all r hr))⟩
  refine call_v (stF ?_ (ret_v ?_))
  · have t1 : Eng.tNot (tV (eCall m_is_tuple_of (aCons (eVar 0) (aCons (eC (.int 1)) (aCons (eC (.int 4)) aNil))))) [some (.v (rV L R)), none] st = .ok false st := by
      simp [rV, is_tup_t, h1, h4]
    show Eng.tOr _ _ [some (.v (rV L R)), none] st = _
    rw [s_tOr, t1]
    exact tn_v (b := true) key
  · refine (all_comp (fun _ => true) (any_tup (xs := R.map (lw L)) rfl) hm fun x hx => ?_).trans (by simp)
    obtain ⟨r, hr, rfl⟩ := List.mem_map.mp hx
    refine ⟨_, rfl, ?_⟩
    have i1 : ∀ r : List (List Nat), vIx (lw L r) (.int 0) = some (.v (.int L)) := fun r => by simp [lw, at0]
    have i2 : vIx (rV L R) (.int 0) = some (.v (lw L r0)) := by simp [rV, e, at0]
    simp [i1, i2, okD, eqB, length_in_s (g.all r hr), length_in_s g0]
theorem need_relay_s {L len : Nat} {R : List (List (List Nat))} (g : GR L len R) : m_need_relay [.v (rV L R)] st = .ok (.v .non) st := by
  refine call_nx (env := [some (.v (rV L R))]) ((if_f (st1 := st) ?_).trans rfl)
  exact tn_v (b := true) (ec_1 rfl (fits_relay_s g))
theorem fits_belt_s (L : Nat) (b : List Nat) (h1 : 1 ≤ b.length) (h2 : b.length ≤ 24) : m_fits_belt [.v (.int L), .v (.str b)] st = .ok (.v (.bl (okL L b))) st := by
  refine call_v (ret_v ?_)
  simp [fits_row_s L b 1 24 (by omega) (by omega) (by omega)]
theorem need_belt_s {L len : Nat} {R : List (List (List Nat))} (g : GR L len R) (b : List Nat) (h1 : 1 ≤ b.length) (h2 : b.length ≤ 24) (hb : okL L b = true) : m_need_belt [.v (rV L R), .v (.str b)] st = .ok (.v .non) st := by
  obtain ⟨r0, rs, e, g0⟩ := g.head
  refine call_nx (env := [some (.v (rV L R)), some (.v (.str b))]) (stE (z := .v .non) (ec_1 rfl (need_relay_s g)) ((if_f (st1 := st) ?_).trans rfl))
  refine tn_v (b := true) ?_
  have i2 : vIx (rV L R) (.int 0) = some (.v (lw L r0)) := by simp [rV, e, at0]
  have i1 : vIx (lw L r0) (.int 0) = some (.v (.int L)) := by simp [lw, at0]
  show eCall m_fits_belt _ [some (.v (rV L R)), some (.v (.str b))] st = _
  simp [i1, i2, fits_belt_s L b h1 h2, hb]
/-! pieces -/
def rot {α : Type} (b : List α) (f : Nat) : List α := b.drop f ++ b.take f
def pcs (len : Nat) (b : List Nat) : List (List Nat) := (List.range (rngLen 0 b.length len)).map fun k => (b.drop (k * len)).take len
theorem cutD {α : Type} (xs : List α) (f : Nat) : cutL xs (some (f : Int)) none = xs.drop f := by
  unfold cutL
  rw [HT.sIx_nat, HT.sIx_none]
  by_cases h : f ≤ xs.length
  · rw [Nat.min_eq_left h, List.take_of_length_le (by simp)]
  · rw [Nat.min_eq_right (by omega), List.drop_of_length_le (by omega), List.drop_of_length_le (by omega)]; simp
theorem cutT {α : Type} (xs : List α) (f : Nat) : cutL xs none (some (f : Int)) = xs.take f := by
  unfold cutL
  rw [HT.sIx_nat, HT.sIx_none]
  simp only [List.drop_zero, Nat.sub_zero]
  by_cases h : f ≤ xs.length
  · rw [Nat.min_eq_left h]
  · rw [Nat.min_eq_right (by omega), List.take_of_length_le (by omega), List.take_of_length_le (by omega)]
theorem cutM {α : Type} (xs : List α) (f n : Nat) : cutL xs (some (f : Int)) (some ((f : Int) + (n : Int))) = (xs.drop f).take n := by
  rw [show (f : Int) + (n : Int) = ((f + n : Nat) : Int) by omega]
  unfold cutL
  rw [HT.sIx_nat, HT.sIx_nat]
  by_cases h : f ≤ xs.length
  · rw [Nat.min_eq_left h]
    by_cases h2 : f + n ≤ xs.length
    · rw [Nat.min_eq_left h2, Nat.add_sub_cancel_left]
    · rw [Nat.min_eq_right (by omega), List.take_of_length_le (by simp), List.take_of_length_le (by simp; omega)]
  · rw [show min f xs.length = xs.length by omega, List.drop_of_length_le (Nat.le_refl _), List.drop_of_length_le (by omega)]; simp
theorem okL_lt {L : Nat} {b : List Nat} (h : okL L b = true) : ∀ c ∈ b, c < 1114112 := fun c hc => by
  unfold okL at h
  have := List.all_eq_true.mp h c hc
  have := List.mem_of_mem_take (of_decide_eq_true this)
  simp at this
  omega
theorem sok_of {l : List Nat} (h : ∀ c ∈ l, c < 1114112) (hl : l.length ≤ 1000000) : SOk l = true := by
  unfold SOk
  simp only [Bool.and_eq_true, List.all_eq_true, decide_eq_true_eq]
  exact ⟨hl, fun c hc => h c hc⟩
theorem pieces_s {L len : Nat} {R : List (List (List Nat))} (g : GR L len R) (b : List Nat) (h2 : b.length ≤ 24) (hb : okL L b = true) (f : Nat) : m_pieces_in [.v (rV L R), .v (.str b), .v (.int f)] st = .ok (.v (.tup ((pcs len (rot b f)).map .str))) st := by
  obtain ⟨r0, rs, e, g0⟩ := g.head
  have i2 : vIx (rV L R) (.int 0) = some (.v (lw L r0)) := by simp [rV, e, at0]
  have n2 := g0.n2
  have n4 := g0.n4
  have hr : (rot b f).length ≤ 24 := by unfold rot; simp; omega
  have so : SOk (rot b f) = true := sok_of (fun c hc => okL_lt hb c (by unfold rot at hc; rcases List.mem_append.mp hc with h | h; exact List.mem_of_mem_drop h; exact List.mem_of_mem_take h)) (by omega)
  have hn : rngLen 0 (rot b f).length len ≤ 24 := by
    unfold rngLen
    split
    · have h3 : (((rot b f).length : Int) - 0 - 1) / (len : Int) ≤ 23 := Int.le_trans (Int.ediv_le_self _ (by omega)) (by omega)
      omega
    · omega
  refine call_v ((seq_nx (env1 := [some (.v (rV L R)), some (.v (.str b)), some (.v (.int f)), some (.v (.str (rot b f))), some (.v (.int len)), none]) (st1 := st) ?_).trans (ret_v ?_))
  · have so2 : SOk (b.drop f ++ b.take f) = true := so
    simp [bCons, i2, length_in_s g0, cutD, cutT, so2, rot]
  · rw [s_eB, s_aCons, comp_all (xs := rngC 0 len (rngLen 0 (rot b f).length len)) (onI fun i => .str (cutL (rot b f) (some i) (some (i + len)))) ?_ ?_ fun x hx => ?_]
    · simp only [s_bind_ok, s_aNil, s_froz_fl, s_valsOf, s_val_v, s_valsOf0, Option.bind_some, s_tupL, s_outO]
      have e5 : (rngC 0 len (rngLen 0 (rot b f).length len)).map (onI fun i => .str (cutL (rot b f) (some i) (some (i + len)))) = (pcs len (rot b f)).map .str := by
        unfold pcs rngC
        rw [List.map_map, List.map_map]
        refine List.map_congr_left fun k _ => ?_
        have := cutM (rot b f) (k * len) len
        simp only [Function.comp, onI_int]
        rw [show (0 : Int) + (k : Int) * (len : Int) = ((k * len : Nat) : Int) by simp, this]
      rw [e5]
    · simp [iRng3F, small]
      omega
    · simp [rngC]; omega
    · obtain ⟨k, hk, rfl⟩ := List.mem_map.mp hx
      exact ⟨_, rfl, .v (.str (cutL (rot b f) (some (0 + (k : Int) * len)) (some (0 + (k : Int) * len + len)))), by simp, rfl⟩
/-! in turn -/
def inTurn (R : List (List (List Nat))) : Nat → List (List Nat) → Bool
  | _, [] => true
  | k, p :: ps => decide (p ∈ R.getD (k % R.length) []) && inTurn R (k + 1) ps
def turnP (R : List (List (List Nat))) : Val → Bool
  | .tup [.int i, .str p] => decide (p ∈ R.getD (i.toNat % R.length) [])
  | _ => false
theorem enum_turn (R : List (List (List Nat))) : ∀ (ps : List (List Nat)) (k : Nat), (enumV k (ps.map .str)).all (turnP R) = inTurn R k ps
  | [], _ => rfl
  | p :: ps, k => by simp [enumV, inTurn, turnP, enum_turn R ps (k + 1)]
theorem in_str (p : List Nat) (rows : List (List Nat)) : inB (.str p) (.tup (rows.map .str)) = some (decide (p ∈ rows)) := by
  rw [s_inT, if_pos (by simp [flatA])]
  congr 1
  rw [Bool.eq_iff_iff]
  simp [eqB]
theorem at_mod {L : Nat} {R : List (List (List Nat))} (h : R ≠ []) (k : Nat) : vIx (rV L R) (.int ((k : Int) % (R.length : Int))) = some (.v (lw L (R.getD (k % R.length) []))) := by
  have hp : 0 < R.length := List.length_pos_iff.mpr h
  have hl : k % R.length < R.length := Nat.mod_lt _ hp
  rw [show (k : Int) % (R.length : Int) = ((k % R.length : Nat) : Int) by omega]
  show ((atI (R.map (lw L)) ((k % R.length : Nat) : Int)).map SV.v) = _
  rw [atI_nat (v := lw L (R.getD (k % R.length) []))]
  · rfl
  · rw [List.getElem?_map, List.getD_eq_getElem?_getD, List.getElem?_eq_getElem hl]; rfl
theorem are_in_turn_s {L len : Nat} {R : List (List (List Nat))} (g : GR L len R) (ps : List (List Nat)) (hl : ps.length ≤ 1000) : m_are_in_turn [.v (rV L R), .v (.tup (ps.map .str))] st = .ok (.v (.bl (inTurn R 0 ps))) st := by
  have hp : 0 < R.length := List.length_pos_iff.mpr g.n1
  refine call_v (ret_v ?_)
  refine (all_comp (turnP R) (xs := enumV 0 (ps.map .str)) (by simp [iEnumF, enumK]) (by rw [enumV_len]; simp; omega) fun x hx => ?_).trans (by rw [enum_turn])
  obtain ⟨i, hi, e⟩ := List.mem_iff_getElem.mp hx
  have e1 : (enumV 0 (ps.map .str))[i]? = some x := by rw [List.getElem?_eq_getElem hi, e]
  rw [enumV_get, List.getElem?_map] at e1
  cases h1 : ps[i]? with
  | none => rw [h1] at e1; cases e1
  | some p =>
    rw [h1] at e1
    cases e1
    have hm : (0 : Int) < R.length := by omega
    have e2 : vLen [rV L R] = some (.v (.int R.length)) := by simp [rV]
    have e3 : ∀ r : List (List Nat), vIx (lw L r) (.int 1) = some (.v (.tup (r.map .str))) := fun r => by simp [lw, at1]
    exact ⟨_, rfl, by simp [e2, hp, at_mod g.n1, e3, in_str, turnP]⟩
def cuts (R : List (List (List Nat))) (len : Nat) (b : List Nat) : List Nat := if b.length % (R.length * len) ≠ 0 then [] else (List.range (R.length * len)).filter fun f => inTurn R 0 (pcs len (rot b f))
def iv (xs : List Nat) : List Val := xs.map fun k : Nat => Val.int k
theorem rng_len {n len : Nat} (h : n ≤ 24) : rngLen 0 n len ≤ 24 := by
  unfold rngLen
  split
  · have h3 : ((n : Int) - 0 - 1) / (len : Int) ≤ 23 := Int.le_trans (Int.ediv_le_self _ (by omega)) (by omega)
    omega
  · omega
theorem pcs_len (len : Nat) {b : List Nat} (h : b.length ≤ 24) : (pcs len b).length ≤ 24 := by unfold pcs; rw [List.length_map, List.length_range]; exact rng_len h
theorem rot_len {α : Type} (b : List α) (f : Nat) : (rot b f).length = b.length := by unfold rot; simp; omega
theorem whole_s {L len : Nat} {R : List (List (List Nat))} (g : GR L len R) : 0 < R.length * len ∧ R.length * len ≤ 16 ∧ mulOk (R.length : Int) = true := by
  obtain ⟨r0, rs, e, g0⟩ := g.head
  have hp : 0 < R.length := List.length_pos_iff.mpr g.n1
  have n2 := g0.n2
  have m4 := g.n4
  refine ⟨Nat.mul_pos hp (by omega), Nat.mul_le_mul m4 g0.n4, ?_⟩
  unfold mulOk
  simp
  omega
theorem len_rV (L : Nat) (R : List (List (List Nat))) : vLen [rV L R] = some (.v (.int R.length)) := by simp [rV]
theorem ix_rV {L len : Nat} {R : List (List (List Nat))} (g : GR L len R) : ∃ r0, vIx (rV L R) (.int 0) = some (.v (lw L r0)) ∧ Good L len r0 := by
  obtain ⟨r0, rs, e, g0⟩ := g.head
  exact ⟨r0, by simp [rV, e, at0], g0⟩
theorem cuttings_in_s {L len : Nat} {R : List (List (List Nat))} (g : GR L len R) (b : List Nat) (h2 : b.length ≤ 24) (hb : okL L b = true) : m_cuttings_in [.v (rV L R), .v (.str b)] st = .ok (.fl (iv (cuts R len b))) st := by
  obtain ⟨r0, i2, g0⟩ := ix_rV g
  obtain ⟨hw, hw2, hml⟩ := whole_s g
  obtain ⟨wh, hwh⟩ : ∃ wh, wh = R.length * len := ⟨_, rfl⟩
  rw [← hwh] at hw hw2
  have hwi : (R.length : Int) * (len : Int) = (wh : Int) := by rw [hwh]; simp
  refine call_fl (stV (x := .int (wh : Int)) ?_ ?_)
  · exact hwi ▸ e2_ok (x := .int R.length) (y := .int len) (by simp [len_rV]) (by simp [i2, length_in_s g0]) (mul_ok hml)
  · by_cases hc : b.length % wh = 0
    · have hc2 : (b.length : Int) % (wh : Int) = 0 := by omega
      have e5 : ((rngI 0 wh).filter (onIb fun i => inTurn R 0 (pcs len (rot b i.toNat)))).map id = iv (cuts R len b) := by
        unfold iv cuts rngI
        rw [← hwh, if_neg (by simp [hc]), List.filter_map, List.map_map]
        simp [Function.comp_def]
      refine stF ?_ (ret_v ?_)
      · simp [hc2, okD, eqB, hw]
      · rw [comp_map (xs := rngI 0 wh) (onIb fun i => inTurn R 0 (pcs len (rot b i.toNat))) id ?_ ?_ fun x hx => ?_, e5]
        · simp [iRng1F, small]
          omega
        · simp [rngI]; omega
        · obtain ⟨k, hk, rfl⟩ := List.mem_map.mp hx
          refine ⟨_, rfl, ?_, fun _ => ⟨.v (.int (0 + k)), by simp, rfl⟩⟩
          have hps : (pcs len (rot b k)).length ≤ 1000 := by
            have := pcs_len len (b := rot b k) (by rw [rot_len]; exact h2)
            omega
          simp [pieces_s g b h2 hb k, are_in_turn_s g _ hps]
    · have hc2 : ¬ (b.length : Int) % (wh : Int) = 0 := by omega
      have e5 : cuts R len b = [] := by unfold cuts; rw [← hwh, if_pos hc]
      rw [e5]
      refine stT ?_ (ret_v ?_)
      · simp [hc2, okD, eqB, hw]
      · simp [iv]
/-! the program's own answers -/
theorem relay_cuttings_s {L len : Nat} {R : List (List (List Nat))} (g : GR L len R) (b : List Nat) (h1 : 1 ≤ b.length) (h2 : b.length ≤ 24) (hb : okL L b = true) : m_relay_cuttings [.v (rV L R), .v (.str b)] st = .ok (.v (.tup (iv (cuts R len b)))) st := by
  refine call_v (stE (z := .v .non) ?_ (ret_v ?_))
  · simp [need_belt_s g b h1 h2 hb]
  · simp [cuttings_in_s g b h2 hb]
def verdict (n : Nat) : List Nat := if n = 0 then [110, 111, 110, 101] else if n = 1 then [111, 110, 101] else [115, 101, 118, 101, 114, 97, 108]
theorem relay_verdict_s {L len : Nat} {R : List (List (List Nat))} (g : GR L len R) (b : List Nat) (h1 : 1 ≤ b.length) (h2 : b.length ≤ 24) (hb : okL L b = true) : m_relay_verdict [.v (rV L R), .v (.str b)] st = .ok (.v (.str (verdict (cuts R len b).length))) st := by
  refine call_v (stE (z := .v .non) ?_ (stV (x := .int (cuts R len b).length) ?_ (ret_v ?_)))
  · simp [need_belt_s g b h1 h2 hb]
  · simp [cuttings_in_s g b h2 hb, iv]
  · generalize (cuts R len b).length = n
    unfold verdict
    by_cases e1 : n = 0
    · simp [okD, eqB, e1]
    · by_cases e2 : n = 1
      · simp [okD, eqB, e2]
      · have e3 : ¬ (n : Int) = 1 := by omega
        simp [okD, eqB, e1, e2, e3]
theorem in_iv (k : Nat) (xs : List Nat) : inB (.int k) (.lst (iv xs)) = some (decide (k ∈ xs)) := by
  have h : ∀ xs : List Nat, okDs (iv xs) 31 = true := fun xs => by
    induction xs with
    | nil => rfl
    | cons a r ih => simpa [iv, okDs, okD] using ih
  have h2 : okD (.lst (iv xs)) 32 = true := by simpa [okD] using h xs
  show (if (okD (.int k) 32 && okD (.lst (iv xs)) 32) = true then some ((iv xs).any fun y => eqB y (.int k)) else none) = _
  rw [if_pos (by rw [h2]; rfl)]
  congr 1
  rw [Bool.eq_iff_iff]
  simp [iv, eqB]
  constructor
  · intro ⟨a, ha, e⟩; have : a = k := by omega
    exact this ▸ ha
  · intro h; exact ⟨k, h, rfl⟩
theorem relay_words_s {L len : Nat} {R : List (List (List Nat))} (g : GR L len R) (b : List Nat) (h1 : 1 ≤ b.length) (h2 : b.length ≤ 24) (hb : okL L b = true) (f : Nat) (hf : f < R.length * len) :
    m_relay_words [.v (rV L R), .v (.str b), .v (.int f)] st = .ok (.v (if f ∈ cuts R len b then .tup ((pcs len (rot b f)).map .str) else .non)) st := by
  obtain ⟨r0, i2, g0⟩ := ix_rV g
  obtain ⟨hw, hw2, hml⟩ := whole_s g
  obtain ⟨wh, hwh⟩ : ∃ wh, wh = R.length * len := ⟨_, rfl⟩
  rw [← hwh] at hw hw2 hf
  have hwi : (R.length : Int) * (len : Int) = (wh : Int) := by rw [hwh]; simp
  have hf2 : (f : Int) ≤ (wh : Int) - 1 := by omega
  refine call_v (stE (z := .v .non) ?_ (stF ?_ (ret_v ?_)))
  · simp [need_belt_s g b h1 h2 hb]
  · have h1 : e2 vMul (eB vLen (aCons (eVar 0) aNil)) (eCall m_length_in (aCons (e2 vIx (eVar 0) (eC (.int 0))) aNil)) [some (.v (rV L R)), some (.v (.str b)), some (.v (.int f))] st = .ok (.v (.int wh)) st :=
      hwi ▸ e2_ok (x := .int R.length) (y := .int len) (by simp [len_rV]) (by simp [i2, length_in_s g0]) (mul_ok hml)
    have h3 := e2_ok (o := vSub) (fb := eC (.int 1)) h1 rfl rfl
    refine tn_v (b := true) ?_
    refine ec_ok (ar_c (z1 := .v (.int f)) rfl (ar_c (z1 := .v (.int 0)) rfl (ar_1 h3))) ((is_whole_i _ _ _).trans ?_)
    simp [hf2]
  · have e1 : tV (e2 vIn (eVar 2) (eCall m_cuttings_in (aCons (eVar 0) (aCons (eVar 1) aNil)))) [some (.v (rV L R)), some (.v (.str b)), some (.v (.int f))] st = .ok (decide (f ∈ cuts R len b)) st := by
      simp [cuttings_in_s g b h2 hb, in_iv]
    show eIf _ _ _ [some (.v (rV L R)), some (.v (.str b)), some (.v (.int f))] st = _
    rw [s_eIf, e1]
    by_cases hm : f ∈ cuts R len b
    · simp [hm, pieces_s g b h2 hb f]
    · simp [hm]
end
end K81

namespace K81
open PySem PySem.Spec PyProof.Rows L2 Eng
section
variable {st : Sto}
/-! _law_same -/
mutual
def pd : Val → Nat → Bool
  | .non, k => decide (0 < k)
  | .bl _, k => decide (0 < k)
  | .int _, k => decide (0 < k)
  | .str _, k => decide (0 < k)
  | .tup xs, k => match k with
    | 0 => false
    | k + 1 => decide (xs.length ≤ 1000000) && pds xs k
  | .lst _, _ => false
  | .dic _ _, _ => false
  | .glb _, _ => false
  | .ty _, _ => false
  | .seq _, _ => false
  | .exn _ _, _ => false
def pds : List Val → Nat → Bool
  | [], _ => true
  | x :: xs, k => pd x k && pds xs k
end
theorem pds_get : ∀ {xs : List Val} {k i : Nat} {x : Val}, pds xs k = true → xs[i]? = some x → pd x k = true
  | [], _, _, _, _, e => by simp at e
  | y :: ys, k, 0, x, h, e => by
    simp only [pds, Bool.and_eq_true] at h
    simp at e
    exact e ▸ h.1
  | y :: ys, k, i + 1, x, h, e => by
    simp only [pds, Bool.and_eq_true] at h
    exact pds_get h.2 (by simpa using e)
theorem same_s : ∀ (k : Nat) (x : Val), pd x k = true → m__law_same k [.v x, .v x] st = .ok (.v (.bl true)) st
  | 0, x, h => by cases x <;> simp [pd] at h
  | k + 1, .non, h => by
    refine call_v (stF (by simp) (stT (by simp) (ret_v (by simp))))
  | k + 1, .bl b, h => by
    refine call_v (stF (by simp) (stF (by simp) (stT (by simp) (ret_v (by cases b <;> simp)))))
  | k + 1, .int i, h => by
    refine call_v (stF (by simp) (stF (by simp) (stF (by simp) (stT (by simp) (ret_v (by simp [okD, eqB]))))))
  | k + 1, .str s, h => by
    refine call_v (stF (by simp) (stF (by simp) (stF (by simp) (stF (by simp) (ret_v (by simp [okD, eqB]))))))
  | k + 1, .tup xs, h => by
    have h2 : xs.length ≤ 1000000 ∧ pds xs k = true := by simpa [pd] using h
    refine call_v (stT (by simp) (stF (by simp [okD, eqB]) (ret_v ?_)))
    refine (all_comp (fun _ => true) (xs := rngI 0 xs.length) ?_ ?_ fun x hx => ?_).trans (by simp)
    · simp [iRng1F, small]; omega
    · simp [rngI]; omega
    · obtain ⟨j, hj, rfl⟩ := List.mem_map.mp hx
      have hj2 : j < xs.length := by simpa using hj
      have e : atI xs (0 + (j : Int)) = some xs[j] := by
        rw [Int.zero_add]
        exact atI_nat (List.getElem?_eq_getElem hj2)
      refine ⟨_, rfl, ?_⟩
      refine ec_ok (ar_c (z1 := .v xs[j]) ?_ (ar_1 (z1 := .v xs[j]) ?_)) (same_s k xs[j] (pds_get h2.2 (List.getElem?_eq_getElem hj2)))
      · refine e2_ok (x := .tup xs) (y := .int (0 + j)) rfl rfl ?_
        simp only [s_ixT, e, Option.map_some]
      · refine e2_ok (x := .tup xs) (y := .int (0 + j)) rfl rfl ?_
        simp only [s_ixT, e, Option.map_some]
/-! the cup -/
def C (a b : Int) : SO := .lst [.int a, .int b]
theorem mul_small {b : Int} (h0 : 0 ≤ b) (h1 : b < 4294967296) : mulOk b = true := by
  unfold mulOk
  simp
  omega
theorem asg_1 {fa : Fe} {a b v : Int} {rest : Sto} {env : Eng.Env} (he : env[0]? = some (some (.loc 0))) (h : fa env (C a b :: rest) = .ok (.v (.int v)) (C a b :: rest)) : sAsg fa (gSt oSet (eVar 0) (eC (.int 1))) env (C a b :: rest) = .nx env (C a v :: rest) := by
  unfold sAsg
  rw [h]
  simp [gSt, he, C, oSet, ixN]
theorem roll_s {a b many : Int} {rest : Sto} (ha : 0 ≤ a) (hb : 0 ≤ b) (hb2 : b < 4294967296) (hm : 1 ≤ many) (hm2 : many < 1000000) :
    ∃ (r a' b' : Int), 0 ≤ r ∧ r < many ∧ 0 ≤ a' ∧ 0 ≤ b' ∧ b' < 4294967296 ∧ m__law_roll [.loc 0, .v (.int many)] (C a b :: rest) = .ok (.v (.int r)) (C a' b' :: rest) := by
  by_cases h : 0 < a
  · refine ⟨a % many, a / many, b, Int.emod_nonneg _ (by omega), Int.emod_lt_of_pos _ (by omega), Int.ediv_nonneg ha (by omega), hb, hb2, ?_⟩
    have hm3 : 0 < many ∧ many < 1073741824 := by omega
    rw [show m__law_roll = callF 4 0 b__law_roll from rfl]
    · refine call_rt0 ?_ (by simp)
      refine seq_rt ((if_t (st1 := C a b :: rest) ?_).trans ?_)
      · simp [C, at0, h]
      · refine stV (x := .int (a % many)) ?_ ?_
        · simp [C, at0, hm3.1]
        · refine (seq_nx (env1 := [some (.loc 0), some (.v (.int many)), some (.v (.int (a % many))), none]) (st1 := C (a / many) b :: rest) ?_).trans (ret_v rfl)
          simp [sAsg, gSt, C, at0, hm3, oSet, ixN]
  · have hr : ∀ x : Int, 0 ≤ x % 2147483399 ∧ x % 2147483399 < 2147483399 := fun x => ⟨Int.emod_nonneg _ (by omega), Int.emod_lt_of_pos _ (by omega)⟩
    obtain ⟨v, hv⟩ : ∃ v, v = (b * 31293 + 8321) % 2147483399 := ⟨_, rfl⟩
    have hv1 := hr (b * 31293 + 8321)
    rw [← hv] at hv1
    obtain ⟨d, hd⟩ : ∃ d, d = (v * (v + 589)) % 2147483563 := ⟨_, rfl⟩
    refine ⟨(d / 797) % many, a, v, Int.emod_nonneg _ (by omega), Int.emod_lt_of_pos _ (by omega), ha, hv1.1, by omega, ?_⟩
    rw [show m__law_roll = callF 4 0 b__law_roll from rfl]
    · refine call_rt0 ?_ (by simp)
      have i0 : ∀ x y : Int, e2 vIx (eVar 0) (eC (.int 1)) [some (.loc 0), some (.v (.int many)), none, none] (C x y :: rest) = .ok (.v (.int y)) (C x y :: rest) := fun x y => by simp [C, at1]
      have hm3 : 0 < many := by omega
      refine stF ?_ ((seq_nx (env1 := [some (.loc 0), some (.v (.int many)), none, none]) (st1 := C a v :: rest) (asg_1 rfl ?_)).trans ?_)
      · simp [C, at0, h]
      · have m1 := e2_ok (o := vMul) (fb := eC (.int 31293)) (i0 a b) rfl (mul_ok (mul_small hb hb2))
        have m2 := e2_ok (o := vAdd) (fb := eC (.int 8321)) m1 rfl rfl
        refine e2_ok (x := .int (b * 31293 + 8321)) (y := .int 2147483399) ?_ rfl (by simp [hv])
        rw [s_eB, ar_1 m2]
        rfl
      · have m1 := e2_ok (o := vAdd) (fb := eC (.int 589)) (i0 a v) rfl rfl
        have m2 := e2_ok (o := vMul) (i0 a v) m1 (mul_ok (mul_small hv1.1 (by omega)))
        refine stV (x := .int d) ?_ (ret_v ?_)
        · refine e2_ok (x := .int (v * (v + 589))) (y := .int 2147483563) ?_ rfl (by simp [hd])
          show eB vInt _ [some (.loc 0), some (.v (.int many)), none, none] _ = _
          rw [s_eB, ar_1 m2]
          rfl
        · simp [hm3]
theorem some_s {a b : Int} {rest : Sto} {xs : List Val} (ha : 0 ≤ a) (hb : 0 ≤ b) (hb2 : b < 4294967296) (hx : xs ≠ []) (hl : xs.length < 1000000) (tg : Bool) :
    ∃ (x : Val) (a' b' : Int), x ∈ xs ∧ 0 ≤ a' ∧ 0 ≤ b' ∧ b' < 4294967296 ∧ m__law_some [.loc 0, .v (if tg = true then .tup xs else .lst xs)] (C a b :: rest) = .ok (.v x) (C a' b' :: rest) := by
  have hp := List.length_pos_iff.mpr hx
  obtain ⟨r, a', b', h1, h2, h3, h4, h5, h6⟩ := roll_s (many := xs.length) (rest := rest) ha hb hb2 (by omega) (by omega)
  have hr : r.toNat < xs.length := by omega
  refine ⟨xs[r.toNat], a', b', List.getElem_mem _, h3, h4, h5, ?_⟩
  rw [show m__law_some = callF 2 0 b__law_some from rfl]
  have e : atI xs r = some xs[r.toNat] := by
    have := atI_nat (List.getElem?_eq_getElem hr)
    rw [show ((r.toNat : Nat) : Int) = r by omega] at this
    exact this
  · refine call_rt0 ?_ (by simp)
    cases tg <;> exact ret_v (by simp [h6, e])
end
end K81

namespace K81
open PySem PySem.Spec PyProof.Rows L2 Eng
section
variable {st : Sto}
theorem rot_map {α β : Type} (f : α → β) (xs : List α) (k : Nat) : (rot xs k).map f = rot (xs.map f) k := by unfold rot; simp [List.map_drop, List.map_take]
theorem GR.rot {L len : Nat} {R : List (List (List Nat))} (g : GR L len R) (k : Nat) : GR L len (rot R k) := by
  refine ⟨fun e => ?_, by rw [rot_len]; exact g.n4, fun rows hr => g.all rows ?_⟩
  · have := congrArg List.length e
    rw [rot_len] at this
    exact g.n1 (List.eq_nil_of_length_eq_zero this)
  · unfold K81.rot at hr
    rcases List.mem_append.mp hr with h | h
    · exact List.mem_of_mem_drop h
    · exact List.mem_of_mem_take h
theorem add_rot (L : Nat) (R : List (List (List Nat))) (k : Nat) (hl : R.length ≤ 1000) : vAdd (.tup ((R.map (lw L)).drop k)) (.tup ((R.map (lw L)).take k)) = some (.v (rV L (rot R k))) := by
  rw [s_addT, if_pos (by simp; omega)]
  unfold rV
  rw [rot_map]
  rfl
theorem turned_relay_s {L len : Nat} {R : List (List (List Nat))} (g : GR L len R) (k : Nat) (hk : k < R.length) : m_turned_relay [.v (rV L R), .v (.int k)] st = .ok (.v (rV L (rot R k))) st := by
  have n4 := g.n4
  have hk2 : (k : Int) ≤ (R.length : Int) - 1 := by omega
  refine call_v (stE (z := .v .non) (ec_1 rfl (need_relay_s g)) (stF ?_ (ret_v ?_)))
  · simp [len_rV, is_whole_i, hk2]
  · refine e2_ok (x := .tup ((R.map (lw L)).drop k)) (y := .tup ((R.map (lw L)).take k)) ?_ ?_ (add_rot L R k (by omega))
    · simp [rV, cutD]
    · simp [rV, cutT]
theorem joinL_nil (ys : List (List Nat)) : joinL [] ys = ys.flatten := by
  cases ys with
  | nil => rfl
  | cons y r => simp [joinL]
theorem join_ok0 {ys : List (List Nat)} (h1 : ys.length ≤ 1000) (h2 : SOk ys.flatten = true) : vJoin (.str []) [.tup (ys.map .str)] = some (.v (.str ys.flatten)) ∧ vJoin (.str []) [.lst (ys.map .str)] = some (.v (.str ys.flatten)) := by
  constructor <;> simp [vJoin, Eng.strs_map, joinL_nil, h1, h2]
theorem div24 {len : Nat} (h2 : 2 ≤ len) (h4 : len ≤ 4) : vDiv (.int 24) (.int len) = some (.v (.int ((24 / len : Nat) : Int))) := by
  show (if (decide (0 < (len : Int)) && decide ((len : Int) < 1073741824)) = true then some (SV.v (.int (24 / (len : Int)))) else none) = _
  rw [if_pos (by simp; omega)]
  congr 3
theorem relay_belt_s {L len : Nat} {R : List (List (List Nat))} (g : GR L len R) (row : List (List Nat)) (h1 : 1 ≤ row.length) (h2 : row.length ≤ 24 / len) (h3 : row.length % R.length = 0) (h4 : inTurn R 0 row = true) (h5 : SOk row.flatten = true) :
    m_relay_belt [.v (rV L R), .v (.tup (row.map .str))] st = .ok (.v (.str row.flatten)) st := by
  obtain ⟨r0, i2, g0⟩ := ix_rV g
  have n2 := g0.n2
  have n4 := g0.n4
  have hp : 0 < R.length := List.length_pos_iff.mpr g.n1
  have h24 : 24 / len ≤ 24 := Nat.div_le_self _ _
  have hm : (row.map Val.str).length ≤ 1000000 := by simp; omega
  have a1 : (1 : Int) ≤ row.length := by omega
  have a2 : (row.length : Int) ≤ ((24 / len : Nat) : Int) := by omega
  refine call_v (stE (z := .v .non) (ec_1 rfl (need_relay_s g)) (stV (x := .int ((24 / len : Nat) : Int)) ?_ (stF ?_ (stF ?_ (ret_v ?_)))))
  · exact e2_ok (x := .int 24) (y := .int len) rfl (by simp [i2, length_in_s g0]) (div24 n2 n4)
  · show Eng.tOr _ _ [some (.v (rV L R)), some (.v (.tup (row.map .str))), some (.v (.int ((24 / len : Nat) : Int))), none] st = _
    rw [s_tOr, tn_v (b := true) (st1 := st) (ec_ok (ar_c rfl (ar_c (z1 := .v (.int 1)) rfl (ar_1 (z1 := .v (.int ((24 / len : Nat) : Int))) rfl))) ((is_tup_t _ _ _).trans (by rw [show (row.map Val.str).length = row.length by simp, decide_eq_true a1, decide_eq_true a2]; rfl)))]
    refine tn_v (b := true) ((all_comp (fun _ => true) (any_tup (xs := row.map .str) rfl) hm fun x hx => ?_).trans (by simp))
    obtain ⟨r, hr, rfl⟩ := List.mem_map.mp hx
    exact ⟨_, rfl, by simp⟩
  · have b1 : (row.length : Int) % (R.length : Int) = 0 := by omega
    simp [len_rV, hp, b1, okD, eqB, are_in_turn_s g row (by omega), h4]
  · have e := (join_ok0 (ys := row) (by omega) h5).1
    simp [e]
/-! counts -/
def prodL (R : List (List (List Nat))) : Nat := (R.map List.length).foldl (· * ·) 1
theorem count_in {L : Nat} {n : Nat} {B : List Nat} (R : List (List (List Nat))) (v : Nat) {env : Eng.Env} (z0 z1 z3 z4 : Option SV) (he : env = [z0, z1, some (.v (.int v)), z3, z4]) (hs : ∀ r ∈ R, r.length ≤ 1000) :
    ∃ z4', forSeq (fun x env st => match bindP (.n 4) x env with | some env' => sSet .f n B 2 (e2 vMul (eVar 2) (eB vLen (aCons (e2 vIx (eVar 4) (eC (.int 1))) aNil))) env' st | none => .bad) (R.map (lw L)) env st = .nx [z0, z1, some (.v (.int ((R.map List.length).foldl (· * ·) v : Nat))), z3, z4'] st := by
  induction R generalizing v env z4 with
  | nil => exact ⟨z4, by rw [he]; rfl⟩
  | cons r R ih =>
    have hr := hs r (by simp)
    have step : sSet .f n B 2 (e2 vMul (eVar 2) (eB vLen (aCons (e2 vIx (eVar 4) (eC (.int 1))) aNil))) [z0, z1, some (.v (.int v)), z3, some (.v (lw L r))] st = .nx [z0, z1, some (.v (.int ((v * r.length : Nat) : Int))), z3, some (.v (lw L r))] st := by
      have hm : vMul (.int v) (.int r.length) = some (.v (.int ((v * r.length : Nat) : Int))) := by
        show (if (mulOk v || mulOk r.length) = true then some (SV.v (.int ((v : Int) * (r.length : Int)))) else none) = _
        rw [mul_small (b := (r.length : Int)) (by omega) (by omega), Bool.or_true, if_pos rfl]
        simp
      have := e2_ok (o := vMul) (fa := eVar 2) (fb := eB vLen (aCons (e2 vIx (eVar 4) (eC (.int 1))) aNil)) (env := [z0, z1, some (.v (.int v)), z3, some (.v (lw L r))]) (st := st) (x := .int v) (y := .int r.length) rfl (by simp [lw, at1]) hm
      unfold sSet
      rw [this]
      rfl
    obtain ⟨z4', h⟩ := ih (v * r.length) (some (.v (lw L r))) rfl fun q hq => hs q (by simp [hq])
    refine ⟨z4', ?_⟩
    rw [he, List.map_cons, forSeq]
    show (sSet .f n B 2 _ [z0, z1, some (.v (.int v)), z3, some (.v (lw L r))] st).andThen _ = _
    rw [step]
    exact h
theorem foldl_mul (l : List Nat) (v : Nat) : l.foldl (· * ·) v = v * l.foldl (· * ·) 1 := by
  induction l generalizing v with
  | nil => simp
  | cons a l ih => simp only [List.foldl_cons]; rw [ih, ih (1 * a)]; simp [Nat.mul_assoc]
theorem count_s {L len : Nat} {R : List (List (List Nat))} (g : GR L len R) (k : Nat) (hk : k ≤ 24) : m_count_relay_rows [.v (rV L R), .v (.int k)] st = .ok (.v (.int ((prodL R) ^ k : Nat))) st := by
  have hs : ∀ r ∈ R, r.length ≤ 1000 := fun r hr => by have := (g.all r hr).r40; omega
  have hk1 : (k : Int) ≤ 24 := by omega
  refine call_v (stE (z := .v .non) (ec_1 rfl (need_relay_s g)) (stF ?_ (stV (x := .int 1) rfl ?_)))
  · simp [is_whole_i, hk1]
  · have key := for_inv (fi := iRng1F (aCons (eVar 1) aNil)) (p := .n 3) (n := st.length) (B := [] ++ []) (body := sFor (iAnyF (eVar 0)) (.n 4) st.length ([] ++ []) (sSet .f st.length [] 2 (e2 vMul (eVar 2) (eB vLen (aCons (e2 vIx (eVar 4) (eC (.int 1))) aNil))))) (xs := rngI 0 k)
      (fun i env s => ∃ z3 z4, env = [some (.v (rV L R)), some (.v (.int k)), some (.v (.int ((prodL R) ^ i : Nat))), z3, z4] ∧ s = st) (env := [some (.v (rV L R)), some (.v (.int k)), some (.v (.int 1)), none, none]) (st := st) (st1 := st)
      (by simp [iRng1F, small]; omega) ⟨none, none, by simp, rfl⟩ (fun i x env s hx hI => by
      obtain ⟨z3, z4, he, hst⟩ := hI
      subst hst
      refine ⟨_, rfl, ?_⟩
      obtain ⟨z4', h⟩ := count_in (st := s) (L := L) (n := s.length) (B := []) R ((prodL R) ^ i) (some (.v (rV L R))) (some (.v (.int k))) (some (.v x)) z4 rfl hs
      refine ⟨_, s, ?_, some (.v x), z4', rfl, rfl⟩
      have : (R.map List.length).foldl (· * ·) (prodL R ^ i) = prodL R ^ (i + 1) := by rw [foldl_mul]; rfl
      rw [this] at h
      rw [he]
      unfold sFor
      rw [any_tup (xs := R.map (lw L)) (st1 := s) (by rfl)]
      exact h)
    obtain ⟨env', st', h1, z3, z4, h2, h3⟩ := key
    refine (seq_nx h1).trans ?_
    subst h3
    rw [h2]
    exact ret_v (by simp [rngI])
end
end K81

namespace K81
open PySem PySem.Spec PyProof.Rows L2 Eng
section
variable {st : Sto}
/-! all ways through the lists -/
def step (rows ws : List (List Nat)) : List (List Nat) := rows.flatMap fun r => ws.map fun w => r ++ w
def rnds (R : List (List (List Nat))) (rows : List (List Nat)) : List (List Nat) := R.foldl step rows
theorem step_len (rows ws : List (List Nat)) : (step rows ws).length = rows.length * ws.length := by
  unfold step
  induction rows with
  | nil => simp
  | cons a r ih => simp [ih, Nat.succ_mul]; omega
/-- texts of a's to d's, all of the length n -/
def Tx (n : Nat) (rows : List (List Nat)) : Prop := ∀ r ∈ rows, r.length = n ∧ ∀ c ∈ r, c < 1114112
theorem Good.tx {L len : Nat} {rows : List (List Nat)} (g : Good L len rows) : Tx len rows := fun r hr => ⟨g.len r hr, okL_lt (g.ok r hr)⟩
theorem Tx.step {n m : Nat} {rows ws : List (List Nat)} (h : Tx n rows) (h' : Tx m ws) : Tx (n + m) (step rows ws) := fun r hr => by
  unfold K81.step at hr
  obtain ⟨a, ha, hr⟩ := List.mem_flatMap.mp hr
  obtain ⟨b, hb, rfl⟩ := List.mem_map.mp hr
  obtain ⟨h1, h2⟩ := h a ha
  obtain ⟨h3, h4⟩ := h' b hb
  refine ⟨by simp [h1, h3], fun c hc => ?_⟩
  rcases List.mem_append.mp hc with q | q
  · exact h2 c q
  · exact h4 c q
def sv (rows : List (List Nat)) : List Val := rows.map .str
theorem sv_step (rows ws : List (List Nat)) : sv (step rows ws) = (sv rows).flatMap fun x => (sv ws).map fun y => match x, y with | .str a, .str b => .str (a ++ b) | _, _ => .non := by
  unfold sv step
  rw [List.map_flatMap, List.flatMap_map]
  simp [Function.comp_def]
def cat2 : Val → Val → Val
  | .str a, .str b => .str (a ++ b)
  | _, _ => .non
theorem sv_step2 (rows ws : List (List Nat)) : ((sv rows).flatMap fun x => (sv ws).map (cat2 x)) = sv (step rows ws) := by
  unfold sv step
  rw [List.map_flatMap, List.flatMap_map]
  simp [Function.comp_def, cat2]
theorem ix1 (L : Nat) (r : List (List Nat)) : vIx (lw L r) (.int 1) = some (.v (.tup (sv r))) := by simp [lw, at1, sv]
theorem sv_len (r : List (List Nat)) : (sv r).length = r.length := by simp [sv]
theorem prod_pos : ∀ R : List (List (List Nat)), (∀ q ∈ R, 1 ≤ q.length) → 1 ≤ prodL R
  | [], _ => by simp [prodL]
  | a :: R, h => by
    have ih := prod_pos R fun q hq => h q (by simp [hq])
    have h1 := h a (by simp)
    unfold prodL at *
    rw [List.map_cons, List.foldl_cons, foldl_mul]
    simpa using Nat.mul_le_mul h1 ih
theorem list_loop {L len : Nat} {n k : Nat} {B : List Nat} {z0 : Option SV} : ∀ (R : List (List (List Nat))) (rows : List (List Nat)) (j : Nat) (z2 z3 z4 : Option SV), (∀ r ∈ R, Good L len r) → Tx j rows → j + R.length * len ≤ 1000 → rows.length * prodL R ≤ 40 → rows ≠ [] →
    ∃ z2', forSeq (fun x env st => match bindP (.n 2) x env with | some env' => sSeq (sIf (tV (e2 vGt (e2 vMul (eB vLen (aCons (eVar 1) aNil)) (eB vLen (aCons (e2 vIx (eVar 2) (eC (.int 1))) aNil))) (eC (.int 40)))) (sRet (eC .non)) sNil) (sSet .f n [] 1 (eComp2 (iAnyF (eVar 1)) (.n 3) tYesF (iAnyF (e2 vIx (eVar 2) (eC (.int 1)))) (.n 4) tYesF (e2 vAdd (eVar 3) (eVar 4)) [3, 4] [4])) env' st | none => .bad)
      (R.map (lw L)) [z0, some (.v (.lst (sv rows))), z2, z3, z4] st = .nx [z0, some (.v (.lst (sv (rnds R rows)))), z2', z3, z4] st
  | [], rows, j, z2, z3, z4, _, _, _, _, _ => ⟨z2, rfl⟩
  | r :: R, rows, j, z2, z3, z4, hg, ht, hj, hp, hne => by
    have g := hg r (by simp)
    have hr40 := g.r40
    have hr1 := List.length_pos_iff.mpr g.ne
    have hpr : prodL (r :: R) = r.length * prodL R := by unfold prodL; rw [List.map_cons, List.foldl_cons, foldl_mul]; simp
    rw [hpr] at hp
    have hP : 1 ≤ prodL R := prod_pos R fun q hq => List.length_pos_iff.mpr (hg q (by simp [hq])).ne
    have hrr : rows.length * r.length ≤ 40 := by
      have h1 : rows.length * r.length * 1 ≤ rows.length * r.length * prodL R := Nat.mul_le_mul_left _ hP
      rw [Nat.mul_one, Nat.mul_assoc] at h1
      omega
    have hrows : rows.length ≤ 40 := by
      have h1 : rows.length * 1 ≤ rows.length * r.length := Nat.mul_le_mul_left _ hr1
      rw [Nat.mul_one] at h1
      omega
    obtain ⟨z2', ih⟩ := list_loop (L := L) (len := len) (n := n) (k := k) (B := B) (z0 := z0) R (step rows r) (j + len) (some (.v (lw L r))) z3 z4 (fun q hq => hg q (by simp [hq])) (ht.step g.tx) (by rw [List.length_cons, Nat.succ_mul] at hj; omega) (by rw [step_len, Nat.mul_assoc]; exact hp) (fun e => by
      have := congrArg List.length e
      rw [step_len] at this
      have h1 := List.length_pos_iff.mpr hne
      have := Nat.mul_pos h1 hr1
      simp at *
      omega)
    refine ⟨z2', ?_⟩
    rw [List.map_cons, forSeq]
    have e1 : e2 vMul (eB vLen (aCons (eVar 1) aNil)) (eB vLen (aCons (e2 vIx (eVar 2) (eC (.int 1))) aNil)) [z0, some (.v (.lst (sv rows))), some (.v (lw L r)), z3, z4] st = .ok (.v (.int ((rows.length * r.length : Nat) : Int))) st := by
      refine e2_ok (x := .int rows.length) (y := .int r.length) (by simp [sv]) (by simp [ix1, sv]) ?_
      rw [mul_ok (mul_small (by omega) (by omega))]
      simp
    have e2' := e2_ok (o := vGt) (fb := eC (.int 40)) e1 rfl rfl
    have e3 : sSeq (sIf (tV (e2 vGt (e2 vMul (eB vLen (aCons (eVar 1) aNil)) (eB vLen (aCons (e2 vIx (eVar 2) (eC (.int 1))) aNil))) (eC (.int 40)))) (sRet (eC .non)) sNil) (sSet .f n [] 1 (eComp2 (iAnyF (eVar 1)) (.n 3) tYesF (iAnyF (e2 vIx (eVar 2) (eC (.int 1)))) (.n 4) tYesF (e2 vAdd (eVar 3) (eVar 4)) [3, 4] [4])) [z0, some (.v (.lst (sv rows))), some (.v (lw L r)), z3, z4] st
        = .nx [z0, some (.v (.lst (sv (step rows r)))), some (.v (lw L r)), z3, z4] st := by
      refine stF ?_ ?_
      · rw [tv_v e2', decide_eq_false (by omega)]
      · refine set_l ((comp2_map (xs := sv rows) (fun _ => sv r) cat2 ?_ ?_ fun x hx => ?_).trans ?_)
        · exact any_lst rfl
        · rw [sv_step2, sv_len, step_len]; omega
        · obtain ⟨a, ha, rfl⟩ := List.mem_map.mp hx
          refine ⟨_, rfl, any_tup (by simp [ix1]), fun y hy => ?_⟩
          obtain ⟨b, hb, rfl⟩ := List.mem_map.mp hy
          refine ⟨_, rfl, .v (.str (a ++ b)), ?_, rfl⟩
          obtain ⟨h1, h2⟩ := ht a ha
          obtain ⟨h3, h4⟩ := g.tx b hb
          have so : SOk (a ++ b) = true := sok_of (fun c hc => by
            rcases List.mem_append.mp hc with q | q
            · exact h2 c q
            · exact h4 c q) (by rw [List.length_append, h1, h3]; rw [List.length_cons, Nat.succ_mul] at hj; omega)
          simp [so]
        · rw [sv_step2]
    show (sSeq _ _ [z0, some (.v (.lst (sv rows))), some (.v (lw L r)), z3, z4] st).andThen _ = _
    rw [e3]
    exact ih
theorem rnds_tx {L len : Nat} : ∀ (R : List (List (List Nat))) (rows : List (List Nat)) (j : Nat), (∀ r ∈ R, Good L len r) → Tx j rows → Tx (j + R.length * len) (rnds R rows)
  | [], rows, j, _, ht => by simpa [rnds] using ht
  | r :: R, rows, j, hg, ht => by
    have ih := rnds_tx R (step rows r) (j + len) (fun q hq => hg q (by simp [hq])) (ht.step (hg r (by simp)).tx)
    rw [List.length_cons, Nat.succ_mul]
    rw [show j + (R.length * len + len) = j + len + R.length * len by omega]
    exact ih
theorem rnds_len : ∀ (R : List (List (List Nat))) (rows : List (List Nat)), (rnds R rows).length = rows.length * prodL R
  | [], rows => by simp [rnds, prodL]
  | r :: R, rows => by
    have ih := rnds_len R (step rows r)
    have hpr : prodL (r :: R) = r.length * prodL R := by unfold prodL; rw [List.map_cons, List.foldl_cons, foldl_mul]; simp
    rw [hpr, ← Nat.mul_assoc, ← step_len]
    exact ih
theorem tx0 : Tx 0 [[]] := fun r hr => by
  have : r = [] := by simpa using hr
  subst this
  exact ⟨rfl, fun c hc => by cases hc⟩
theorem GR.bd {L len : Nat} {R : List (List (List Nat))} (g : GR L len R) : R.length * len ≤ 16 := (whole_s g).2.1
theorem relay_list_s {L len : Nat} {R : List (List (List Nat))} (g : GR L len R) (hp : prodL R ≤ 40) : m_relay_list [.v (rV L R)] st = .ok (.v (if R.length * len ≤ 4 then lw L (sortS (rnds R [[]])) else .non)) st := by
  obtain ⟨r0, i2, g0⟩ := ix_rV g
  have bd := g.bd
  have hP : 1 ≤ prodL R := prod_pos R fun q hq => List.length_pos_iff.mpr (g.all q hq).ne
  have hlen := rnds_len R [[]]
  have htx := rnds_tx R [[]] 0 g.all tx0
  obtain ⟨q0, qs, hq⟩ : ∃ q0 qs, rnds R [[]] = q0 :: qs := by
    cases e : rnds R [[]] with
    | nil => rw [e] at hlen; simp at hlen; omega
    | cons a b => exact ⟨a, b, rfl⟩
  have hq0 : q0.length = R.length * len := by have := (htx q0 (by rw [hq]; simp)).1; omega
  have hl40 : (rnds R [[]]).length ≤ 40 := by rw [hlen]; simpa using hp
  obtain ⟨z2', hloop⟩ := list_loop (st := st) (L := L) (len := len) (n := st.length) (k := 0) (B := []) (z0 := some (.v (rV L R))) R [[]] 0 none none none g.all tx0 (by omega) (by simpa using hp) (by simp)
  refine call_v (stE (z := .v .non) (ec_1 rfl (need_relay_s g)) (stL (xs := [.str []]) (by simp) ((seq_nx (env1 := [some (.v (rV L R)), some (.v (.lst (sv (rnds R [[]])))), z2', none, none]) (st1 := st) ?_).trans (ret_v ?_))))
  · unfold sFor
    rw [any_tup (xs := R.map (lw L)) (st1 := st) (by rfl)]
    exact hloop
  · have e1 : e2 vIx (eVar 1) (eC (.int 0)) [some (.v (rV L R)), some (.v (.lst (sv (rnds R [[]])))), z2', none, none] st = .ok (.v (.str q0)) st := by simp [hq, sv, at0]
    have e2' : tV (e2 vLe (eB vLen (aCons (e2 vIx (eVar 1) (eC (.int 0))) aNil)) (eC (.int 4))) [some (.v (rV L R)), some (.v (.lst (sv (rnds R [[]])))), z2', none, none] st = .ok (decide (R.length * len ≤ 4)) st := by
      refine tv_v (e2_ok (x := .int q0.length) (y := .int 4) ?_ rfl ?_)
      · rw [s_eB, ar_1 e1]; rfl
      · rw [s_le, hq0]
        have : decide (((R.length * len : Nat) : Int) ≤ 4) = decide (R.length * len ≤ 4) := by rw [decide_eq_decide]; omega
        rw [this]
    have e3 : vSort [.lst (sv (rnds R [[]]))] = some (.fl (sv (sortS (rnds R [[]])))) := by
      simp [vSort, sv, Eng.strs_map]
      omega
    show eIf _ _ _ [some (.v (rV L R)), some (.v (.lst (sv (rnds R [[]])))), z2', none, none] st = _
    rw [s_eIf, e2']
    by_cases h4 : R.length * len ≤ 4
    · rw [if_pos h4, decide_eq_true h4]
      have i3 : vIx (lw L r0) (.int 0) = some (.v (.int L)) := by simp [lw, at0]
      simp [i2, i3, e3]
      rfl
    · rw [if_neg h4, decide_eq_false h4]
      simp
end
end K81

namespace K81
open PySem PySem.Spec PyProof.Rows L2 Eng
section
variable {st : Sto}
/-! _law_rounds -/
theorem longer_in {n : Nat} {B : List Nat} {z0 z1 : Option SV} {L len : Nat} {r : List (List Nat)} (g : Good L len r) : ∀ (rows acc : List (List Nat)) (j : Nat) (z4 z5 : Option SV), Tx j rows → j ≤ 900 → acc.length + rows.length * 40 ≤ 900000 →
    ∃ z4' z5', forSeq (fun x env st => match bindP (.n 4) x env with | some env' => sSet .f n [] 3 (e2 vAdd (eVar 3) (eComp (iAnyF (e2 vIx (eVar 2) (eC (.int 1)))) (.n 5) tYesF (e2 vAdd (eVar 4) (eVar 5)) [5])) env' st | none => .bad)
      (sv rows) [z0, z1, some (.v (lw L r)), some (.v (.lst (sv acc))), z4, z5] st = .nx [z0, z1, some (.v (lw L r)), some (.v (.lst (sv (acc ++ step rows r)))), z4', z5'] st
  | [], acc, j, z4, z5, _, _, _ => ⟨z4, z5, by simp [sv, step, forSeq]⟩
  | a :: rows, acc, j, z4, z5, ht, hj, hl => by
    have hr40 := g.r40
    rw [List.length_cons, Nat.succ_mul] at hl
    obtain ⟨z4', z5', ih⟩ := longer_in (n := n) (B := B) (z0 := z0) (z1 := z1) g rows (acc ++ r.map fun w => a ++ w) j (some (.v (.str a))) z5 (fun q hq => ht q (by simp [hq])) hj (by rw [List.length_append, List.length_map]; omega)
    refine ⟨z4', z5', ?_⟩
    obtain ⟨h1, h2⟩ := ht a (by simp)
    have e1 : eComp (iAnyF (e2 vIx (eVar 2) (eC (.int 1)))) (.n 5) tYesF (e2 vAdd (eVar 4) (eVar 5)) [5] [z0, z1, some (.v (lw L r)), some (.v (.lst (sv acc))), some (.v (.str a)), z5] st = .ok (.fl (sv (r.map fun w => a ++ w))) st := by
      refine (comp_all (xs := sv r) (cat2 (.str a)) (any_tup (by simp [ix1])) (by rw [sv_len]; omega) fun x hx => ?_).trans ?_
      · obtain ⟨b, hb, rfl⟩ := List.mem_map.mp hx
        obtain ⟨h3, h4⟩ := g.tx b hb
        have n4 := g.n4
        have so : SOk (a ++ b) = true := sok_of (fun c hc => by
          rcases List.mem_append.mp hc with q | q
          · exact h2 c q
          · exact h4 c q) (by rw [List.length_append, h1, h3]; omega)
        exact ⟨_, rfl, .v (.str (a ++ b)), by simp [so], rfl⟩
      · simp [sv, cat2, Function.comp_def]
    have e2' : e2 vAdd (eVar 3) (eComp (iAnyF (e2 vIx (eVar 2) (eC (.int 1)))) (.n 5) tYesF (e2 vAdd (eVar 4) (eVar 5)) [5]) [z0, z1, some (.v (lw L r)), some (.v (.lst (sv acc))), some (.v (.str a)), z5] st = .ok (.fl (sv (acc ++ r.map fun w => a ++ w))) st := by
      refine e2_g (x := .lst (sv acc)) (y := .lst (sv (r.map fun w => a ++ w))) rfl e1 rfl rfl ?_
      rw [s_addL, if_pos (by rw [sv_len, sv_len, List.length_map]; omega)]
      simp [sv]
    have hs : sv (a :: rows) = .str a :: sv rows := rfl
    rw [hs, forSeq]
    show (sSet .f n [] 3 _ [z0, z1, some (.v (lw L r)), some (.v (.lst (sv acc))), some (.v (.str a)), z5] st).andThen _ = _
    rw [set_l e2']
    refine ih.trans ?_
    simp [step]
theorem rounds_loop {L len : Nat} {n : Nat} {B : List Nat} {z0 : Option SV} : ∀ (R : List (List (List Nat))) (rows : List (List Nat)) (j : Nat) (z2 z3 z4 z5 : Option SV), (∀ r ∈ R, Good L len r) → Tx j rows → j + R.length * len ≤ 900 → rows.length * prodL R ≤ 1000 →
    ∃ z2' z3' z4' z5', forSeq (fun x env st => match bindP (.n 2) x env with | some env' => sSeq (sSet .f n [] 3 (eLst aNil)) (sSeq (sFor (iAnyF (eVar 1)) (.n 4) n B (sSet .f n [] 3 (e2 vAdd (eVar 3) (eComp (iAnyF (e2 vIx (eVar 2) (eC (.int 1)))) (.n 5) tYesF (e2 vAdd (eVar 4) (eVar 5)) [5])))) (sSet .f n [] 1 (eVar 3))) env' st | none => .bad)
      (R.map (lw L)) [z0, some (.v (.lst (sv rows))), z2, z3, z4, z5] st = .nx [z0, some (.v (.lst (sv (rnds R rows)))), z2', z3', z4', z5'] st
  | [], rows, j, z2, z3, z4, z5, _, _, _, _ => ⟨z2, z3, z4, z5, rfl⟩
  | r :: R, rows, j, z2, z3, z4, z5, hg, ht, hj, hp => by
    have g := hg r (by simp)
    have hr40 := g.r40
    have hpr : prodL (r :: R) = r.length * prodL R := by unfold prodL; rw [List.map_cons, List.foldl_cons, foldl_mul]; simp
    rw [hpr] at hp
    have hP : 1 ≤ prodL R := prod_pos R fun q hq => List.length_pos_iff.mpr (hg q (by simp [hq])).ne
    have hr1 := List.length_pos_iff.mpr g.ne
    have hrows : rows.length ≤ 1000 := by
      have h1 : rows.length * 1 ≤ rows.length * (r.length * prodL R) := Nat.mul_le_mul_left _ (Nat.mul_pos hr1 hP)
      omega
    rw [List.length_cons, Nat.succ_mul] at hj
    obtain ⟨z4', z5', h1⟩ := longer_in (st := st) (n := n) (B := B) (z0 := z0) (z1 := some (.v (.lst (sv rows)))) g rows [] j z4 z5 ht (by omega) (by simp; omega)
    obtain ⟨y2, y3, y4, y5, ih⟩ := rounds_loop (L := L) (len := len) (n := n) (B := B) (z0 := z0) R (step rows r) (j + len) (some (.v (lw L r))) (some (.v (.lst (sv (step rows r))))) z4' z5' (fun q hq => hg q (by simp [hq])) (ht.step g.tx) (by omega) (by rw [step_len, Nat.mul_assoc]; exact hp)
    refine ⟨y2, y3, y4, y5, ?_⟩
    rw [List.map_cons, forSeq]
    show (sSeq _ _ [z0, some (.v (.lst (sv rows))), some (.v (lw L r)), z3, z4, z5] st).andThen _ = _
    have e3 : sSeq (sSet .f n [] 3 (eLst aNil)) (sSeq (sFor (iAnyF (eVar 1)) (.n 4) n B (sSet .f n [] 3 (e2 vAdd (eVar 3) (eComp (iAnyF (e2 vIx (eVar 2) (eC (.int 1)))) (.n 5) tYesF (e2 vAdd (eVar 4) (eVar 5)) [5])))) (sSet .f n [] 1 (eVar 3))) [z0, some (.v (.lst (sv rows))), some (.v (lw L r)), z3, z4, z5] st
        = .nx [z0, some (.v (.lst (sv (step rows r)))), some (.v (lw L r)), some (.v (.lst (sv (step rows r)))), z4', z5'] st := by
      refine stL (xs := []) (by simp) ((seq_nx (env1 := [z0, some (.v (.lst (sv rows))), some (.v (lw L r)), some (.v (.lst (sv (step rows r)))), z4', z5']) (st1 := st) ?_).trans ?_)
      · unfold sFor
        rw [any_lst (xs := sv rows) (st1 := st) (by rfl)]
        rw [List.nil_append] at h1
        exact h1
      · exact set_v (x := .lst (sv (step rows r))) rfl
    rw [e3]
    exact ih
theorem law_rounds_s {L len : Nat} {R : List (List (List Nat))} (g : GR L len R) (hp : prodL R ≤ 1000) : m__law_rounds [.v (rV L R)] st = .ok (.v (.lst (sv (rnds R [[]])))) st := by
  have bd := g.bd
  obtain ⟨z2, z3, z4, z5, h⟩ := rounds_loop (st := st) (L := L) (len := len) (n := st.length) (B := [] ++ []) (z0 := some (.v (rV L R))) R [[]] 0 none none none none g.all tx0 (by omega) (by simpa using hp)
  refine call_v (stL (xs := [.str []]) (by simp) ((seq_nx (env1 := [some (.v (rV L R)), some (.v (.lst (sv (rnds R [[]])))), z2, z3, z4, z5]) (st1 := st) ?_).trans (ret_v rfl)))
  unfold sFor
  rw [any_tup (xs := R.map (lw L)) (st1 := st) (by rfl)]
  exact h
/-! _law_places -/
theorem inTurn_iff (R : List (List (List Nat))) : ∀ (ps : List (List Nat)) (k : Nat), inTurn R k ps = true ↔ ∀ i p, ps[i]? = some p → p ∈ R.getD ((k + i) % R.length) []
  | [], k => by simp [inTurn]
  | p :: ps, k => by
    unfold inTurn
    rw [Bool.and_eq_true, decide_eq_true_eq, inTurn_iff R ps (k + 1)]
    constructor
    · intro ⟨h1, h2⟩ i q hq
      cases i with
      | zero => simp at hq; subst hq; exact h1
      | succ i =>
        have := h2 i q (by simpa using hq)
        rw [show k + 1 + i = k + (i + 1) by omega] at this
        exact this
    · intro h
      refine ⟨h 0 p rfl, fun i q hq => ?_⟩
      have := h (i + 1) q (by simpa using hq)
      rw [show k + (i + 1) = k + 1 + i by omega] at this
      exact this
theorem okDs_iv (xs : List Nat) (n : Nat) : okDs (iv xs) n = true := by
  induction xs with
  | nil => rfl
  | cons a r ih => simpa [iv, okDs, okD] using ih
/-- the places where it fails -/
def wrong (R : List (List (List Nat))) (ps : List (List Nat)) : List Nat := (List.range ps.length).filter fun i => !decide (ps.getD i [] ∈ R.getD (i % R.length) [])
theorem wrong_nil (R : List (List (List Nat))) (ps : List (List Nat)) : (wrong R ps).isEmpty = inTurn R 0 ps := by
  rw [Bool.eq_iff_iff, inTurn_iff, List.isEmpty_iff]
  unfold wrong
  rw [List.filter_eq_nil_iff]
  constructor
  · intro h i p hp
    have hi : i < ps.length := (List.getElem?_eq_some_iff.mp hp).1
    have := h i (by simpa using hi)
    simp only [Bool.not_eq_true', decide_eq_false_iff_not, Classical.not_not] at this
    simpa [List.getD_eq_getElem?_getD, hp] using this
  · intro h i hi
    have hi : i < ps.length := by simpa using hi
    have := h i ps[i] (List.getElem?_eq_getElem hi)
    simp only [Bool.not_eq_true', decide_eq_false_iff_not, Classical.not_not]
    simpa [List.getD_eq_getElem?_getD, List.getElem?_eq_getElem hi] using this
theorem eq_nil (xs : List Nat) : vEq (.lst (iv xs)) (.lst []) = some (.v (.bl xs.isEmpty)) := by
  have h : okD (.lst (iv xs)) 32 = true := by simpa [okD] using okDs_iv xs 31
  rw [s_eq, if_pos (by rw [h]; rfl)]
  cases xs <;> rfl
def okP (R : List (List (List Nat))) (len : Nat) (b : List Nat) (f : Nat) : Bool := inTurn R 0 (pcs len (rot b f))
theorem cuts_eq {R : List (List (List Nat))} {len : Nat} {b : List Nat} : cuts R len b = if b.length % (R.length * len) ≠ 0 then [] else (List.range (R.length * len)).filter (okP R len b) := rfl
theorem sok_rot {L : Nat} {b : List Nat} (hb : okL L b = true) (h2 : b.length ≤ 24) (f : Nat) : SOk (rot b f) = true :=
  sok_of (fun c hc => okL_lt hb c (by unfold rot at hc; rcases List.mem_append.mp hc with h | h; exact List.mem_of_mem_drop h; exact List.mem_of_mem_take h)) (by rw [rot_len]; omega)
theorem add_rotS {L : Nat} {b : List Nat} (hb : okL L b = true) (h2 : b.length ≤ 24) (f : Nat) : vAdd (.str (b.drop f)) (.str (b.take f)) = some (.v (.str (rot b f))) := by
  have h := sok_rot hb h2 f
  unfold rot at h ⊢
  rw [s_addS, if_pos h]
/-- the cut of a text in pieces -/
theorem pcs_comp {env : Eng.Env} {fl : Fe} {i j k len : Nat} {s : List Nat} (hs : s.length ≤ 24) (h1 : 1 ≤ len) (hl4 : len ≤ 16) (e1 : ∀ env2 : Eng.Env, env2[i]? = env[i]? → eVar i env2 st = .ok (.v (.str s)) st) (e2' : ∀ env2 : Eng.Env, env2[j]? = env[j]? → eVar j env2 st = .ok (.v (.int len)) st) (hi : k ≠ i) (hj : k ≠ j) (hk : k < env.length) :
    eComp (iRng3F (aCons (eC (.int 0)) (aCons (eB vLen (aCons (eVar i) aNil)) (aCons (eVar j) aNil)))) (.n k) tYesF (eSl (eVar i) (pAt (eVar k)) (pAt (e2 vAdd (eVar k) (eVar j)))) [k] env st = .ok (.fl (sv (pcs len s))) st := by
  have hn : rngLen 0 s.length len ≤ 24 := rng_len hs
  refine (comp_all (xs := rngC 0 len (rngLen 0 s.length len)) (onI fun i => .str (cutL s (some i) (some (i + len)))) ?_ ?_ fun x hx => ?_).trans ?_
  · have a1 := ar_1 (st := st) (env := env) (fa := eVar j) (e2' env rfl)
    have a2 := ar_c (fa := eB vLen (aCons (eVar i) aNil)) (z1 := .v (.int s.length)) (by rw [s_eB, ar_1 (e1 env rfl)]; simp) a1
    have a3 := ar_c (fa := eC (.int 0)) (z1 := .v (.int 0)) rfl a2
    unfold iRng3F
    rw [a3]
    simp [small]
    omega
  · simp [rngC]; omega
  · obtain ⟨q, hq, rfl⟩ := List.mem_map.mp hx
    refine ⟨_, rfl, .v (.str (cutL s (some (0 + (q : Int) * len)) (some (0 + (q : Int) * len + len)))), ?_, rfl⟩
    have f1 := e1 ((wipeE env [k]).set k (some (.v (.int (0 + (q : Int) * len))))) (by simp [List.getElem?_set_ne hi])
    have f2 := e2' ((wipeE env [k]).set k (some (.v (.int (0 + (q : Int) * len))))) (by simp [List.getElem?_set_ne hj])
    have f3 : eVar k ((wipeE env [k]).set k (some (.v (.int (0 + (q : Int) * len))))) st = .ok (.v (.int (0 + (q : Int) * len))) st := by simp [hk]
    have f4 := e2_ok (o := vAdd) f3 f2 rfl
    rw [s_eSl, f1]
    simp only [s_bind_ok, s_pAt, f3, s_pInt, f4, s_val_v, Option.bind_some, s_slS, s_outO]
  · congr 2
    unfold pcs rngC sv
    rw [List.map_map, List.map_map]
    refine List.map_congr_left fun q _ => ?_
    have := cutM s (q * len) len
    simp only [Function.comp, onI_int]
    rw [show (0 : Int) + (q : Int) * (len : Int) = ((q * len : Nat) : Int) by simp, this]
theorem iv_app (a c : List Nat) : iv (a ++ c) = iv a ++ iv c := by simp [iv]
theorem wrong_comp {L len : Nat} {R : List (List (List Nat))} (g : GR L len R) (ps : List (List Nat)) (hps : ps.length ≤ 1000) {z1 z2 z3 z4 z5 z6 z8 : Option SV} :
    eComp (iRng1F (aCons (eB vLen (aCons (eVar 7) aNil)) aNil)) (.n 8) (tV (e2 vNotIn (e2 vIx (eVar 7) (eVar 8)) (e2 vIx (e2 vIx (eVar 0) (e2 vMod (eVar 8) (eB vLen (aCons (eVar 0) aNil)))) (eC (.int 1))))) (eVar 8) [8] [some (.v (rV L R)), z1, z2, z3, z4, z5, z6, some (.v (.lst (sv ps))), z8] st = .ok (.fl (iv (wrong R ps))) st := by
  have hp : 0 < R.length := List.length_pos_iff.mpr g.n1
  have e5 : ((rngI 0 ps.length).filter (onIb fun i => !decide (ps.getD i.toNat [] ∈ R.getD (i.toNat % R.length) []))).map id = iv (wrong R ps) := by
    unfold iv wrong rngI
    rw [List.filter_map, List.map_map]
    simp [Function.comp_def]
  rw [comp_map (xs := rngI 0 ps.length) (onIb fun i => !decide (ps.getD i.toNat [] ∈ R.getD (i.toNat % R.length) [])) id ?_ ?_ fun x hx => ?_, e5]
  · simp [iRng1F, small, sv]
    omega
  · simp [rngI]; omega
  · obtain ⟨k, hk, rfl⟩ := List.mem_map.mp hx
    have hk : k < ps.length := by simpa using hk
    refine ⟨_, rfl, ?_, fun _ => ⟨.v (.int (0 + k)), rfl, rfl⟩⟩
    rw [Int.zero_add]
    have f1 : vIx (.lst (sv ps)) (.int k) = some (.v (.str (ps.getD k []))) := by
      show (atI (sv ps) (k : Int)).map SV.v = _
      rw [atI_nat (v := .str (ps.getD k []))]
      · rfl
      · unfold sv
        rw [List.getElem?_map, List.getElem?_eq_getElem hk]
        simp [List.getD_eq_getElem?_getD, List.getElem?_eq_getElem hk]
    have f2 : vMod (.int k) (.int R.length) = some (.v (.int ((k : Int) % (R.length : Int)))) := by
      rw [s_mod, if_pos (by omega)]
    refine tv_v (e2_ok (x := .str (ps.getD k [])) (y := .tup (sv (R.getD (k % R.length) []))) (e2_ok (x := .lst (sv ps)) (y := .int k) rfl rfl f1) (e2_ok (x := lw L (R.getD (k % R.length) [])) (y := .int 1) (e2_ok (x := rV L R) (y := .int ((k : Int) % (R.length : Int))) rfl (e2_ok (x := .int k) (y := .int R.length) rfl ?_ f2) (at_mod g.n1 k)) rfl (ix1 _ _)) ?_)
    · rw [s_eB, ar_1 (z1 := .v (rV L R)) rfl]
      simp [len_rV]
    · rw [s_notin]
      unfold sv
      rw [in_str]
      simp
def plB (n : Nat) : Fs := sSeq (sSet .f n [] 6 (e2 vAdd (eSl (eVar 1) (pAt (eVar 5)) pNo) (eSl (eVar 1) pNo (pAt (eVar 5))))) (sSeq (sSet .f n [] 7 (eComp (iRng3F (aCons (eC (.int 0)) (aCons (eB vLen (aCons (eVar 6) aNil)) (aCons (eVar 2) aNil)))) (.n 8) tYesF (eSl (eVar 6) (pAt (eVar 8)) (pAt (e2 vAdd (eVar 8) (eVar 2)))) [8]))
      (sIf (tV (e2 vEq (eComp (iRng1F (aCons (eB vLen (aCons (eVar 7) aNil)) aNil)) (.n 8) (tV (e2 vNotIn (e2 vIx (eVar 7) (eVar 8)) (e2 vIx (e2 vIx (eVar 0) (e2 vMod (eVar 8) (eB vLen (aCons (eVar 0) aNil)))) (eC (.int 1))))) (eVar 8) [8]) (eLst aNil))) (sSet .f n [] 3 (e2 vAdd (eVar 3) (eTup (aCons (eVar 5) aNil)))) sNil))
theorem places_body {L len : Nat} {R : List (List (List Nat))} (g : GR L len R) (b : List Nat) (h2 : b.length ≤ 24) (hb : okL L b = true) (f : Nat) (acc : List Nat) (hacc : acc.length ≤ 1000) {n : Nat} {z4 z6 z7 z8 : Option SV} :
    plB n
      [some (.v (rV L R)), some (.v (.str b)), some (.v (.int len)), some (.v (.tup (iv acc))), z4, some (.v (.int f)), z6, z7, z8] st
      = .nx [some (.v (rV L R)), some (.v (.str b)), some (.v (.int len)), some (.v (.tup (iv (acc ++ if okP R len b f = true then [f] else [])))), z4, some (.v (.int f)), some (.v (.str (rot b f))), some (.v (.lst (sv (pcs len (rot b f))))), z8] st := by
  obtain ⟨r0, i2, g0⟩ := ix_rV g
  have n2 := g0.n2
  have n4 := g0.n4
  have hr : (rot b f).length ≤ 24 := by rw [rot_len]; exact h2
  refine stV (x := .str (rot b f)) ?_ (stL (xs := sv (pcs len (rot b f))) ?_ ?_)
  · refine e2_ok (x := .str (b.drop f)) (y := .str (b.take f)) ?_ ?_ (add_rotS hb h2 f)
    · simp [cutD]
    · simp [cutT]
  · exact pcs_comp (i := 6) (j := 2) (k := 8) (fl := eVar 0) hr (by omega) (by omega) (fun env2 h => by unfold eVar; rw [h]; rfl) (fun env2 h => by unfold eVar; rw [h]; rfl) (by decide) (by decide) (by simp)
  · have hps : (pcs len (rot b f)).length ≤ 1000 := by have := pcs_len len hr; omega
    have e1 := wrong_comp (st := st) g (pcs len (rot b f)) hps (z1 := some (.v (.str b))) (z2 := some (.v (.int len))) (z3 := some (.v (.tup (iv acc)))) (z4 := z4) (z5 := some (.v (.int f))) (z6 := some (.v (.str (rot b f)))) (z8 := z8)
    have e2' := e2_g (o := vEq) (fb := eLst aNil) (zb := .fl []) e1 (by simp) rfl rfl (eq_nil (wrong R (pcs len (rot b f))))
    have e3 := tv_v e2'
    rw [wrong_nil] at e3
    cases hk : inTurn R 0 (pcs len (rot b f)) with
    | false =>
      rw [hk] at e3
      refine (if_f e3).trans ?_
      have : okP R len b f = false := hk
      rw [this]
      simp
    | true =>
      rw [hk] at e3
      refine (if_t e3).trans ?_
      have : okP R len b f = true := hk
      rw [this, if_pos rfl, iv_app]
      refine set_v ?_
      refine e2_ok (x := .tup (iv acc)) (y := .tup [.int f]) rfl (by simp) ?_
      rw [s_addT, if_pos (by simp [iv]; omega)]
      rfl
theorem places_s {L len : Nat} {R : List (List (List Nat))} (g : GR L len R) (b : List Nat) (h2 : b.length ≤ 24) (hb : okL L b = true) : m__law_places [.v (rV L R), .v (.str b)] st = .ok (.v (.tup (iv (cuts R len b)))) st := by
  obtain ⟨r0, i2, g0⟩ := ix_rV g
  obtain ⟨hw, hw2, hml⟩ := whole_s g
  have hp : 0 < R.length := List.length_pos_iff.mpr g.n1
  have n2 := g0.n2
  have n4 := g0.n4
  obtain ⟨wh, hwh⟩ : ∃ wh, wh = R.length * len := ⟨_, rfl⟩
  rw [← hwh] at hw hw2
  have hwi : (len : Int) * (R.length : Int) = (wh : Int) := by rw [hwh, Nat.mul_comm]; simp
  obtain ⟨q0, qs, hq⟩ : ∃ q0 qs, r0 = q0 :: qs := by
    cases e : r0 with
    | nil => exact absurd e g0.ne
    | cons a b => exact ⟨a, b, rfl⟩
  have hq0 : q0.length = len := g0.len q0 (by rw [hq]; simp)
  have i3 : vIx (lw L r0) (.int 1) = some (.v (.tup (sv r0))) := ix1 L r0
  have i4 : vIx (.tup (sv r0)) (.int 0) = some (.v (.str q0)) := by simp [hq, sv, at0]
  refine call_v ((seq_nx (env1 := [some (.v (rV L R)), some (.v (.str b)), some (.v (.int len)), some (.v (.tup [])), none, none, none, none, none]) (st1 := st) ?_).trans (stV (x := .int wh) ?_ ?_))
  · have e1 : eB vLen (aCons (e2 vIx (e2 vIx (e2 vIx (eVar 0) (eC (.int 0))) (eC (.int 1))) (eC (.int 0))) aNil) [some (.v (rV L R)), some (.v (.str b)), none, none, none, none, none, none, none] st = .ok (.v (.int len)) st := by
      simp only [s_eB, s_aCons, s_e2, s_eVar, s_eC, s_aNil]
      simp [i2, i3, i4, hq0]
    have hB : bCons .f st.length [] (eB vLen (aCons (e2 vIx (e2 vIx (e2 vIx (eVar 0) (eC (.int 0))) (eC (.int 1))) (eC (.int 0))) aNil)) (bCons .f st.length [] (eTup aNil) bNil) [some (.v (rV L R)), some (.v (.str b)), none, none, none, none, none, none, none] st = .ok [.v (.int len), .v (.tup [])] [some (.v (rV L R)), some (.v (.str b)), none, none, none, none, none, none, none] st := by
      unfold bCons
      rw [e1]
      simp [bCons]
    show sTup _ _ [some (.v (rV L R)), some (.v (.str b)), none, none, none, none, none, none, none] st = _
    rw [s_sTup, hB]
    rfl
  · exact hwi ▸ e2_ok (x := .int len) (y := .int R.length) rfl (by simp [len_rV]) (mul_ok (mul_small (by omega) (by omega)))
  · have hfl : ∀ n m : Nat, n ≤ m → ((List.range n).filter (okP R len b)).length ≤ m := fun n m h => Nat.le_trans (List.length_filter_le _ _) (by simpa using h)
    obtain ⟨n', hn', hn2⟩ : ∃ n', n' = (if b.length % wh = 0 then wh else 0) ∧ n' ≤ 16 := ⟨_, rfl, by split <;> omega⟩
    have hrng : iRng1F (aCons (eIf (tV (e2 vEq (e2 vMod (eB vInt (aCons (eB vLen (aCons (eVar 1) aNil)) aNil)) (eVar 4)) (eC (.int 0)))) (eVar 4) (eC (.int 0))) aNil) [some (.v (rV L R)), some (.v (.str b)), some (.v (.int len)), some (.v (.tup [])), some (.v (.int wh)), none, none, none, none] st = .ok (.seq (rngI 0 n')) st := by
      by_cases hc : b.length % wh = 0
      · have hc2 : (b.length : Int) % (wh : Int) = 0 := by omega
        rw [if_pos hc] at hn'
        simp [iRng1F, hw, hc2, okD, eqB, small, hn']
        omega
      · have hc2 : ¬ (b.length : Int) % (wh : Int) = 0 := by omega
        rw [if_neg hc] at hn'
        simp [iRng1F, hw, hc2, okD, eqB, small, hn']
    have key := for_inv (p := .n 5) (n := st.length) (B := ([] ++ []) ++ (([] ++ []) ++ (([] ++ []) ++ []))) (body := plB st.length) (xs := rngI 0 n')
      (fun i env s => ∃ z5 z6 z7 z8, env = [some (.v (rV L R)), some (.v (.str b)), some (.v (.int len)), some (.v (.tup (iv ((List.range i).filter (okP R len b))))), some (.v (.int wh)), z5, z6, z7, z8] ∧ s = st ∧ i ≤ n') hrng ⟨none, none, none, none, rfl, rfl, Nat.zero_le _⟩ (fun i x env s hx hI => by
        obtain ⟨z5, z6, z7, z8, he, hst, hi⟩ := hI
        subst he
        rw [hst]
        have hlt : i < n' := by
          have := (List.getElem?_eq_some_iff.mp hx).1
          simpa [rngI] using this
        have ex : x = .int (i : Int) := by
          unfold rngI at hx
          rw [List.getElem?_map, List.getElem?_range hlt] at hx
          have := Option.some.inj hx
          rw [← this]; simp
        subst ex
        have this : (List.range (i + 1)).filter (okP R len b) = (List.range i).filter (okP R len b) ++ (if okP R len b i = true then [i] else []) := by
          rw [List.range_succ, List.filter_append]
          cases h : okP R len b i <;> simp [h]
        exact ⟨_, rfl, _, st, places_body (st := st) g b h2 hb i ((List.range i).filter (okP R len b)) (by have := hfl i 16 (by omega); omega) (n := st.length), some (.v (.int i)), some (.v (.str (rot b i))), some (.v (.lst (sv (pcs len (rot b i))))), z8, by rw [this], rfl, hlt⟩)
    obtain ⟨env', st', h1, z5, z6, z7, z8, h3, h4, _⟩ := key
    subst h4
    refine (seq_nx h1).trans ?_
    rw [h3]
    have : (rngI 0 n').length = n' := by simp [rngI]
    rw [this]
    have e9 : (List.range n').filter (okP R len b) = cuts R len b := by
      rw [cuts_eq, ← hwh, hn']
      by_cases hc : b.length % wh = 0
      · simp [hc]
      · simp [hc]
    rw [e9]
    exact ret_v rfl
end
end K81

namespace K81
open PySem PySem.Spec PyProof.Rows L2 Eng
/-- a cup that may be drawn from -/
def Cup (rest st : Sto) : Prop := ∃ a b : Int, 0 ≤ a ∧ 0 ≤ b ∧ b < 4294967296 ∧ st = C a b :: rest
theorem Cup.roll {rest st : Sto} (h : Cup rest st) {many : Int} (h1 : 1 ≤ many) (h2 : many < 1000000) : ∃ (r : Nat) (st' : Sto), (r : Int) < many ∧ Cup rest st' ∧ m__law_roll [.loc 0, .v (.int many)] st = .ok (.v (.int r)) st' := by
  obtain ⟨a, b, ha, hb, hb2, rfl⟩ := h
  obtain ⟨r, a', b', h3, h4, h5, h6, h7, h8⟩ := roll_s (rest := rest) ha hb hb2 h1 h2
  exact ⟨r.toNat, _, by omega, ⟨a', b', h5, h6, h7, rfl⟩, by rw [show ((r.toNat : Nat) : Int) = r by omega]; exact h8⟩
theorem Cup.some {rest st : Sto} (h : Cup rest st) {xs : List Val} (hx : xs ≠ []) (hl : xs.length < 1000000) (tg : Bool) : ∃ (x : Val) (st' : Sto), x ∈ xs ∧ Cup rest st' ∧ m__law_some [.loc 0, .v (if tg = true then .tup xs else .lst xs)] st = .ok (.v x) st' := by
  obtain ⟨a, b, ha, hb, hb2, rfl⟩ := h
  obtain ⟨x, a', b', h3, h4, h5, h6, h7⟩ := some_s (rest := rest) ha hb hb2 hx hl tg
  exact ⟨x, _, h3, ⟨a', b', h4, h5, h6, rfl⟩, h7⟩
theorem at_abcd {L r : Nat} (h4 : L ≤ 4) (hr : r < L) : ∃ c, vIx (.str [97, 98, 99, 100]) (.int r) = some (.v (.str [c])) ∧ c ∈ [97, 98, 99, 100].take L := by
  have hlt : r < [97, 98, 99, 100].length := by simp; omega
  refine ⟨[97, 98, 99, 100][r], ?_, ?_⟩
  · rw [s_ixS, atI_nat (List.getElem?_eq_getElem hlt)]
    rfl
  · refine List.mem_iff_getElem.mpr ⟨r, by simp; omega, by simp⟩
/-- a word of the given length over the first letters -/
structure Wd (L len : Nat) (w : List Nat) : Prop where
  len : w.length = len
  ok : okL L w = true
theorem okL_app {L : Nat} {a b : List Nat} : okL L (a ++ b) = (okL L a && okL L b) := by unfold okL; rw [List.all_append]
theorem okL_sub {L : Nat} {a b : List Nat} (h : ∀ c ∈ a, c ∈ b) (hb : okL L b = true) : okL L a = true := by
  unfold okL at *
  exact List.all_eq_true.mpr fun c hc => List.all_eq_true.mp hb c (h c hc)
theorem word_s {L len : Nat} (h1 : 1 ≤ L) (h4 : L ≤ 4) (n1 : 1 ≤ len) (n4 : len ≤ 4) {rest st : Sto} (hc : Cup rest st) {env : Eng.Env} (e0 : ∀ st z, eVar 0 ((wipeE env [8]).set 8 z) st = .ok (.loc 0) st) (e1 : ∀ st z, eVar 1 ((wipeE env [8]).set 8 z) st = .ok (.v (.int L)) st) (e2' : eVar 2 env st = .ok (.v (.int len)) st) :
    ∃ w st', Wd L len w ∧ Cup rest st' ∧ eM "str" vJoin (eC (.str [])) (aCons (eComp (iRng1F (aCons (eVar 2) aNil)) (.n 8) tYesF (e2 vIx (eC (.str [97, 98, 99, 100])) (eCall m__law_roll (aCons (eVar 0) (aCons (eVar 1) aNil)))) [8]) aNil) env st = .ok (.v (.str w)) st' := by
  obtain ⟨ys, st', k1, k2, k3, k4⟩ := comp_st (fi := iRng1F (aCons (eVar 2) aNil)) (p := .n 8) (fe := e2 vIx (eC (.str [97, 98, 99, 100])) (eCall m__law_roll (aCons (eVar 0) (aCons (eVar 1) aNil)))) (vs := [8]) (env := env) (st := st) (xs := rngI 0 len) (Cup rest) (fun y => ∃ c, y = .str [c] ∧ c ∈ [97, 98, 99, 100].take L)
    (by unfold iRng1F; rw [ar_1 e2']; simp [small]; omega) (by simp [rngI]; omega) hc (fun x hx s hs => by
      obtain ⟨r, s', r1, r2, r3⟩ := hs.roll (many := L) (by omega) (by omega)
      obtain ⟨c, c1, c2⟩ := at_abcd h4 (r := r) (by omega)
      refine ⟨_, rfl, .v (.str [c]), s', ?_, ⟨_, rfl, c, rfl, c2⟩, r2⟩
      have f := ec_ok (c := m__law_roll) (ar_c (e0 s (some (.v x))) (ar_1 (e1 s (some (.v x))))) r3
      unfold e2
      rw [s_eC, s_bind_ok, f]
      simp only [s_bind_ok, s_val_v, Option.bind_some, c1, s_outO])
  obtain ⟨cs, hcs, hok⟩ : ∃ cs : List Nat, ys = cs.map (fun c => .str [c]) ∧ okL L cs = true := by
    clear k1 k2
    induction ys with
    | nil => exact ⟨[], rfl, rfl⟩
    | cons y ys ih =>
      obtain ⟨c, rfl, hc⟩ := k3 y (by simp)
      obtain ⟨cs, rfl, ho⟩ := ih fun q hq => k3 q (by simp [hq])
      refine ⟨c :: cs, rfl, ?_⟩
      unfold okL at *
      rw [List.all_cons, ho]
      simpa using hc
  have hlen : cs.length = len := by
    rw [hcs, List.length_map] at k2
    simpa [rngI] using k2
  refine ⟨cs, st', ⟨hlen, hok⟩, k4, ?_⟩
  have hfl : (cs.map fun c => [c]).flatten = cs := by
    clear hcs hok hlen
    induction cs with
    | nil => rfl
    | cons c cs ih => simp [ih]
  have e := (join_ok0 (ys := cs.map fun c => [c]) (by simp; omega) (by rw [hfl]; exact sok_of (okL_lt hok) (by omega))).2
  rw [hfl, List.map_map] at e
  rw [s_eM, s_eC]
  simp only [s_bind_ok, s_val_v, s_rcv_str, if_true, s_aCons, k1, s_aNil, s_froz_fl, s_valsOf, s_valsOf0, Option.bind_some]
  rw [hcs]
  rw [show (cs.map fun c => Val.str [c]) = cs.map (Val.str ∘ fun c => [c]) from rfl, e]
  rfl
end K81

namespace K81
open PySem PySem.Spec PyProof.Rows L2 Eng
abbrev Dw (ws : List (List Nat)) : Sto := [.dic false (dv ws)]
/-- rows[w] = True -/
theorem store_s {ws : List (List Nat)} {st : Sto} (hc : Cup (Dw ws) st) {env : Eng.Env} {fi : Fe} {w : List Nat} (he : eVar 5 env st = .ok (.loc 1) st) (hi : fi env st = .ok (.v (.str w)) st) (hl : ws.length < 1000) :
    ∃ st', Cup (Dw (addW ws w)) st' ∧ gSt oSet (eVar 5) fi (.v (.bl true)) env st = .nx env st' := by
  obtain ⟨a, b, ha, hb, hb2, rfl⟩ := hc
  refine ⟨C a b :: Dw (addW ws w), ⟨a, b, ha, hb, hb2, rfl⟩, ?_⟩
  unfold gSt
  rw [he]
  simp only
  rw [hi]
  have e1 : (C a b :: Dw ws)[1]? = some (.dic false (dv ws)) := rfl
  have e2 : oSet (.dic false (dv ws)) (.str w) (.bl true) = some (.dic false (dv (addW ws w))) := by
    show (if (Eng.keyIs false (.str w) && decide ((dv ws).length < 1000000)) = true then some (SO.dic false (dPut (dv ws) (.str w) (.bl true))) else none) = _
    rw [if_pos (by rw [dv_len]; simp [Eng.keyIs]; omega), dPut_dv]
  simp only [e1, s_val_v, e2]
  rfl
/-- the words that are kept -/
structure Ws (L len n : Nat) (ws : List (List Nat)) : Prop where
  wd : ∀ w ∈ ws, Wd L len w
  nd : ws.Nodup
  le : ws.length ≤ n
theorem Ws.add {L len n : Nat} {ws : List (List Nat)} (h : Ws L len n ws) {w : List Nat} (hw : Wd L len w) : Ws L len (n + 1) (addW ws w) := by
  refine ⟨fun q hq => ?_, addW_nodup h.nd, Nat.le_trans (addW_len _ _) (Nat.add_le_add_right h.le 1)⟩
  rcases addW_mem hq with q1 | rfl
  · exact h.wd q q1
  · exact hw
theorem cutm1 {α : Type} (xs : List α) (h : 1 ≤ xs.length) : cutL xs none (some (-1)) = xs.take (xs.length - 1) := by
  unfold cutL
  have e : HT.sIx xs.length xs.length (some (-1)) = xs.length - 1 := by
    show (if (-1 : Int) < 0 then ((-1 : Int) + (xs.length : Int)).toNat else min (-1 : Int).toNat xs.length) = _
    rw [if_pos (by decide)]
    omega
  rw [e, HT.sIx_none]
  simp
theorem key_s {L len : Nat} (h4 : L ≤ 4) {w : List Nat} (hw : Wd L len w) (n1 : 1 ≤ len) (n4 : len ≤ 4) {r : Nat} (hr : r < L) {env : Eng.Env} {st : Sto} (e9 : eVar 9 env st = .ok (.v (.str w)) st) (e8 : eVar 8 env st = .ok (.v (.int r)) st) :
    ∃ w3, Wd L len w3 ∧ e2 vAdd (eSl (eVar 9) pNo (pAt (e1 vNeg (eC (.int 1))))) (e2 vIx (eC (.str [97, 98, 99, 100])) (eVar 8)) env st = .ok (.v (.str w3)) st := by
  obtain ⟨c, c1, c2⟩ := at_abcd h4 hr
  have hl := hw.len
  have ok1 : okL L (w.take (len - 1)) = true := okL_sub (fun c hc => List.mem_of_mem_take hc) hw.ok
  have ok2 : okL L [c] = true := by unfold okL; simpa using c2
  have okA : okL L (w.take (len - 1) ++ [c]) = true := by rw [okL_app, ok1, ok2]; rfl
  refine ⟨w.take (len - 1) ++ [c], ⟨by simp [hl]; omega, okA⟩, ?_⟩
  refine e2_ok (x := .str (w.take (len - 1))) (y := .str [c]) ?_ (e2_ok (x := .str [97, 98, 99, 100]) (y := .int r) rfl e8 c1) ?_
  · rw [s_eSl, e9]
    simp [vNeg, cutm1 w (by omega), hl]
  · rw [s_addS, if_pos (sok_of (okL_lt okA) (by simp [hl]; omega))]
def more (n : Nat) : Fs := sFor (iRng1F (aCons (eVar 1) aNil)) (.n 8) n [] (sAsg (eC (.bl true)) (gSt oSet (eVar 5) (e2 vAdd (eSl (eVar 9) pNo (pAt (e1 vNeg (eC (.int 1))))) (e2 vIx (eC (.str [97, 98, 99, 100])) (eVar 8)))))
theorem more_s {L len : Nat} (h4 : L ≤ 4) {w : List Nat} (hw : Wd L len w) (n1 : 1 ≤ len) (n4 : len ≤ 4) {ws : List (List Nat)} {N n : Nat} (hws : Ws L len N ws) (hne : ws ≠ []) (hN : N ≤ 100) {st : Sto} (hc : Cup (Dw ws) st) {z0 z2 z3 z4 z6 z7 z8 z10 : Option SV} :
    ∃ ws' st' z8', Ws L len (N + 4) ws' ∧ ws' ≠ [] ∧ Cup (Dw ws') st' ∧ more n [z0, some (.v (.int L)), z2, z3, z4, some (.loc 1), z6, z7, z8, some (.v (.str w)), z10] st = .nx [z0, some (.v (.int L)), z2, z3, z4, some (.loc 1), z6, z7, z8', some (.v (.str w)), z10] st' := by
  have key := for_inv (p := .n 8) (n := n) (B := []) (fi := iRng1F (aCons (eVar 1) aNil)) (body := sAsg (eC (.bl true)) (gSt oSet (eVar 5) (e2 vAdd (eSl (eVar 9) pNo (pAt (e1 vNeg (eC (.int 1))))) (e2 vIx (eC (.str [97, 98, 99, 100])) (eVar 8))))) (xs := rngI 0 L)
    (env := [z0, some (.v (.int L)), z2, z3, z4, some (.loc 1), z6, z7, z8, some (.v (.str w)), z10]) (st := st) (st1 := st)
    (fun i env s => ∃ z8 ws', env = [z0, some (.v (.int L)), z2, z3, z4, some (.loc 1), z6, z7, z8, some (.v (.str w)), z10] ∧ Ws L len (N + i) ws' ∧ ws' ≠ [] ∧ Cup (Dw ws') s) (by simp [iRng1F, small]; omega) ⟨z8, ws, rfl, hws, hne, hc⟩ (fun i x env s hx hI => by
      obtain ⟨z8, ws', rfl, q1, q2, q3⟩ := hI
      have hlt : i < L := by
        have := (List.getElem?_eq_some_iff.mp hx).1
        simpa [rngI] using this
      have ex : x = .int (i : Int) := by
        unfold rngI at hx
        rw [List.getElem?_map, List.getElem?_range hlt] at hx
        have := Option.some.inj hx
        rw [← this]; simp
      subst ex
      refine ⟨_, rfl, ?_⟩
      obtain ⟨w3, k1, k2⟩ := key_s h4 hw n1 n4 hlt (env := [z0, some (.v (.int L)), z2, z3, z4, some (.loc 1), z6, z7, some (.v (.int i)), some (.v (.str w)), z10]) (st := s) rfl rfl
      obtain ⟨s', c1, c2⟩ := store_s q3 (env := [z0, some (.v (.int L)), z2, z3, z4, some (.loc 1), z6, z7, some (.v (.int i)), some (.v (.str w)), z10]) rfl k2 (by have := q1.le; omega)
      refine ⟨_, s', ?_, some (.v (.int i)), addW ws' w3, rfl, q1.add k1, addW_pos _ _, c1⟩
      show sAsg _ _ [z0, some (.v (.int L)), z2, z3, z4, some (.loc 1), z6, z7, some (.v (.int i)), some (.v (.str w)), z10] s = _
      unfold sAsg
      rw [s_eC]
      simp only [s_toS, s_froz_v, c2])
  obtain ⟨env', st', h1, z8', ws', rfl, q1, q2, q3⟩ := key
  refine ⟨ws', st', z8', ⟨q1.wd, q1.nd, ?_⟩, q2, q3, h1⟩
  have := q1.le
  have e : (rngI 0 L).length = L := by simp [rngI]
  omega
def turnB (n : Nat) : Fs := sSeq (sSet (.f) n [] 9 (eM "str" vJoin (eC (.str [])) (aCons (eComp (iRng1F (aCons (eVar 2) (aNil))) (.n 8) (tYesF) (e2 vIx (eC (.str [97, 98, 99, 100])) (eCall m__law_roll (aCons (eVar 0) (aCons (eVar 1) (aNil))))) [8]) (aNil)))) (sSeq (sSet (.f) n [] 10 (eCall m__law_roll (aCons (eVar 0) (aCons (eVar 2) (aNil))))) (sSeq (sSet (.f) n [] 9 (eSl (e2 vAdd (eSl (eVar 6) (pNo) (pAt (eVar 10))) (eVar 9)) (pNo) (pAt (eVar 2)))) (sSeq (sTup (bCons (.f) n [] (eCall m__law_some (aCons (eVar 0) (aCons (eLst (aCons (eVar 6) (aCons (eVar 9) (aNil)))) (aNil)))) (bCons (.f) n [] (eC (.bl true)) (bNil))) (gsCons (gN 6) (gsCons (gSt oSet (eVar 5) (eVar 9)) (gsNil)))) (sIf (tV (e2 vEq (eCall m__law_roll (aCons (eVar 0) (aCons (eC (.int 3)) (aNil)))) (eC (.int 0)))) (more n) (sNil)))))
theorem turn_s {L len : Nat} (h1 : 1 ≤ L) (h4 : L ≤ 4) (n1 : 1 ≤ len) (n4 : len ≤ 4) {h : List Nat} (hh : Wd L len h) {ws : List (List Nat)} {N n : Nat} (hws : Ws L len N ws) (hN : N ≤ 90) {st : Sto} (hc : Cup (Dw ws) st) {z3 z4 z7 z8 z9 z10 : Option SV} :
    ∃ ws' st' h' z8' z9' z10', Ws L len (N + 5) ws' ∧ ws' ≠ [] ∧ Wd L len h' ∧ Cup (Dw ws') st' ∧ turnB n [some (.loc 0), some (.v (.int L)), some (.v (.int len)), z3, z4, some (.loc 1), some (.v (.str h)), z7, z8, z9, z10] st
      = .nx [some (.loc 0), some (.v (.int L)), some (.v (.int len)), z3, z4, some (.loc 1), some (.v (.str h')), z7, z8', z9', z10'] st' := by
  obtain ⟨w, s1, w1, c1, e1⟩ := word_s h1 h4 n1 n4 hc (env := [some (.loc 0), some (.v (.int L)), some (.v (.int len)), z3, z4, some (.loc 1), some (.v (.str h)), z7, z8, z9, z10]) (fun _ _ => rfl) (fun _ _ => rfl) rfl
  obtain ⟨r, s2, r1, c2, e2'⟩ := c1.roll (many := len) (by omega) (by omega)
  have hhl := hh.len
  have hwl := w1.len
  have okA : okL L (h.take r ++ w) = true := by rw [okL_app, okL_sub (fun c hc => List.mem_of_mem_take hc) hh.ok, w1.ok]; rfl
  have w2 : Wd L len ((h.take r ++ w).take len) := ⟨by simp [hhl, hwl], okL_sub (fun c hc => List.mem_of_mem_take hc) okA⟩
  obtain ⟨x, s3, x1, c3, e3⟩ := c2.some (xs := [.str h, .str ((h.take r ++ w).take len)]) (by simp) (by simp) false
  obtain ⟨h', hx, hh'⟩ : ∃ h', x = .str h' ∧ Wd L len h' := by
    rcases List.mem_cons.mp x1 with rfl | x1
    · exact ⟨h, rfl, hh⟩
    · have : x = .str ((h.take r ++ w).take len) := by simpa using x1
      exact ⟨_, this, w2⟩
  subst hx
  obtain ⟨s4, c4, e4⟩ := store_s c3 (env := [some (.loc 0), some (.v (.int L)), some (.v (.int len)), z3, z4, some (.loc 1), some (.v (.str h')), z7, z8, some (.v (.str ((h.take r ++ w).take len))), some (.v (.int r))]) (fi := eVar 9) rfl rfl (by have := hws.le; omega)
  obtain ⟨r5, s5, _, c5, e5⟩ := c4.roll (many := 3) (by decide) (by decide)
  have chain : ∀ {env' : Eng.Env} {st' : Sto}, sIf (tV (e2 vEq (eCall m__law_roll (aCons (eVar 0) (aCons (eC (.int 3)) (aNil)))) (eC (.int 0)))) (more n) (sNil) [some (.loc 0), some (.v (.int L)), some (.v (.int len)), z3, z4, some (.loc 1), some (.v (.str h')), z7, z8, some (.v (.str ((h.take r ++ w).take len))), some (.v (.int r))] s4 = .nx env' st' →
      turnB n [some (.loc 0), some (.v (.int L)), some (.v (.int len)), z3, z4, some (.loc 1), some (.v (.str h)), z7, z8, z9, z10] st = .nx env' st' := fun {env' st'} hk => by
    refine (seq_nx (set_v e1)).trans ((seq_nx (set_v (ec_ok (ar_c (z1 := .loc 0) rfl (ar_1 (z1 := .v (.int len)) rfl)) e2'))).trans (stV (x := .str ((h.take r ++ w).take len)) ?_ ((seq_nx (tup_nx (env1 := [some (.loc 0), some (.v (.int L)), some (.v (.int len)), z3, z4, some (.loc 1), some (.v (.str h)), z7, z8, some (.v (.str ((h.take r ++ w).take len))), some (.v (.int r))]) (st1 := s3) (zs := [.v (.str h'), .v (.bl true)]) ?_ ?_)).trans hk)))
    · have a1 : e2 vAdd (eSl (eVar 6) pNo (pAt (eVar 10))) (eVar 9) [some (.loc 0), some (.v (.int L)), some (.v (.int len)), z3, z4, some (.loc 1), some (.v (.str h)), z7, z8, some (.v (.str w)), some (.v (.int r))] s2 = .ok (.v (.str (h.take r ++ w))) s2 := by
        refine e2_ok (x := .str (h.take r)) (y := .str w) ?_ rfl ?_
        · simp [cutT]
        · rw [s_addS, if_pos (sok_of (okL_lt okA) (by simp [hhl, hwl]; omega))]
      show eSl _ _ _ [some (.loc 0), some (.v (.int L)), some (.v (.int len)), z3, z4, some (.loc 1), some (.v (.str h)), z7, z8, some (.v (.str w)), some (.v (.int r))] s2 = _
      rw [s_eSl, a1]
      simp [cutT]
    · refine bc_v (ec_ok (ar_c (z1 := .loc 0) rfl (ar_1 (z1 := .fl [.str h, .str ((h.take r ++ w).take len)]) ?_)) e3) (bc_v rfl rfl)
      simp
    · rw [s_gsCons, s_gN]
      simp only [s_andThen_nx]
      rw [s_gsCons]
      refine (congrArg (fun q => Rs.andThen q _) e4).trans ?_
      rfl
  by_cases hr5 : r5 = 0
  · subst hr5
    obtain ⟨ws', st', z8', q1, q2, q3, q4⟩ := more_s (n := n) (z0 := some (.loc 0)) (z2 := some (.v (.int len))) (z3 := z3) (z4 := z4) (z6 := some (.v (.str h'))) (z7 := z7) (z8 := z8) (z10 := some (.v (.int r))) h4 w2 n1 n4 (hws.add w2) (addW_pos _ _) (by omega) c5
    refine ⟨ws', st', h', z8', _, _, ⟨q1.wd, q1.nd, by have := q1.le; omega⟩, q2, hh', q3, chain ((if_t (st1 := s5) ?_).trans q4)⟩
    have f := ec_ok (c := m__law_roll) (env := [some (.loc 0), some (.v (.int L)), some (.v (.int len)), z3, z4, some (.loc 1), some (.v (.str h')), z7, z8, some (.v (.str ((h.take r ++ w).take len))), some (.v (.int r))]) (ar_c (fa := eVar 0) (z1 := .loc 0) rfl (ar_1 (fa := eC (.int 3)) (z1 := .v (.int 3)) rfl)) e5
    rw [s_tV, s_e2, f]
    rfl
  · refine ⟨addW ws ((h.take r ++ w).take len), s5, h', z8, _, _, ⟨(hws.add w2).wd, (hws.add w2).nd, by have := (hws.add w2).le; omega⟩, addW_pos _ _, hh', c5, chain ((if_f (st1 := s5) ?_).trans rfl)⟩
    have f := ec_ok (c := m__law_roll) (env := [some (.loc 0), some (.v (.int L)), some (.v (.int len)), z3, z4, some (.loc 1), some (.v (.str h')), z7, z8, some (.v (.str ((h.take r ++ w).take len))), some (.v (.int r))]) (ar_c (fa := eVar 0) (z1 := .loc 0) rfl (ar_1 (fa := eC (.int 3)) (z1 := .v (.int 3)) rfl)) e5
    rw [s_tV, s_e2, f]
    simp [okD, eqB, hr5]
theorem strict {xs : List (List Nat)} (h : xs.Nodup) : (sortS xs).Pairwise (· < ·) := by
  have h1 := sortS_pair xs
  have h2 : (sortS xs).Nodup := (sortS_perm xs).nodup_iff.mpr h
  unfold List.Nodup at h2
  refine (h1.and h2).imp fun {a b} q => ?_
  obtain ⟨q1, q2⟩ := q
  unfold leS at q1
  have q3 : ¬ b < a := by simpa using q1
  exact Classical.byContradiction fun z => q2 (leS_anti a b (by unfold leS; simpa using q3) (by unfold leS; simpa using z))
theorem rep97 (n : Nat) : (List.replicate n [97]).flatten = List.replicate n 97 := by
  induction n with
  | zero => rfl
  | succ n ih => rw [List.replicate_succ, List.flatten_cons, ih]; rfl
theorem mul97 {n : Nat} (h : n ≤ 100) : vMul (.str [97]) (.int n) = some (.v (.str (List.replicate n 97))) := by
  have so : SOk (List.replicate n 97) = true := sok_of (fun c hc => by have := (List.mem_replicate.mp hc).2; omega) (by simp; omega)
  show (if (decide (0 ≤ (n : Int)) && decide ((n : Int) ≤ 1000) && decide ([97].length ≤ 1000) && SOk (List.replicate (n : Int).toNat [97]).flatten) = true then some (SV.v (.str (List.replicate (n : Int).toNat [97]).flatten)) else none) = _
  rw [Int.toNat_natCast, rep97, so, decide_eq_true (by omega), decide_eq_true (by omega)]
  rfl
theorem law_list_s {L len : Nat} (h1 : 1 ≤ L) (h4 : L ≤ 4) (n2 : 2 ≤ len) (n4 : len ≤ 4) {many most : Nat} (m1 : 1 ≤ many) (m2 : many ≤ 12) (k1 : 1 ≤ most) (k2 : most ≤ 40) {st : Sto} (hc : Cup [] st) :
    ∃ rows st', Good L len rows ∧ rows.length ≤ most ∧ Cup [] st' ∧ m__law_list [.loc 0, .v (.int L), .v (.int len), .v (.int many), .v (.int most)] st = .ok (.v (lw L rows)) st' := by
  obtain ⟨a, b, ha, hb, hb2, rfl⟩ := hc
  have hA : okL L (List.replicate len 97) = true := by
    unfold okL
    refine List.all_eq_true.mpr fun c hc => ?_
    have : c = 97 := (List.mem_replicate.mp hc).2
    subst this
    obtain ⟨l, rfl⟩ : ∃ l, L = l + 1 := ⟨L - 1, by omega⟩
    simp
  have key := for_inv (p := .n 7) (n := 1) (B := (([] ++ []) ++ (([] ++ []) ++ (([] ++ []) ++ ((([] ++ []) ++ (([] ++ []) ++ [])) ++ ([] ++ [])))))) (fi := iRng1F (aCons (eVar 3) aNil)) (body := turnB 1) (xs := rngI 0 many)
    (env := [some (.loc 0), some (.v (.int L)), some (.v (.int len)), some (.v (.int many)), some (.v (.int most)), some (.loc 1), some (.v (.str (List.replicate len 97))), none, none, none, none]) (st := C a b :: Dw []) (st1 := C a b :: Dw [])
    (fun i env s => ∃ h ws z7 z8 z9 z10, env = [some (.loc 0), some (.v (.int L)), some (.v (.int len)), some (.v (.int many)), some (.v (.int most)), some (.loc 1), some (.v (.str h)), z7, z8, z9, z10] ∧ Wd L len h ∧ Ws L len (5 * i) ws ∧ (0 < i → ws ≠ []) ∧ Cup (Dw ws) s ∧ i ≤ many)
    (by simp [iRng1F, small]; omega) ⟨_, [], _, _, _, _, rfl, ⟨by simp, hA⟩, ⟨(fun w hw => by cases hw), List.nodup_nil, Nat.zero_le _⟩, fun h => absurd h (Nat.lt_irrefl 0), ⟨a, b, ha, hb, hb2, rfl⟩, Nat.zero_le _⟩ (fun i x env s hx hI => by
      obtain ⟨h, ws, z7, z8, z9, z10, rfl, q1, q2, q3, q4, q5⟩ := hI
      have hlt : i < many := by
        have := (List.getElem?_eq_some_iff.mp hx).1
        simpa [rngI] using this
      obtain ⟨ws', st', h', z8', z9', z10', p1, p2, p3, p4, p5⟩ := turn_s h1 h4 (by omega) n4 q1 q2 (n := 1) (by omega) q4 (z3 := some (.v (.int many))) (z4 := some (.v (.int most))) (z7 := some (.v x)) (z8 := z8) (z9 := z9) (z10 := z10)
      exact ⟨_, rfl, _, _, p5, h', ws', some (.v x), z8', z9', z10', rfl, p3, ⟨p1.wd, p1.nd, by have := p1.le; omega⟩, fun _ => p2, p4, hlt⟩)
  obtain ⟨env', st', e1, h, ws, z7, z8, z9, z10, rfl, q1, q2, q3, q4, _⟩ := key
  have em : (rngI 0 many).length = many := by simp [rngI]
  rw [em] at q2 q3
  obtain ⟨a', b', ha', hb', hb2', rfl⟩ := q4
  have hne := q3 (by omega)
  have hle := q2.le
  have hsl : (sortS ws).length = ws.length := (sortS_perm ws).length_eq
  have hpos := List.length_pos_iff.mpr hne
  refine ⟨(sortS ws).take most, [C a' b'], ?_, by simp; omega, ⟨a', b', ha', hb', hb2', rfl⟩, ?_⟩
  · refine ⟨h1, h4, n2, n4, fun e => ?_, by simp; omega, fun r hr => ?_, fun r hr => ?_, (strict q2.nd).sublist (List.take_sublist _ _)⟩
    · have := congrArg List.length e
      rw [List.length_take, hsl] at this
      simp only [List.length_nil] at this
      omega
    · exact (q2.wd r ((sortS_perm ws).mem_iff.mp (List.mem_of_mem_take hr))).len
    · exact (q2.wd r ((sortS_perm ws).mem_iff.mp (List.mem_of_mem_take hr))).ok
  · rw [show m__law_list = callF 11 1 b__law_list from rfl]
    rw [call_rt (z := .v (lw L ((sortS ws).take most))) (z' := .v (lw L ((sortS ws).take most))) (st' := C a' b' :: Dw ws) ?_ rfl]
    · rfl
    · refine (seq_nx (env1 := [some (.loc 0), some (.v (.int L)), some (.v (.int len)), some (.v (.int many)), some (.v (.int most)), some (.loc 1), some (.v (.str (List.replicate len 97))), none, none, none, none]) (st1 := C a b :: Dw []) ?_).trans ((seq_nx e1).trans (ret_v ?_))
      · have hM : e2 vMul (eC (.str [97])) (eVar 2) [some (.loc 0), some (.v (.int L)), some (.v (.int len)), some (.v (.int many)), some (.v (.int most)), none, none, none, none, none, none] (C a b :: Dw []) = .ok (.v (.str (List.replicate len 97))) (C a b :: Dw []) :=
          e2_ok (x := .str [97]) (y := .int len) rfl rfl (mul97 (by omega))
        have hB := bc_c (n := 1) (j := 0) (fa := eDic false) (env := [some (.loc 0), some (.v (.int L)), some (.v (.int len)), some (.v (.int many)), some (.v (.int most)), none, none, none, none, none, none]) (st := [C a b, .dead]) (z := .fd false []) rfl (by rfl) (bc_v (n := 1) hM (by rfl : bNil _ _ = .ok [] _ _))
        show sPar [5, 6] _ [some (.loc 0), some (.v (.int L)), some (.v (.int len)), some (.v (.int many)), some (.v (.int most)), none, none, none, none, none, none] [C a b, .dead] = _
        rw [s_sPar]
        refine (congrArg (fun q => Rb.toS q _) hB).trans ?_
        rfl
      · have e6 : eB vSort (aCons (eVar 5) aNil) [some (.loc 0), some (.v (.int L)), some (.v (.int len)), some (.v (.int many)), some (.v (.int most)), some (.loc 1), some (.v (.str h)), z7, z8, z9, z10] (C a' b' :: Dw ws) = .ok (.fl (sv (sortS ws))) (C a' b' :: Dw ws) := by
          rw [s_eB, ar_1 (z1 := .loc 1) rfl]
          show outO ((some [Val.dic false (dv ws)]).bind vSort) _ = _
          rw [Option.bind_some, sort_dv (by omega)]
          rfl
        have e7 : eB vTuple (aCons (eSl (eB vSort (aCons (eVar 5) aNil)) pNo (pAt (eVar 4))) aNil) [some (.loc 0), some (.v (.int L)), some (.v (.int len)), some (.v (.int many)), some (.v (.int most)), some (.loc 1), some (.v (.str h)), z7, z8, z9, z10] (C a' b' :: Dw ws) = .ok (.v (.tup (sv ((sortS ws).take most)))) (C a' b' :: Dw ws) := by
          rw [s_eB, ar_1 (z1 := .fl (sv ((sortS ws).take most)))]
          · rfl
          · rw [s_eSl, e6]
            simp [cutT, sv]
        rw [s_eTup, ar_c (z1 := .v (.int L)) rfl (ar_1 e7)]
        rfl
end K81

namespace K81
open PySem PySem.Spec PyProof.Rows L2 Eng
theorem law_relay_s {L len : Nat} (h1 : 1 ≤ L) (h4 : L ≤ 4) (n2 : 2 ≤ len) (n4 : len ≤ 4) {lists many most : Nat} (i1 : 1 ≤ lists) (i4 : lists ≤ 4) (m1 : 1 ≤ many) (m2 : many ≤ 12) (k1 : 1 ≤ most) (k2 : most ≤ 40) {st : Sto} (hc : Cup [] st) :
    ∃ R st', R.length = lists ∧ GR L len R ∧ (∀ r ∈ R, r.length ≤ most) ∧ Cup [] st' ∧ m__law_relay [.loc 0, .v (.int lists), .v (.int L), .v (.int len), .v (.int many), .v (.int most)] st = .ok (.v (rV L R)) st' := by
  have key := for_inv (p := .n 7) (n := st.length) (B := [] ++ []) (fi := iRng1F (aCons (eVar 1) aNil)) (body := sSet .f st.length [] 6 (e2 vAdd (eVar 6) (eTup (aCons (eCall m__law_list (aCons (eVar 0) (aCons (eVar 2) (aCons (eVar 3) (aCons (eVar 4) (aCons (eVar 5) aNil)))))) aNil)))) (xs := rngI 0 lists)
    (env := [some (.loc 0), some (.v (.int lists)), some (.v (.int L)), some (.v (.int len)), some (.v (.int many)), some (.v (.int most)), some (.v (.tup [])), none]) (st := st) (st1 := st)
    (fun i env s => ∃ R z7, env = [some (.loc 0), some (.v (.int lists)), some (.v (.int L)), some (.v (.int len)), some (.v (.int many)), some (.v (.int most)), some (.v (rV L R)), z7] ∧ R.length = i ∧ (∀ r ∈ R, Good L len r ∧ r.length ≤ most) ∧ Cup [] s ∧ i ≤ lists)
    (by simp [iRng1F, small]; omega) ⟨[], none, rfl, rfl, (fun r hr => by cases hr), hc, Nat.zero_le _⟩ (fun i x env s hx hI => by
      obtain ⟨R, z7, rfl, q1, q2, q3, q4⟩ := hI
      have hlt : i < lists := by
        have := (List.getElem?_eq_some_iff.mp hx).1
        simpa [rngI] using this
      obtain ⟨rows, s', p1, p2, p3, p4⟩ := law_list_s h1 h4 n2 n4 m1 m2 k1 k2 q3
      refine ⟨_, rfl, [some (.loc 0), some (.v (.int lists)), some (.v (.int L)), some (.v (.int len)), some (.v (.int many)), some (.v (.int most)), some (.v (rV L (R ++ [rows]))), some (.v x)], s', ?_, R ++ [rows], some (.v x), rfl, by simp [q1], fun r hr => ?_, p3, hlt⟩
      · refine set_v ?_
        have f := ec_ok (c := m__law_list) (env := [some (.loc 0), some (.v (.int lists)), some (.v (.int L)), some (.v (.int len)), some (.v (.int many)), some (.v (.int most)), some (.v (rV L R)), some (.v x)]) (ar_c (fa := eVar 0) (z1 := .loc 0) rfl (ar_c (fa := eVar 2) (z1 := .v (.int L)) rfl (ar_c (fa := eVar 3) (z1 := .v (.int len)) rfl (ar_c (fa := eVar 4) (z1 := .v (.int many)) rfl (ar_1 (fa := eVar 5) (z1 := .v (.int most)) rfl))))) p4
        show e2 vAdd (eVar 6) _ [some (.loc 0), some (.v (.int lists)), some (.v (.int L)), some (.v (.int len)), some (.v (.int many)), some (.v (.int most)), some (.v (rV L R)), some (.v x)] s = _
        refine e2_h (za := .v (rV L R)) (zb := .v (.tup [lw L rows])) (x := rV L R) (y := .tup [lw L rows]) (st1 := s) rfl ?_ rfl rfl ?_
        · rw [s_eTup, s_aCons, f]; rfl
        · unfold rV
          rw [s_addT, if_pos (by simp; omega)]
          simp
      · rcases List.mem_append.mp hr with h | h
        · exact q2 r h
        · have : r = rows := by simpa using h
          exact this ▸ ⟨p1, p2⟩)
  obtain ⟨env', st', e1, R, z7, rfl, q1, q2, q3, _⟩ := key
  have em : (rngI 0 lists).length = lists := by simp [rngI]
  rw [em] at q1
  obtain ⟨a, b, ha, hb, hb2, rfl⟩ := hc
  have q3' := q3
  obtain ⟨a', b', ha', hb', hb2', rfl⟩ := q3'
  refine ⟨R, _, q1, ⟨fun e => by rw [e] at q1; simp at q1; omega, by omega, fun r hr => (q2 r hr).1⟩, fun r hr => (q2 r hr).2, q3, ?_⟩
  refine call_rt0 ?_ rfl
  exact (seq_nx (set_v (x := .tup []) (by simp))).trans ((seq_nx e1).trans (ret_v rfl))
theorem cup_s (ns : List Int) (hl : ns.length ≤ 63) {st : Sto} : ∃ a b : Int, 0 ≤ a ∧ 0 ≤ b ∧ b < 4294967296 ∧ m__law_cup [.v (.seq (ns.map .int))] st = .ok (.fl [.int a, .int b]) st := by
  obtain ⟨c, hc0, hc⟩ : ∃ c : Int, 0 ≤ c ∧ eB vAbs (aCons (e2 vIx (e2 vAdd (eB vList (aCons (eVar 0) aNil)) (eLst (aCons (eC (.int 0)) aNil))) (eC (.int 0))) aNil) [some (.v (.seq (ns.map .int))), none] st = .ok (.v (.int c)) st := by
    have e1 : e2 vAdd (eB vList (aCons (eVar 0) aNil)) (eLst (aCons (eC (.int 0)) aNil)) [some (.v (.seq (ns.map .int))), none] st = .ok (.fl (ns.map .int ++ [.int 0])) st := by
      refine e2_g (x := .lst (ns.map .int)) (y := .lst [.int 0]) (za := .fl (ns.map .int)) (zb := .fl [.int 0]) (by simp) (by simp) rfl rfl ?_
      rw [s_addL, if_pos (by simp; omega)]
    obtain ⟨x, hx⟩ : ∃ x : Int, L2.atI (ns.map Val.int ++ [.int 0]) 0 = some (.int x) := by
      cases ns with
      | nil => exact ⟨0, rfl⟩
      | cons y r => exact ⟨y, at0 _ _⟩
    have e2' := e2_g (o := vIx) (fb := eC (.int 0)) (x := .lst (ns.map .int ++ [.int 0])) (y := .int 0) (z := .v (.int x)) e1 rfl rfl rfl (by rw [s_ixL, hx]; rfl)
    refine ⟨if x < 0 then -x else x, by split <;> omega, ?_⟩
    rw [s_eB, ar_1 e2']
    rfl
  have hb := Int.emod_nonneg (c * 621 + 5331) (b := 2077503101) (by decide)
  have hb2 := Int.emod_lt_of_pos (c * 621 + 5331) (b := 2077503101) (by decide)
  refine ⟨if (10 ^ 18 : Int) ≤ c then c / 291 else 0, (c * 621 + 5331) % 2077503101 + 417, ?_, by omega, by omega, ?_⟩
  · split
    · exact Int.ediv_nonneg hc0 (by decide)
    · exact Int.le_refl 0
  · refine call_fl (stV hc (ret_v ?_))
    have t1 : tV (e2 vGe (eVar 1) (e2 vPow (eC (.int 10)) (eC (.int 18)))) [some (.v (.seq (ns.map .int))), some (.v (.int c))] st = .ok (decide ((10 ^ 18 : Int) ≤ c)) st :=
      tv_v (e2_ok (x := .int c) (y := .int (10 ^ 18)) rfl (e2_ok (x := .int 10) (y := .int 18) rfl rfl (by rfl)) rfl)
    have t2 : eIf (tV (e2 vGe (eVar 1) (e2 vPow (eC (.int 10)) (eC (.int 18))))) (e2 vDiv (eVar 1) (eC (.int 291))) (eC (.int 0)) [some (.v (.seq (ns.map .int))), some (.v (.int c))] st = .ok (.v (.int (if (10 ^ 18 : Int) ≤ c then c / 291 else 0))) st := by
      rw [s_eIf, t1, s_bind_ok]
      by_cases h : (10 ^ 18 : Int) ≤ c
      · rw [if_pos h, if_pos (decide_eq_true h)]
        exact e2_ok (x := .int c) (y := .int 291) rfl rfl rfl
      · rw [if_neg h, if_neg (by rw [decide_eq_false h]; decide)]
        rfl
    have m1 : e2 vMul (eVar 1) (eC (.int 621)) [some (.v (.seq (ns.map .int))), some (.v (.int c))] st = .ok (.v (.int (c * 621))) st := by
      refine e2_ok (x := .int c) (y := .int 621) rfl rfl ?_
      show (if (mulOk c || mulOk 621) = true then some (SV.v (Val.int (c * 621))) else none) = _
      rw [mul_small (b := 621) (by decide) (by decide), Bool.or_true, if_pos rfl]
    have m2 := e2_ok (o := vAdd) (fb := eC (.int 5331)) m1 rfl rfl
    have m3 : eB vInt (aCons (e2 vAdd (e2 vMul (eVar 1) (eC (.int 621))) (eC (.int 5331))) aNil) [some (.v (.seq (ns.map .int))), some (.v (.int c))] st = .ok (.v (.int (c * 621 + 5331))) st := by
      rw [s_eB, ar_1 m2]; rfl
    have m4 := e2_ok (o := vMod) (fb := eC (.int 2077503101)) (z := .v (.int ((c * 621 + 5331) % 2077503101))) m3 rfl (by rw [s_mod, if_pos (by decide)])
    have m5 := e2_ok (o := vAdd) (fb := eC (.int 417)) m4 rfl rfl
    show eLst _ [some (.v (.seq (ns.map .int))), some (.v (.int c))] st = _
    rw [s_eLst, ar_c t2 (ar_1 m5)]
    rfl
/-! cutting what was joined -/
theorem flat_drop {len : Nat} : ∀ (ws : List (List Nat)) (k : Nat), (∀ w ∈ ws, w.length = len) → ws.flatten.drop (k * len) = (ws.drop k).flatten
  | ws, 0, _ => by simp
  | [], k + 1, _ => by simp
  | w :: ws, k + 1, h => by
    have hw := h w (by simp)
    have ih := flat_drop ws k fun q hq => h q (by simp [hq])
    rw [List.flatten_cons, List.drop_succ_cons, ← ih, Nat.succ_mul, Nat.add_comm, ← hw, List.drop_append]
    simp
theorem flat_len {len : Nat} : ∀ (ws : List (List Nat)), (∀ w ∈ ws, w.length = len) → ws.flatten.length = ws.length * len
  | [], _ => by simp
  | w :: ws, h => by
    rw [List.flatten_cons, List.length_append, flat_len ws fun q hq => h q (by simp [hq]), h w (by simp), List.length_cons, Nat.succ_mul]
    omega
theorem rngLen_mul {len T : Nat} (h : 1 ≤ len) : rngLen 0 ((T * len : Nat) : Int) len = T := by
  unfold rngLen
  by_cases hT : T = 0
  · subst hT; simp
  · have hp : 0 < T * len := Nat.mul_pos (by omega) h
    rw [if_pos (by omega)]
    have e : ((T * len : Nat) : Int) - 0 - 1 = (len : Int) * ((T : Int) - 1) + ((len : Int) - 1) := by
      rw [Int.natCast_mul, Int.mul_sub, Int.mul_one, Int.mul_comm (T : Int)]
      omega
    rw [e, Int.mul_add_ediv_left _ _ (by omega), Int.ediv_eq_zero_of_lt (by omega) (by omega)]
    omega
theorem pcs_flat {len : Nat} (h : 1 ≤ len) (ws : List (List Nat)) (hw : ∀ w ∈ ws, w.length = len) : pcs len ws.flatten = ws := by
  unfold pcs
  rw [flat_len ws hw, rngLen_mul h]
  apply List.ext_getElem
  · simp
  · intro i h1 h2
    rw [List.getElem_map, List.getElem_range, flat_drop ws i hw, List.drop_eq_getElem_cons h2, List.flatten_cons, ← hw ws[i] (List.getElem_mem _), List.take_left']
    rfl
end K81

namespace K81
open PySem PySem.Spec PyProof.Rows L2 Eng
theorem rot_get {α : Type} (b : List α) {k j : Nat} (hk : k < b.length) (hj : j < b.length) : (rot b k)[j]? = b[(k + j) % b.length]? := by
  unfold rot
  by_cases h : k + j < b.length
  · rw [List.getElem?_append_left (by simp; omega), List.getElem?_drop, Nat.mod_eq_of_lt h]
  · rw [List.getElem?_append_right (by simp; omega), List.length_drop, List.getElem?_take, if_pos (by omega)]
    have : (k + j) % b.length = k + j - b.length := by rw [Nat.mod_eq_sub_mod (by omega), Nat.mod_eq_of_lt (by omega)]
    rw [this]
    congr 1
    omega
/-- the piece at a place of the closed belt -/
def Pc (b : List Nat) (len x : Nat) : List Nat := (rot b (x % b.length)).take len
theorem piece_Pc {b : List Nat} {len k m : Nat} (hk : k < b.length) (hm : m + len ≤ b.length) : ((rot b k).drop m).take len = Pc b len (k + m) := by
  have h0 : 0 < b.length := by omega
  unfold Pc
  apply List.ext_getElem?
  intro j
  rw [List.getElem?_take, List.getElem?_take]
  by_cases hj : j < len
  · rw [if_pos hj, if_pos hj, List.getElem?_drop, rot_get b hk (by omega), rot_get b (Nat.mod_lt _ h0) (by omega)]
    congr 1
    rw [Nat.mod_add_mod, Nat.add_assoc]
  · rw [if_neg hj, if_neg hj]
theorem Pc_per (b : List Nat) (len x m : Nat) : Pc b len (x + b.length * m) = Pc b len x := by unfold Pc; rw [Nat.add_mul_mod_self_left]
/-- in turn, for ever -/
def AllT (R : List (List (List Nat))) (len : Nat) (b : List Nat) (k : Nat) : Prop := ∀ i, Pc b len (k + i * len) ∈ R.getD (i % R.length) []
theorem okP_all {R : List (List (List Nat))} {len T k : Nat} {b : List Nat} (hl : 1 ≤ len) (hb : b.length = T * len) (hT : R.length ∣ T) (hk : k < b.length) : okP R len b k = true ↔ AllT R len b k := by
  have hpl : pcs len (rot b k) = (List.range T).map fun i => ((rot b k).drop (i * len)).take len := by
    unfold pcs
    rw [rot_len, hb, rngLen_mul hl]
  have hT0 : 0 < T := by
    cases T with
    | zero => rw [Nat.zero_mul] at hb; omega
    | succ t => omega
  have hin : ∀ i, i < T → i * len + len ≤ b.length := fun i hi => by
    rw [hb, ← Nat.succ_mul]
    exact Nat.mul_le_mul_right len hi
  unfold okP
  rw [inTurn_iff, hpl]
  constructor
  · intro h i
    have hi : i % T < T := Nat.mod_lt _ hT0
    have := h (i % T) _ (by rw [List.getElem?_map, List.getElem?_range hi]; rfl)
    replace this : ((rot b k).drop (i % T * len)).take len ∈ R.getD ((0 + i % T) % R.length) [] := this
    rw [piece_Pc hk (hin _ hi), Nat.zero_add] at this
    have e1 : Pc b len (k + i * len) = Pc b len (k + i % T * len) := by
      rw [← Pc_per b len (k + i % T * len) (i / T)]
      congr 1
      have : i = T * (i / T) + i % T := (Nat.div_add_mod i T).symm
      rw [hb]
      conv => lhs; rw [this]
      rw [Nat.add_mul, Nat.mul_assoc, Nat.mul_assoc, Nat.mul_comm len (i / T)]
      omega
    rw [e1, ← Nat.mod_mod_of_dvd i hT]
    exact this
  · intro h i p hp
    rw [List.getElem?_map] at hp
    by_cases hi : i < T
    · rw [List.getElem?_range hi] at hp
      have hp := Option.some.inj hp
      replace hp : ((rot b k).drop (i * len)).take len = p := hp
      rw [← hp, piece_Pc hk (hin i hi), Nat.zero_add]
      exact h i
    · rw [List.getElem?_eq_none (by simpa using hi)] at hp
      cases hp
theorem rot_getD {R : List (List (List Nat))} {by' i : Nat} (hb : by' < R.length) : (rot R by').getD (i % (rot R by').length) [] = R.getD ((i + by') % R.length) [] := by
  have h0 : 0 < R.length := by omega
  rw [rot_len, List.getD_eq_getElem?_getD, List.getD_eq_getElem?_getD, rot_get R hb (Nat.mod_lt _ h0), Nat.add_mod_mod, Nat.add_comm]
/-- the cuts of the turned relay -/
theorem turn_all {R : List (List (List Nat))} {len T k f by' q : Nat} {b : List Nat} (hb : b.length = T * len) (hT : R.length ∣ T) (h0 : 0 < T) (hby : by' < R.length) (hf : k + by' * len = f + q * (R.length * len)) (hq : q ≤ 1) : AllT (rot R by') len b f ↔ AllT R len b k := by
  obtain ⟨t, ht⟩ := hT
  have ht0 : 1 ≤ t := by
    cases t with
    | zero => simp at ht; omega
    | succ t => omega
  have hR : R.length ≤ T := by rw [ht]; exact Nat.le_mul_of_pos_right _ ht0
  unfold AllT
  constructor
  · intro h i
    -- piece i of k is piece (i + T - by') of f
    have := h (i + T + q * R.length - by')
    rw [rot_getD hby, show i + T + q * R.length - by' + by' = i + T + q * R.length by omega] at this
    have e1 : (i + T + q * R.length) % R.length = i % R.length := by
      rw [Nat.add_mul_mod_self_right, ht, Nat.add_mul_mod_self_left]
    have e2 : f + (i + T + q * R.length - by') * len = k + i * len + b.length * 1 := by
      rw [hb, Nat.sub_mul, Nat.add_mul, Nat.add_mul, Nat.mul_assoc]
      have : by' * len ≤ i * len + T * len + q * (R.length * len) := by
        have : by' * len ≤ T * len := Nat.mul_le_mul_right _ (by omega)
        omega
      omega
    rw [e1, e2, Pc_per] at this
    exact this
  · intro h i
    rw [rot_getD hby]
    -- piece i of f is piece (i + by' + T - q n) of k
    have hqn : q * R.length ≤ T := by
      have : q * R.length ≤ 1 * R.length := Nat.mul_le_mul_right _ hq
      omega
    have := h (i + by' + T - q * R.length)
    have e1 : (i + by' + T - q * R.length) % R.length = (i + by') % R.length := by
      have : i + by' + T - q * R.length = i + by' + R.length * (t - q) := by
        rw [Nat.mul_sub, ← ht, Nat.mul_comm R.length q]
        have : q * R.length ≤ T := hqn
        omega
      rw [this, Nat.add_mul_mod_self_left]
    have e2 : k + (i + by' + T - q * R.length) * len = f + i * len + b.length * 1 := by
      rw [hb, Nat.sub_mul, Nat.add_mul, Nat.add_mul, Nat.mul_assoc]
      have : q * (R.length * len) ≤ i * len + by' * len + T * len := by
        have := Nat.mul_le_mul_right len hqn
        rw [Nat.mul_assoc] at this
        omega
      omega
    rw [e1, e2, Pc_per] at this
    exact this
theorem cuts_turn {R : List (List (List Nat))} {len by' : Nat} {b : List Nat} (hR : R ≠ []) (hl : 1 ≤ len) (hb1 : 1 ≤ b.length) (hby : by' < R.length) :
    (cuts (rot R by') len b).map (fun k : Nat => (k : Int)) = sortI ((cuts R len b).map fun k : Nat => ((k : Int) + ((by' : Int) * (len : Int))) % ((R.length * len : Nat) : Int)) := by
  have hn : 0 < R.length := List.length_pos_iff.mpr hR
  have hW : 0 < R.length * len := Nat.mul_pos hn hl
  rw [cuts_eq, cuts_eq, rot_len]
  by_cases hc : b.length % (R.length * len) = 0
  · rw [if_neg (by simp [hc]), if_neg (by simp [hc])]
    obtain ⟨t, ht⟩ := Nat.dvd_of_mod_eq_zero hc
    have hb : b.length = (R.length * t) * len := by rw [ht]; rw [Nat.mul_assoc, Nat.mul_assoc, Nat.mul_comm len t]
    have ht0 : 0 < t := by
      cases t with
      | zero => simp at ht; omega
      | succ t => omega
    have hT : R.length ∣ R.length * t := Nat.dvd_mul_right _ _
    have hT0 : 0 < R.length * t := Nat.mul_pos hn ht0
    have hWb : R.length * len ≤ b.length := by rw [ht]; exact Nat.le_mul_of_pos_right _ ht0
    have hbyl : by' * len < R.length * len := Nat.mul_lt_mul_of_pos_right hby hl
    have hmod : ∀ x : Nat, x < R.length * len → (∃ q, q ≤ 1 ∧ x + by' * len = (x + by' * len) % (R.length * len) + q * (R.length * len)) := fun x hx => by
      by_cases hlt : x + by' * len < R.length * len
      · exact ⟨0, by omega, by rw [Nat.mod_eq_of_lt hlt]; omega⟩
      · exact ⟨1, Nat.le_refl _, by rw [Nat.mod_eq_sub_mod (by omega), Nat.mod_eq_of_lt (by omega)]; omega⟩
    have hcast : ∀ x : Nat, ((x : Int) + ((by' : Int) * (len : Int))) % ((R.length * len : Nat) : Int) = (((x + by' * len) % (R.length * len) : Nat) : Int) := fun x => by simp
    have hok : ∀ x, x < R.length * len → okP (rot R by') len b ((x + by' * len) % (R.length * len)) = okP R len b x := fun x hx => by
      obtain ⟨q, hq, e⟩ := hmod x hx
      have hlt := Nat.mod_lt (x + by' * len) hW
      rw [Bool.eq_iff_iff, okP_all hl hb (by rw [rot_len]; exact hT) (by omega), okP_all hl hb hT (by omega)]
      exact turn_all hb hT hT0 hby e hq
    refine sortI_uniq ?_ ?_
    · refine (List.perm_ext_iff_of_nodup ?_ ?_).mpr fun z => ?_
      · exact List.Pairwise.map _ (fun a b h e => h (by omega)) (List.nodup_range.filter _)
      · refine List.pairwise_map.mpr (List.Pairwise.imp_of_mem (fun {x y} hx hy h e => h ?_) (List.nodup_range.filter _))
        have hx : x < R.length * len := by simpa using (List.mem_filter.mp hx).1
        have hy : y < R.length * len := by simpa using (List.mem_filter.mp hy).1
        rw [hcast, hcast] at e
        have e : (x + by' * len) % (R.length * len) = (y + by' * len) % (R.length * len) := by omega
        obtain ⟨q, hq, e1⟩ := hmod x hx
        obtain ⟨r, hr, e2⟩ := hmod y hy
        have : q = 0 ∨ q = 1 := by omega
        have : r = 0 ∨ r = 1 := by omega
        rcases ‹q = 0 ∨ q = 1› with rfl | rfl <;> rcases ‹r = 0 ∨ r = 1› with rfl | rfl <;> omega
      · rw [List.mem_map, List.mem_map]
        constructor
        · rintro ⟨f, hf, rfl⟩
          obtain ⟨h1, h2⟩ := List.mem_filter.mp hf
          have h1 : f < R.length * len := by simpa using h1
          -- the place that is turned to f
          let k := (f + (R.length * len - by' * len)) % (R.length * len)
          have hk : k < R.length * len := Nat.mod_lt _ hW
          have hkf : (k + by' * len) % (R.length * len) = f := by
            show ((f + (R.length * len - by' * len)) % (R.length * len) + by' * len) % (R.length * len) = f
            rw [Nat.mod_add_mod, show f + (R.length * len - by' * len) + by' * len = f + R.length * len by omega, Nat.add_mod_right, Nat.mod_eq_of_lt h1]
          refine ⟨k, List.mem_filter.mpr ⟨by simpa using hk, ?_⟩, by rw [hcast, hkf]⟩
          rw [← hok k hk, hkf]
          exact h2
        · rintro ⟨k, hk, rfl⟩
          obtain ⟨h1, h2⟩ := List.mem_filter.mp hk
          have h1 : k < R.length * len := by simpa using h1
          refine ⟨(k + by' * len) % (R.length * len), List.mem_filter.mpr ⟨by simpa using Nat.mod_lt _ hW, ?_⟩, (hcast k).symm⟩
          rw [hok k h1]
          exact h2
    · refine List.pairwise_map.mpr ((List.Pairwise.filter _ List.pairwise_lt_range).imp fun {a b} h => ?_)
      omega
  · rw [if_pos hc, if_pos hc]
    simp [sortI, isort]
end K81

namespace K81
open PySem PySem.Spec PyProof.Rows L2 Eng
def lr0 (n : Nat) : Fs := sSet (.f) n [] 6 (eCall m__law_relay (aCons (eVar 0) (aCons (eVar 1) (aCons (eVar 2) (aCons (eVar 3) (aCons (eVar 4) (aCons (eVar 5) (aNil))))))))
def lr1 (n : Nat) : Fs := sSet (.f) n [] 7 (e2 vMul (eVar 1) (eVar 3))
def lr2 (n : Nat) : Fs := sSet (.f) n [] 8 (eTup (aNil))
def lr3 (n : Nat) : Fs := sFor (iRng1F (aCons (e2 vMul (eVar 1) (e2 vAdd (eC (.int 1)) (eCall m__law_roll (aCons (eVar 0) (aCons (e2 vDiv (eC (.int 24)) (eVar 7)) (aNil)))))) (aNil))) (.n 9) n ([] ++ []) (sSet (.f) n [] 8 (e2 vAdd (eVar 8) (eTup (aCons (eCall m__law_some (aCons (eVar 0) (aCons (e2 vIx (e2 vIx (eVar 6) (e2 vMod (eVar 9) (eVar 1))) (eC (.int 1))) (aNil)))) (aNil)))))
def lr4 (n : Nat) : Fs := sSet (.f) n [] 10 (eM "str" vJoin (eC (.str [])) (aCons (eVar 8) (aNil)))
def lr5 (n : Nat) : Fs := sIf (tNot (tV (eCall (m__law_same 6) (aCons (eTup (aCons (eCall m_is_relay (aCons (eVar 6) (aNil))) (aCons (eCall m_relay_belt (aCons (eVar 6) (aCons (eVar 8) (aNil)))) (aCons (eCall m_relay_words (aCons (eVar 6) (aCons (eVar 10) (aCons (eC (.int 0)) (aNil))))) (aNil))))) (aCons (eTup (aCons (eC (.bl true)) (aCons (eVar 10) (aCons (eVar 8) (aNil))))) (aNil)))))) (sRet (eC (.bl false))) (sNil)
def lr6 (n : Nat) : Fs := sTup (bCons (.f) n [] (eCall m__law_roll (aCons (eVar 0) (aCons (eVar 1) (aNil)))) (bCons (.f) n [] (eCall m__law_roll (aCons (eVar 0) (aCons (eB vLen (aCons (eVar 10) (aNil))) (aNil)))) (bNil))) (gsCons (gN 11) (gsCons (gN 12) (gsNil)))
def lr7 (n : Nat) : Fs := sSet (.f) n [] 13 (eCall m_turned_relay (aCons (eVar 6) (aCons (eVar 11) (aNil))))
def lr8 (n : Nat) : Fs := sIf (tNot (tV (eCall (m__law_same 6) (aCons (eVar 13) (aCons (e2 vAdd (eSl (eVar 6) (pAt (eVar 11)) (pNo)) (eSl (eVar 6) (pNo) (pAt (eVar 11)))) (aNil)))))) (sRet (eC (.bl false))) (sNil)
def lr9 (n : Nat) : Fs := sFor (iAnyF (eTup (aCons (eVar 10) (aCons (e2 vAdd (eSl (eVar 10) (pAt (eVar 12)) (pNo)) (eSl (eVar 10) (pNo) (pAt (eVar 12)))) (aCons (e2 vAdd (e2 vAdd (eSl (eVar 10) (pNo) (pAt (eVar 12))) (eC (.str [97]))) (eSl (eVar 10) (pAt (e2 vAdd (eVar 12) (eC (.int 1)))) (pNo))) (aCons (eSl (eVar 10) (pAt (eC (.int 1))) (pNo)) (aNil))))))) (.n 14) n (([] ++ []) ++ (([] ++ []) ++ (([] ++ []) ++ (([] ++ []) ++ (([] ++ []) ++ ([] ++ [])))))) (sSeq (sSet (.f) n [] 15 (eCall m__law_places (aCons (eVar 6) (aCons (eVar 14) (aNil))))) (sSeq (sIf (tAnd (tV (e2 vNe (eVar 14) (eC (.str [])))) (tNot (tV (eCall (m__law_same 6) (aCons (eTup (aCons (eCall m_relay_cuttings (aCons (eVar 6) (aCons (eVar 14) (aNil)))) (aCons (eCall m_relay_verdict (aCons (eVar 6) (aCons (eVar 14) (aNil)))) (aNil)))) (aCons (eTup (aCons (eVar 15) (aCons (eIf (tV (e2 vEq (eVar 15) (eTup (aNil)))) (eC (.str [110, 111, 110, 101])) (eIf (tV (e2 vEq (eB vLen (aCons (eVar 15) (aNil))) (eC (.int 1)))) (eC (.str [111, 110, 101])) (eC (.str [115, 101, 118, 101, 114, 97, 108])))) (aNil)))) (aNil))))))) (sRet (eC (.bl false))) (sNil)) (sSeq (sIf (tAnd (tV (e2 vNe (eVar 14) (eC (.str [])))) (tNot (tV (eCall (m__law_same 6) (aCons (eCall m_relay_cuttings (aCons (eVar 13) (aCons (eVar 14) (aNil)))) (aCons (eB vTuple (aCons (eB vSort (aCons (eComp (iAnyF (eVar 15)) (.n 23) (tYesF) (e2 vMod (eB vInt (aCons (e2 vAdd (eVar 23) (e2 vMul (eVar 11) (eVar 3))) (aNil))) (eVar 7)) [23]) (aNil))) (aNil))) (aNil))))))) (sRet (eC (.bl false))) (sNil)) (sFor (iRng1F (aCons (eIf (tV (e2 vNe (eVar 14) (eC (.str [])))) (eVar 7) (eC (.int 0))) (aNil))) (.n 16) n (([] ++ []) ++ (([] ++ []) ++ ([] ++ []))) (sSeq (sSet (.f) n [] 17 (e2 vAdd (eSl (eVar 14) (pAt (eVar 16)) (pNo)) (eSl (eVar 14) (pNo) (pAt (eVar 16))))) (sSeq (sSet (.f) n [] 18 (eIf (tV (e2 vIn (eVar 16) (eVar 15))) (eB vTuple (aCons (eComp (iRng3F (aCons (eC (.int 0)) (aCons (eB vLen (aCons (eVar 17) (aNil))) (aCons (eVar 3) (aNil))))) (.n 24) (tYesF) (eSl (eVar 17) (pAt (eVar 24)) (pAt (e2 vAdd (eVar 24) (eVar 3)))) [24]) (aNil))) (eC .non))) (sIf (tNot (tV (eCall (m__law_same 6) (aCons (eCall m_relay_words (aCons (eVar 6) (aCons (eVar 14) (aCons (eVar 16) (aNil))))) (aCons (eVar 18) (aNil)))))) (sRet (eC (.bl false))) (sNil))))))))
def lr9_0 (n : Nat) : Fs := sSet (.f) n [] 15 (eCall m__law_places (aCons (eVar 6) (aCons (eVar 14) (aNil))))
def lr9_1 (n : Nat) : Fs := sIf (tAnd (tV (e2 vNe (eVar 14) (eC (.str [])))) (tNot (tV (eCall (m__law_same 6) (aCons (eTup (aCons (eCall m_relay_cuttings (aCons (eVar 6) (aCons (eVar 14) (aNil)))) (aCons (eCall m_relay_verdict (aCons (eVar 6) (aCons (eVar 14) (aNil)))) (aNil)))) (aCons (eTup (aCons (eVar 15) (aCons (eIf (tV (e2 vEq (eVar 15) (eTup (aNil)))) (eC (.str [110, 111, 110, 101])) (eIf (tV (e2 vEq (eB vLen (aCons (eVar 15) (aNil))) (eC (.int 1)))) (eC (.str [111, 110, 101])) (eC (.str [115, 101, 118, 101, 114, 97, 108])))) (aNil)))) (aNil))))))) (sRet (eC (.bl false))) (sNil)
def lr9_2 (n : Nat) : Fs := sIf (tAnd (tV (e2 vNe (eVar 14) (eC (.str [])))) (tNot (tV (eCall (m__law_same 6) (aCons (eCall m_relay_cuttings (aCons (eVar 13) (aCons (eVar 14) (aNil)))) (aCons (eB vTuple (aCons (eB vSort (aCons (eComp (iAnyF (eVar 15)) (.n 23) (tYesF) (e2 vMod (eB vInt (aCons (e2 vAdd (eVar 23) (e2 vMul (eVar 11) (eVar 3))) (aNil))) (eVar 7)) [23]) (aNil))) (aNil))) (aNil))))))) (sRet (eC (.bl false))) (sNil)
def lr9_3 (n : Nat) : Fs := sFor (iRng1F (aCons (eIf (tV (e2 vNe (eVar 14) (eC (.str [])))) (eVar 7) (eC (.int 0))) (aNil))) (.n 16) n (([] ++ []) ++ (([] ++ []) ++ ([] ++ []))) (sSeq (sSet (.f) n [] 17 (e2 vAdd (eSl (eVar 14) (pAt (eVar 16)) (pNo)) (eSl (eVar 14) (pNo) (pAt (eVar 16))))) (sSeq (sSet (.f) n [] 18 (eIf (tV (e2 vIn (eVar 16) (eVar 15))) (eB vTuple (aCons (eComp (iRng3F (aCons (eC (.int 0)) (aCons (eB vLen (aCons (eVar 17) (aNil))) (aCons (eVar 3) (aNil))))) (.n 24) (tYesF) (eSl (eVar 17) (pAt (eVar 24)) (pAt (e2 vAdd (eVar 24) (eVar 3)))) [24]) (aNil))) (eC .non))) (sIf (tNot (tV (eCall (m__law_same 6) (aCons (eCall m_relay_words (aCons (eVar 6) (aCons (eVar 14) (aCons (eVar 16) (aNil))))) (aCons (eVar 18) (aNil)))))) (sRet (eC (.bl false))) (sNil))))
def lr10 (n : Nat) : Fs := sSet (.f) n [] 19 (eCall m__law_rounds (aCons (eVar 6) (aNil)))
def lr11 (n : Nat) : Fs := sIf (tNot (tV (eCall (m__law_same 6) (aCons (eCall m_relay_list (aCons (eVar 6) (aNil))) (aCons (eIf (tAnd (tV (e2 vLt (eB vLen (aCons (eVar 19) (aNil))) (eC (.int 41)))) (tV (e2 vLt (eVar 7) (eC (.int 5))))) (eTup (aCons (eVar 2) (aCons (eB vTuple (aCons (eB vSort (aCons (eVar 19) (aNil))) (aNil))) (aNil)))) (eC .non)) (aNil)))))) (sRet (eC (.bl false))) (sNil)
def lr12 (n : Nat) : Fs := sSet (.f) n [] 20 (eCall m__law_roll (aCons (eVar 0) (aCons (eC (.int 4)) (aNil))))
def lr13 (n : Nat) : Fs := sSet (.f) n [] 21 (eC (.int 1))
def lr14 (n : Nat) : Fs := sFor (iRng1F (aCons (eVar 20) (aNil))) (.n 9) n ([] ++ []) (sSet (.f) n [] 21 (e2 vMul (eVar 21) (eB vLen (aCons (eVar 19) (aNil)))))
def lr15 (n : Nat) : Fs := sSet (.f) n [] 22 (eLst (aCons (eC .non) (aCons (eTup (aNil)) (aCons (eB vList (aCons (eVar 6) (aNil))) (aCons (e2 vIx (eVar 6) (eC (.int 0))) (aCons (eTup (aCons (eC .non) (aNil))) (aCons (e2 vAdd (eVar 6) (eTup (aCons (eTup (aCons (eVar 2) (aCons (eTup (aCons (e2 vMul (eC (.str [97])) (eIf (tV (e2 vLt (eVar 3) (eC (.int 4)))) (e2 vAdd (eVar 3) (eC (.int 1))) (eC (.int 2)))) (aNil))) (aNil)))) (aNil)))) (aCons (e2 vAdd (eVar 6) (eTup (aCons (eTup (aCons (e2 vAdd (eC (.int 1)) (e2 vMod (eVar 2) (eC (.int 4)))) (aCons (eTup (aCons (e2 vMul (eC (.str [97])) (eVar 3)) (aNil))) (aNil)))) (aNil)))) (aCons (e2 vMul (eSl (eVar 6) (pNo) (pAt (eC (.int 1)))) (eC (.int 5))) (aCons (eC (.int 5)) (aNil)))))))))))
def lr16 (n : Nat) : Fs := sRet (eAnd (eCall (m__law_same 6) (aCons (eCall m_count_relay_rows (aCons (eVar 6) (aCons (eVar 20) (aNil)))) (aCons (eVar 21) (aNil)))) (e2 vEq (eComp (iAnyF (eVar 22)) (.n 25) (tV (e2 vIsN (eCall m_is_relay (aCons (eVar 25) (aNil))) (eC (.bl false)))) (eVar 25) [25]) (eLst (aNil))))
theorem eV {env : Eng.Env} {i : Nat} {z : SV} {st : Sto} (h : env[i]? = some (some z)) : eVar i env st = .ok z st := by unfold eVar; rw [h]
theorem gs {env : Eng.Env} {i j : Nat} {z : Option SV} {y : Option (Option SV)} (hij : j ≠ i) (h : env[i]? = y) : (env.set j z)[i]? = y := by rw [List.getElem?_set_ne hij]; exact h
theorem gss {env : Eng.Env} {i : Nat} {z : Option SV} (h : i < env.length) : (env.set i z)[i]? = some z := List.getElem?_set_self h
/-- what stands in the slots all through the loop over the values -/
structure Fix (L len : Nat) (R : List (List (List Nat))) (by' : Nat) (env : Eng.Env) : Prop where
  n : env.length = 26
  e0 : env[0]? = some (some (.loc 0))
  e2 : env[2]? = some (some (.v (.int L)))
  e3 : env[3]? = some (some (.v (.int len)))
  e6 : env[6]? = some (some (.v (rV L R)))
  e7 : env[7]? = some (some (.v (.int ((R.length * len : Nat) : Int))))
  e11 : env[11]? = some (some (.v (.int by')))
  e13 : env[13]? = some (some (.v (rV L (rot R by'))))
theorem Fix.set {L len by' : Nat} {R : List (List (List Nat))} {env : Eng.Env} (f : Fix L len R by' env) {i : Nat} {z : Option SV} (hi : 14 ≤ i) : Fix L len R by' (env.set i z) :=
  ⟨by rw [List.length_set]; exact f.n, gs (by omega) f.e0, gs (by omega) f.e2, gs (by omega) f.e3, gs (by omega) f.e6, gs (by omega) f.e7, gs (by omega) f.e11, gs (by omega) f.e13⟩
theorem pds_iv (xs : List Nat) (k : Nat) : pds (iv xs) (k + 1) = true := by
  induction xs with
  | nil => rfl
  | cons a r ih => simpa [iv, pds, pd] using ih
theorem pds_sv (xs : List (List Nat)) (k : Nat) : pds (sv xs) (k + 1) = true := by
  induction xs with
  | nil => rfl
  | cons a r ih => simpa [sv, pds, pd] using ih
theorem pd_iv {xs : List Nat} (h : xs.length ≤ 1000) (k : Nat) : pd (.tup (iv xs)) (k + 2) = true := by
  simp only [pd, pds_iv, Bool.and_true, decide_eq_true_eq]
  simp [iv]; omega
theorem pd_sv {xs : List (List Nat)} (h : xs.length ≤ 1000) (k : Nat) : pd (.tup (sv xs)) (k + 2) = true := by
  simp only [pd, pds_sv, Bool.and_true, decide_eq_true_eq]
  simp [sv]; omega
theorem pd_lw {L : Nat} {r : List (List Nat)} (h : r.length ≤ 1000) (k : Nat) : pd (lw L r) (k + 3) = true := by
  unfold lw
  have h1 := pds_sv r k
  unfold sv at h1
  simp only [pd, pds, h1, Bool.and_true, decide_eq_true_eq, Bool.and_eq_true]
  simp
  omega
theorem pds_lw {L : Nat} : ∀ {R : List (List (List Nat))} (k : Nat), (∀ r ∈ R, r.length ≤ 1000) → pds (R.map (lw L)) (k + 3) = true
  | [], _, _ => rfl
  | r :: R, k, h => by
    rw [List.map_cons]
    show (pd (lw L r) (k + 3) && pds (R.map (lw L)) (k + 3)) = true
    rw [pd_lw (h r (by simp)) k, pds_lw k fun q hq => h q (List.mem_cons_of_mem _ hq)]
    rfl
theorem pd_rV {L : Nat} {R : List (List (List Nat))} (hl : R.length ≤ 1000) (h : ∀ r ∈ R, r.length ≤ 1000) (k : Nat) : pd (rV L R) (k + 4) = true := by
  unfold rV
  simp only [pd, pds_lw k h, Bool.and_true, decide_eq_true_eq]
  simp; omega
theorem cuts_len {R : List (List (List Nat))} {len : Nat} {b : List Nat} (h : R.length * len ≤ 16) : (cuts R len b).length ≤ 16 := by
  rw [cuts_eq]
  split
  · simp
  · exact Nat.le_trans (List.length_filter_le _ _) (by simpa using h)
section
variable {st : Sto} {L len by' : Nat} {R : List (List (List Nat))} {env : Eng.Env} {v : List Nat}
/-- a belt -/
structure Vd (L : Nat) (v : List Nat) : Prop where
  l1 : 1 ≤ v.length
  l24 : v.length ≤ 24
  ok : okL L v = true
theorem ne_s (h : Vd L v) (e14 : env[14]? = some (some (.v (.str v)))) : tV (e2 vNe (eVar 14) (eC (.str []))) env st = .ok true st := by
  refine tv_v (e2_ok (x := .str v) (y := .str []) (eV e14) rfl ?_)
  have : v ≠ [] := fun e => by have := h.l1; rw [e] at this; simp at this
  simp [okD, eqB, this]
theorem v0_s (g : GR L len R) (f : Fix L len R by' env) (h : Vd L v) (e14 : env[14]? = some (some (.v (.str v)))) : lr9_0 1 env st = .nx (env.set 15 (some (.v (.tup (iv (cuts R len v)))))) st :=
  set_v (ec_ok (ar_c (eV f.e6) (ar_1 (eV e14))) (places_s g v h.l24 h.ok))
theorem v1_s (g : GR L len R) (f : Fix L len R by' env) (h : Vd L v) (e14 : env[14]? = some (some (.v (.str v)))) (e15 : env[15]? = some (some (.v (.tup (iv (cuts R len v)))))) : lr9_1 1 env st = .nx env st := by
  have bd := g.bd
  have a1 : eTup (aCons (eCall m_relay_cuttings (aCons (eVar 6) (aCons (eVar 14) aNil))) (aCons (eCall m_relay_verdict (aCons (eVar 6) (aCons (eVar 14) aNil))) aNil)) env st = .ok (.v (.tup [.tup (iv (cuts R len v)), .str (verdict (cuts R len v).length)])) st := by
    rw [s_eTup, ar_c (ec_ok (ar_c (eV f.e6) (ar_1 (eV e14))) (relay_cuttings_s g v h.l1 h.l24 h.ok)) (ar_1 (ec_ok (ar_c (eV f.e6) (ar_1 (eV e14))) (relay_verdict_s g v h.l1 h.l24 h.ok)))]
    rfl
  have hl := cuts_len (b := v) bd
  have b1 : tV (e2 vEq (eVar 15) (eTup aNil)) env st = .ok (decide ((cuts R len v).length = 0)) st := by
    refine tv_v (e2_ok (x := .tup (iv (cuts R len v))) (y := .tup []) (eV e15) (by simp) ?_)
    have : okD (.tup (iv (cuts R len v))) 32 = true := by simpa [okD] using okDs_iv (cuts R len v) 31
    rw [s_eq, if_pos (by rw [this]; rfl)]
    cases cuts R len v <;> rfl
  have b2 : tV (e2 vEq (eB vLen (aCons (eVar 15) aNil)) (eC (.int 1))) env st = .ok (decide ((cuts R len v).length = 1)) st := by
    refine tv_v (e2_ok (x := .int (cuts R len v).length) (y := .int 1) ?_ rfl ?_)
    · rw [s_eB, ar_1 (eV e15)]
      simp [iv]
    · rw [s_eq, if_pos (by rfl)]
      have : (((cuts R len v).length : Int) == 1) = decide ((cuts R len v).length = 1) := by
        rw [Bool.eq_iff_iff]; simp; omega
      show some (SV.v (Val.bl (((cuts R len v).length : Int) == 1))) = _
      rw [this]
  have b3 : eIf (tV (e2 vEq (eVar 15) (eTup (aNil)))) (eC (.str [110, 111, 110, 101])) (eIf (tV (e2 vEq (eB vLen (aCons (eVar 15) (aNil))) (eC (.int 1)))) (eC (.str [111, 110, 101])) (eC (.str [115, 101, 118, 101, 114, 97, 108]))) env st = .ok (.v (.str (verdict (cuts R len v).length))) st := by
    rw [s_eIf, b1, s_bind_ok]
    unfold verdict
    by_cases h0 : (cuts R len v).length = 0
    · rw [if_pos (decide_eq_true h0), if_pos h0]; rfl
    · rw [if_neg (by rw [decide_eq_false h0]; decide), if_neg h0, s_eIf, b2, s_bind_ok]
      by_cases h1 : (cuts R len v).length = 1
      · rw [if_pos (decide_eq_true h1), if_pos h1]; rfl
      · rw [if_neg (by rw [decide_eq_false h1]; decide), if_neg h1]; rfl
  have a2 : eTup (aCons (eVar 15) (aCons (eIf (tV (e2 vEq (eVar 15) (eTup (aNil)))) (eC (.str [110, 111, 110, 101])) (eIf (tV (e2 vEq (eB vLen (aCons (eVar 15) (aNil))) (eC (.int 1)))) (eC (.str [111, 110, 101])) (eC (.str [115, 101, 118, 101, 114, 97, 108])))) aNil)) env st = .ok (.v (.tup [.tup (iv (cuts R len v)), .str (verdict (cuts R len v).length)])) st := by
    rw [s_eTup, ar_c (eV e15) (ar_1 b3)]
    rfl
  refine (if_f (st1 := st) ?_).trans rfl
  rw [s_tAnd, ne_s h e14, s_bind_ok, if_pos rfl]
  refine tn_v (b := true) (ec_ok (ar_c a1 (ar_1 a2)) (same_s 6 _ ?_))
  have p1 := pd_iv (xs := cuts R len v) (by omega) 3
  show (decide ([Val.tup (iv (cuts R len v)), Val.str (verdict (cuts R len v).length)].length ≤ 1000000) && (pd (.tup (iv (cuts R len v))) 5 && (pd (.str (verdict (cuts R len v).length)) 5 && true))) = true
  rw [p1]
  simp [pd]
theorem sort_iv (xs : List Int) : vSort [.lst (xs.map .int)] = some (.fl ((sortI xs).map .int)) := by
  cases xs with
  | nil => simp [vSort, strsOf, sortS, sortI, isort]
  | cons a r =>
    have : strsOf ((a :: r).map Val.int) = none := rfl
    have h2 := Eng.ints_map (a :: r)
    unfold vSort
    simp only [this, h2]
    rfl
theorem v2_s (g : GR L len R) (f : Fix L len R by' env) (hby : by' < R.length) (h : Vd L v) (e14 : env[14]? = some (some (.v (.str v)))) (e15 : env[15]? = some (some (.v (.tup (iv (cuts R len v)))))) : lr9_2 1 env st = .nx env st := by
  obtain ⟨r0, i2, g0⟩ := ix_rV g
  have n2 := g0.n2
  have n4 := g0.n4
  have bd := g.bd
  have hl := cuts_len (b := v) bd
  have hn : 0 < R.length := List.length_pos_iff.mpr g.n1
  have a1 := ec_ok (ar_c (eV f.e13) (ar_1 (eV e14))) (relay_cuttings_s (st := st) (g.rot by') v h.l1 h.l24 h.ok)
  have a2 : eComp (iAnyF (eVar 15)) (.n 23) tYesF (e2 vMod (eB vInt (aCons (e2 vAdd (eVar 23) (e2 vMul (eVar 11) (eVar 3))) aNil)) (eVar 7)) [23] env st = .ok (.fl ((((cuts R len v).map fun k : Nat => ((k : Int) + ((by' : Int) * (len : Int))) % ((R.length * len : Nat) : Int))).map .int)) st := by
    refine (comp_all (xs := iv (cuts R len v)) (onI fun i => .int ((i + ((by' : Int) * (len : Int))) % ((R.length * len : Nat) : Int))) (any_tup (eV e15)) (by simp [iv]; omega) fun x hx => ?_).trans ?_
    · obtain ⟨k, hk, rfl⟩ := List.mem_map.mp hx
      refine ⟨_, rfl, .v (.int (((k : Int) + ((by' : Int) * (len : Int))) % ((R.length * len : Nat) : Int))), ?_, rfl⟩
      have g3 : ∀ {i : Nat} {y : Option (Option SV)}, i ≠ 23 → env[i]? = y → ((wipeE env [23]).set 23 (some (.v (.int (k : Int)))))[i]? = y := fun {i y} hi hy => gs (Ne.symm hi) (gs (Ne.symm hi) hy)
      have k1 := e2_ok (o := vMul) (st := st) (eV (g3 (by decide) f.e11)) (eV (g3 (by decide) f.e3)) (mul_ok (mul_small (by omega) (by have := g.n4; omega)))
      have k2 : eVar 23 ((wipeE env [23]).set 23 (some (.v (.int (k : Int))))) st = .ok (.v (.int k)) st := eV (gss (by simp [f.n]))
      have k3 := e2_ok (o := vAdd) k2 k1 rfl
      have k4 : eB vInt (aCons (e2 vAdd (eVar 23) (e2 vMul (eVar 11) (eVar 3))) aNil) ((wipeE env [23]).set 23 (some (.v (.int (k : Int))))) st = .ok (.v (.int ((k : Int) + ((by' : Int) * (len : Int))))) st := by
        rw [s_eB, ar_1 k3]; rfl
      refine e2_ok k4 (eV (g3 (by decide) f.e7)) ?_
      rw [s_mod, if_pos (by have := Nat.mul_pos hn (show 0 < len by omega); omega)]
    · rw [iv, List.map_map, List.map_map]
      rfl
  have a3 := ar_1 a2
  have a4 : eB vTuple (aCons (eB vSort (aCons (eComp (iAnyF (eVar 15)) (.n 23) tYesF (e2 vMod (eB vInt (aCons (e2 vAdd (eVar 23) (e2 vMul (eVar 11) (eVar 3))) aNil)) (eVar 7)) [23]) aNil)) aNil) env st = .ok (.v (.tup (iv (cuts (rot R by') len v)))) st := by
    have a5 : eB vSort (aCons (eComp (iAnyF (eVar 15)) (.n 23) tYesF (e2 vMod (eB vInt (aCons (e2 vAdd (eVar 23) (e2 vMul (eVar 11) (eVar 3))) aNil)) (eVar 7)) [23]) aNil) env st = .ok (.fl (iv (cuts (rot R by') len v))) st := by
      rw [s_eB, a3]
      simp only [s_bind_ok, s_froz_fl, s_valsOf, s_val_v, s_valsOf0, Option.bind_some, sort_iv, s_outO]
      rw [← cuts_turn g.n1 (by omega) h.l1 hby, List.map_map]
      rfl
    rw [s_eB, ar_1 a5]
    rfl
  refine (if_f (st1 := st) ?_).trans rfl
  rw [s_tAnd, ne_s h e14, s_bind_ok, if_pos rfl]
  refine tn_v (b := true) (ec_ok (ar_c a1 (ar_1 a4)) (same_s 6 _ ?_))
  exact pd_iv (by have := cuts_len (R := rot R by') (len := len) (b := v) (by rw [rot_len]; exact bd); omega) 4
end
end K81

namespace K81
open PySem PySem.Spec PyProof.Rows L2 Eng
theorem in_ivT (k : Nat) (xs : List Nat) : inB (.int k) (.tup (iv xs)) = some (decide (k ∈ xs)) := by
  rw [s_inT, if_pos (by simp [flatA, iv])]
  congr 1
  rw [Bool.eq_iff_iff]
  simp [iv, eqB]
  constructor
  · intro ⟨a, ha, e⟩
    have : a = k := by omega
    exact this ▸ ha
  · intro h
    exact ⟨k, h, rfl⟩
structure Fix2 (L len : Nat) (R : List (List (List Nat))) (by' : Nat) (v : List Nat) (env : Eng.Env) : Prop extends Fix L len R by' env where
  e14 : env[14]? = some (some (.v (.str v)))
  e15 : env[15]? = some (some (.v (.tup (iv (cuts R len v)))))
section
variable {st : Sto} {L len by' : Nat} {R : List (List (List Nat))} {env : Eng.Env} {v : List Nat}
theorem Fix2.set (f : Fix2 L len R by' v env) {i : Nat} {z : Option SV} (hi : 16 ≤ i) : Fix2 L len R by' v (env.set i z) :=
  { (f.toFix).set (i := i) (z := z) (by omega) with e14 := gs (by omega) f.e14, e15 := gs (by omega) f.e15 }
def v3b (n : Nat) : Fs := (sSeq (sSet (.f) n [] 17 (e2 vAdd (eSl (eVar 14) (pAt (eVar 16)) (pNo)) (eSl (eVar 14) (pNo) (pAt (eVar 16))))) (sSeq (sSet (.f) n [] 18 (eIf (tV (e2 vIn (eVar 16) (eVar 15))) (eB vTuple (aCons (eComp (iRng3F (aCons (eC (.int 0)) (aCons (eB vLen (aCons (eVar 17) (aNil))) (aCons (eVar 3) (aNil))))) (.n 24) (tYesF) (eSl (eVar 17) (pAt (eVar 24)) (pAt (e2 vAdd (eVar 24) (eVar 3)))) [24]) (aNil))) (eC .non))) (sIf (tNot (tV (eCall (m__law_same 6) (aCons (eCall m_relay_words (aCons (eVar 6) (aCons (eVar 14) (aCons (eVar 16) (aNil))))) (aCons (eVar 18) (aNil)))))) (sRet (eC (.bl false))) (sNil))))
theorem v3b_s (g : GR L len R) (f : Fix2 L len R by' v env) (h : Vd L v) {k : Nat} (hk : k < R.length * len) (e16 : env[16]? = some (some (.v (.int k)))) : ∃ env', v3b 1 env st = .nx env' st ∧ Fix2 L len R by' v env' := by
  obtain ⟨r0, i2, g0⟩ := ix_rV g
  have n2 := g0.n2
  have n4 := g0.n4
  have hr : (rot v k).length ≤ 24 := by rw [rot_len]; exact h.l24
  let env1 := env.set 17 (some (.v (.str (rot v k))))
  let w : Val := if k ∈ cuts R len v then .tup ((pcs len (rot v k)).map .str) else .non
  let env2 := env1.set 18 (some (.v w))
  have f1 : Fix2 L len R by' v env1 := f.set (by omega)
  have f2 : Fix2 L len R by' v env2 := f1.set (by omega)
  have c16 : env1[16]? = some (some (.v (.int k))) := gs (by omega) e16
  have d16 : env2[16]? = some (some (.v (.int k))) := gs (by omega) c16
  have c17 : env1[17]? = some (some (.v (.str (rot v k)))) := gss (by rw [f.n]; omega)
  have d18 : env2[18]? = some (some (.v w)) := gss (by rw [f1.n]; omega)
  refine ⟨env2, stV (x := .str (rot v k)) ?_ (stV (x := w) ?_ ((if_f (st1 := st) ?_).trans rfl)), f2⟩
  · refine e2_ok (x := .str (v.drop k)) (y := .str (v.take k)) ?_ ?_ (add_rotS h.ok h.l24 k)
    · rw [s_eSl, eV f.e14]
      simp only [s_bind_ok, s_pAt, eV e16, s_pInt, s_pNo, s_val_v, Option.bind_some, s_slS, cutD, s_outO]
    · rw [s_eSl, eV f.e14]
      simp only [s_bind_ok, s_pAt, eV e16, s_pInt, s_pNo, s_val_v, Option.bind_some, s_slS, cutT, s_outO]
  · have t : tV (e2 vIn (eVar 16) (eVar 15)) env1 st = .ok (decide (k ∈ cuts R len v)) st := by
      refine tv_v (e2_ok (eV c16) (eV f1.e15) ?_)
      rw [s_in, in_ivT]
      rfl
    show eIf _ _ _ env1 st = _
    rw [s_eIf, t, s_bind_ok]
    by_cases hm : k ∈ cuts R len v
    · rw [if_pos (decide_eq_true hm)]
      have p := pcs_comp (st := st) (env := env1) (i := 17) (j := 3) (k := 24) (fl := eVar 0) (s := rot v k) (len := len) hr (by omega) (by omega) (fun e2 q => eV (q.trans c17)) (fun e2 q => eV (q.trans f1.e3)) (by decide) (by decide) (by rw [f1.n]; omega)
      have hw : w = .tup (sv (pcs len (rot v k))) := if_pos hm
      rw [hw, s_eB, ar_1 p]
      rfl
    · rw [if_neg (by rw [decide_eq_false hm]; decide)]
      have hw : w = .non := if_neg hm
      rw [hw]
      rfl
  · refine tn_v (b := true) (ec_ok (ar_c (ec_ok (ar_c (eV f2.e6) (ar_c (eV f2.e14) (ar_1 (eV d16)))) (relay_words_s g v h.l1 h.l24 h.ok k hk)) (ar_1 (eV d18))) (same_s 6 _ ?_))
    show pd w 6 = true
    by_cases hm : k ∈ cuts R len v
    · have hw : w = .tup (sv (pcs len (rot v k))) := if_pos hm
      rw [hw]
      exact pd_sv (by have := pcs_len len hr; omega) 4
    · have hw : w = .non := if_neg hm
      rw [hw]
      rfl
theorem v3_s (g : GR L len R) (f : Fix2 L len R by' v env) (h : Vd L v) : ∃ env', lr9_3 1 env st = .nx env' st ∧ Fix2 L len R by' v env' := by
  obtain ⟨hw, hw2, _⟩ := whole_s g
  have key := for_inv (p := .n 16) (n := 1) (B := ([] ++ []) ++ (([] ++ []) ++ ([] ++ []))) (fi := iRng1F (aCons (eIf (tV (e2 vNe (eVar 14) (eC (.str [])))) (eVar 7) (eC (.int 0))) aNil)) (body := v3b 1) (xs := rngI 0 (R.length * len)) (env := env) (st := st) (st1 := st)
    (fun i env s => Fix2 L len R by' v env ∧ s = st) (by
      have t : eIf (tV (e2 vNe (eVar 14) (eC (.str [])))) (eVar 7) (eC (.int 0)) env st = .ok (.v (.int ((R.length * len : Nat) : Int))) st := by
        rw [s_eIf, ne_s h f.e14, s_bind_ok, if_pos rfl]
        exact eV f.e7
      unfold iRng1F
      rw [ar_1 t]
      generalize R.length * len = W at hw2
      show (if small (W : Int) = true then Rv.ok (Src.seq (rngI 0 ((W : Int)).toNat)) st else .bad) = _
      rw [if_pos (by unfold small; simp; omega)]
      simp) ⟨f, rfl⟩ (fun i x env s hx hI => by
      obtain ⟨q1, rfl⟩ := hI
      have hlt : i < R.length * len := by
        have := (List.getElem?_eq_some_iff.mp hx).1
        simpa [rngI] using this
      have ex : x = .int (i : Int) := by
        unfold rngI at hx
        rw [List.getElem?_map, List.getElem?_range hlt] at hx
        have := Option.some.inj hx
        rw [← this]; simp
      subst ex
      obtain ⟨env', h1, h2⟩ := v3b_s (st := s) g (q1.set (i := 16) (z := some (.v (.int i))) (by omega)) h hlt (gss (by rw [q1.n]; omega))
      exact ⟨_, rfl, env', s, h1, h2, rfl⟩)
  obtain ⟨env', st', h1, h2, rfl⟩ := key
  exact ⟨env', h1, h2⟩
/-- the body of the loop over the values -/
def valB (n : Nat) : Fs := sSeq (lr9_0 n) (sSeq (lr9_1 n) (sSeq (lr9_2 n) (lr9_3 n)))
theorem val_s (g : GR L len R) (hby : by' < R.length) (f : Fix L len R by' env) (h : Vd L v) : ∃ env', valB 1 (env.set 14 (some (.v (.str v)))) st = .nx env' st ∧ Fix L len R by' env' := by
  have f0 : Fix L len R by' (env.set 14 (some (.v (.str v)))) := f.set (by omega)
  have e14 : (env.set 14 (some (.v (.str v))))[14]? = some (some (.v (.str v))) := gss (by rw [f.n]; omega)
  have f1 : Fix2 L len R by' v ((env.set 14 (some (.v (.str v)))).set 15 (some (.v (.tup (iv (cuts R len v)))))) :=
    { f0.set (i := 15) (by omega) with e14 := gs (by omega) e14, e15 := gss (by rw [f0.n]; omega) }
  obtain ⟨env', h1, h2⟩ := v3_s (st := st) g f1 h
  exact ⟨env', (seq_nx (v0_s g f0 h e14)).trans ((seq_nx (v1_s g f1.toFix h f1.e14 f1.e15)).trans ((seq_nx (v2_s g f1.toFix hby h f1.e14 f1.e15)).trans h1)), h2.toFix⟩
end
end K81

namespace K81
open PySem PySem.Spec PyProof.Rows L2 Eng
structure E0 (L len : Nat) (R : List (List (List Nat))) (env : Eng.Env) : Prop where
  n : env.length = 26
  e0 : env[0]? = some (some (.loc 0))
  e1 : env[1]? = some (some (.v (.int R.length)))
  e2 : env[2]? = some (some (.v (.int L)))
  e3 : env[3]? = some (some (.v (.int len)))
  e6 : env[6]? = some (some (.v (rV L R)))
  e7 : env[7]? = some (some (.v (.int ((R.length * len : Nat) : Int))))
theorem E0.set {L len : Nat} {R : List (List (List Nat))} {env : Eng.Env} (f : E0 L len R env) {i : Nat} {z : Option SV} (hi : 8 ≤ i) : E0 L len R (env.set i z) :=
  ⟨by rw [List.length_set]; exact f.n, gs (by omega) f.e0, gs (by omega) f.e1, gs (by omega) f.e2, gs (by omega) f.e3, gs (by omega) f.e6, gs (by omega) f.e7⟩
section
variable {st : Sto} {L len : Nat} {R : List (List (List Nat))} {env : Eng.Env}
theorem ix1_lw (L : Nat) (rows : List (List Nat)) : vIx (lw L rows) (.int 1) = some (.v (.tup (sv rows))) := by simp [lw, at1, sv]
theorem getD_mem {R : List (List (List Nat))} (h : R ≠ []) (k : Nat) : R.getD (k % R.length) [] ∈ R := by
  have hn : 0 < R.length := List.length_pos_iff.mpr h
  have hk : k % R.length < R.length := Nat.mod_lt _ hn
  rw [List.getD_eq_getElem?_getD, List.getElem?_eq_getElem hk]
  exact List.getElem_mem _
theorem rng1_ok {W : Nat} (h : W ≤ 1000) : (if small (W : Int) = true then Rv.ok (Src.seq (rngI 0 ((W : Int)).toNat)) st else .bad) = .ok (.seq (rngI 0 W)) st := by
  rw [if_pos (by unfold small; simp; omega)]
  simp
theorem div_W {W : Nat} (h : 0 < W) (h2 : W ≤ 1000) : vDiv (.int 24) (.int W) = some (.v (.int ((24 / W : Nat) : Int))) := by
  rw [s_div, if_pos (by simp; omega)]
  simp
theorem row_b (g : GR L len R) (f : E0 L len R env) (hc : Cup [] st) {i : Nat} {ws : List (List Nat)} (hl : ws.length ≤ 1000) (e8 : env[8]? = some (some (.v (.tup (sv ws))))) (e9 : env[9]? = some (some (.v (.int i)))) :
    ∃ p st', p ∈ R.getD (i % R.length) [] ∧ Cup [] st' ∧ sSet (.f) 1 [] 8 (e2 vAdd (eVar 8) (eTup (aCons (eCall m__law_some (aCons (eVar 0) (aCons (e2 vIx (e2 vIx (eVar 6) (e2 vMod (eVar 9) (eVar 1))) (eC (.int 1))) (aNil)))) (aNil)))) env st = .nx (env.set 8 (some (.v (.tup (sv (ws ++ [p])))))) st' := by
  have hn : 0 < R.length := List.length_pos_iff.mpr g.n1
  have gd := g.all _ (getD_mem g.n1 i)
  obtain ⟨x, st', hx, hc', hs⟩ := hc.some (xs := sv (R.getD (i % R.length) [])) (by simpa [sv] using gd.ne) (by have := gd.r40; rw [sv, List.length_map]; omega) true
  obtain ⟨p, hp, rfl⟩ := List.mem_map.mp hx
  refine ⟨p, st', hp, hc', set_v ?_⟩
  have a1 : e2 vMod (eVar 9) (eVar 1) env st = .ok (.v (.int ((i : Int) % (R.length : Int)))) st := e2_ok (eV e9) (eV f.e1) (by rw [s_mod, if_pos (by omega)])
  have a2 := e2_ok (o := vIx) (eV f.e6) a1 (at_mod g.n1 i)
  have a3 := e2_ok (o := vIx) (fb := eC (.int 1)) a2 rfl (ix1_lw L _)
  have f1 := ec_ok (c := m__law_some) (ar_c (eV f.e0) (ar_1 a3)) hs
  refine e2_h (za := .v (.tup (sv ws))) (zb := .v (.tup [.str p])) (x := .tup (sv ws)) (y := .tup [.str p]) (st1 := st) (eV e8) ?_ rfl rfl ?_
  · rw [s_eTup, s_aCons, f1]; rfl
  · rw [s_addT, if_pos (by simp [sv]; omega)]
    simp [sv]
theorem row_s (g : GR L len R) (f : E0 L len R env) (hc : Cup [] st) (e8 : env[8]? = some (some (.v (.tup [])))) :
    ∃ env' st' ws r, lr3 1 env st = .nx env' st' ∧ E0 L len R env' ∧ env'[8]? = some (some (.v (.tup (sv ws)))) ∧ Cup [] st' ∧ ws.length = R.length * (1 + r) ∧ r < 24 / (R.length * len) ∧ ∀ j p, ws[j]? = some p → p ∈ R.getD (j % R.length) [] := by
  obtain ⟨hw, hw2, hm⟩ := whole_s g
  have hn : 0 < R.length := List.length_pos_iff.mpr g.n1
  have n4 := g.n4
  have hq : 1 ≤ 24 / (R.length * len) := by rw [Nat.le_div_iff_mul_le hw]; omega
  have hq2 : 24 / (R.length * len) ≤ 24 := Nat.div_le_self _ _
  obtain ⟨r, st1, hr, hc1, hs⟩ := hc.roll (many := ((24 / (R.length * len) : Nat) : Int)) (by omega) (by omega)
  have hb : R.length * (1 + r) ≤ 100 := by
    have : R.length * (1 + r) ≤ 4 * 25 := Nat.mul_le_mul n4 (by omega)
    omega
  have a1 : e2 vDiv (eC (.int 24)) (eVar 7) env st = .ok (.v (.int ((24 / (R.length * len) : Nat) : Int))) st := e2_ok (x := .int 24) rfl (eV f.e7) (div_W hw (by omega))
  have a2 := ec_ok (c := m__law_roll) (ar_c (eV f.e0) (ar_1 a1)) hs
  have a3 : e2 vAdd (eC (.int 1)) (eCall m__law_roll (aCons (eVar 0) (aCons (e2 vDiv (eC (.int 24)) (eVar 7)) (aNil)))) env st = .ok (.v (.int (1 + r))) st1 := e2_h (za := .v (.int 1)) (x := .int 1) (st1 := st) rfl a2 rfl rfl rfl
  have a4 : e2 vMul (eVar 1) (e2 vAdd (eC (.int 1)) (eCall m__law_roll (aCons (eVar 0) (aCons (e2 vDiv (eC (.int 24)) (eVar 7)) (aNil))))) env st = .ok (.v (.int ((R.length * (1 + r) : Nat) : Int))) st1 :=
    e2_h (za := .v (.int R.length)) (x := .int R.length) (st1 := st) (eV f.e1) a3 rfl rfl (by rw [mul_ok hm]; push_cast; rfl)
  have key := for_inv (p := .n 9) (n := 1) (B := [] ++ []) (fi := iRng1F (aCons (e2 vMul (eVar 1) (e2 vAdd (eC (.int 1)) (eCall m__law_roll (aCons (eVar 0) (aCons (e2 vDiv (eC (.int 24)) (eVar 7)) (aNil)))))) (aNil))) (body := (sSet (.f) 1 [] 8 (e2 vAdd (eVar 8) (eTup (aCons (eCall m__law_some (aCons (eVar 0) (aCons (e2 vIx (e2 vIx (eVar 6) (e2 vMod (eVar 9) (eVar 1))) (eC (.int 1))) (aNil)))) (aNil)))))) (xs := rngI 0 (R.length * (1 + r))) (env := env) (st := st) (st1 := st1)
    (fun i env s => ∃ ws : List (List Nat), E0 L len R env ∧ env[8]? = some (some (.v (.tup (sv ws)))) ∧ Cup [] s ∧ ws.length = i ∧ i ≤ R.length * (1 + r) ∧ ∀ j p, ws[j]? = some p → p ∈ R.getD (j % R.length) []) (by
      unfold iRng1F
      rw [s_aCons, a4]
      exact rng1_ok (by omega)) ⟨[], f, e8, hc1, rfl, Nat.zero_le _, fun j p h => by simp at h⟩ (fun i x env s hx hI => by
      obtain ⟨ws, q1, q2, q3, q4, q5, q6⟩ := hI
      have hlt : i < R.length * (1 + r) := by
        have := (List.getElem?_eq_some_iff.mp hx).1
        simpa [rngI] using this
      have ex : x = .int (i : Int) := by
        unfold rngI at hx
        rw [List.getElem?_map, List.getElem?_range hlt] at hx
        have := Option.some.inj hx
        rw [← this]; simp
      subst ex
      obtain ⟨p, s', p1, p2, p3⟩ := row_b (env := env.set 9 (some (.v (.int i)))) g (q1.set (by omega)) q3 (by omega) (gs (by omega) q2) (gss (by rw [q1.n]; omega))
      refine ⟨_, rfl, _, s', p3, ws ++ [p], (q1.set (by omega)).set (by omega), gss (by rw [List.length_set, q1.n]; omega), p2, by simp [q4], hlt, fun j p' hj => ?_⟩
      by_cases hj2 : j < ws.length
      · rw [List.getElem?_append_left hj2] at hj
        exact q6 j p' hj
      · rw [List.getElem?_append_right (by omega)] at hj
        have hj3 : j - ws.length = 0 := by
          have := (List.getElem?_eq_some_iff.mp hj).1
          simpa using this
        rw [hj3] at hj
        have hp' : p = p' := Option.some.inj hj
        have hji : j = i := by omega
        rw [← hp', hji]; exact p1)
  obtain ⟨env', st', h1, ws, q1, q2, q3, q4, _, q6⟩ := key
  refine ⟨env', st', ws, r, h1, q1, q2, q3, ?_, by omega, q6⟩
  rw [q4]; simp [rngI]
end
end K81

namespace K81
open PySem PySem.Spec PyProof.Rows L2 Eng
/-- a drawn row -/
structure Row (L len : Nat) (R : List (List (List Nat))) (ws : List (List Nat)) : Prop where
  one : 1 ≤ ws.length
  md : ws.length % R.length = 0
  tot : ws.length * len ≤ 24
  mem : ∀ j p, ws[j]? = some p → p ∈ R.getD (j % R.length) []
section
variable {st : Sto} {L len : Nat} {R : List (List (List Nat))} {env : Eng.Env} {ws : List (List Nat)}
theorem row_mk (g : GR L len R) {r : Nat} (h : ws.length = R.length * (1 + r)) (hr : r < 24 / (R.length * len)) (hm : ∀ j p, ws[j]? = some p → p ∈ R.getD (j % R.length) []) : Row L len R ws := by
  obtain ⟨hw, hw2, _⟩ := whole_s g
  have hn : 0 < R.length := List.length_pos_iff.mpr g.n1
  have h3 : (1 + r) * (R.length * len) ≤ 24 := (Nat.le_div_iff_mul_le hw).mp (by omega)
  refine ⟨?_, by rw [h, Nat.mul_mod_right], ?_, hm⟩
  · rw [h]; exact Nat.mul_pos hn (by omega)
  · rw [h]
    calc R.length * (1 + r) * len = (1 + r) * (R.length * len) := by rw [Nat.mul_comm R.length, Nat.mul_assoc]
      _ ≤ 24 := h3
theorem Row.wd (g : GR L len R) (q : Row L len R ws) : ∀ w ∈ ws, w.length = len ∧ okL L w = true := fun w hw => by
  obtain ⟨j, hj, rfl⟩ := List.mem_iff_getElem.mp hw
  have hm := q.mem j ws[j] (List.getElem?_eq_getElem hj)
  have gd := g.all _ (getD_mem g.n1 j)
  exact ⟨gd.len _ hm, gd.ok _ hm⟩
theorem Row.flen (g : GR L len R) (q : Row L len R ws) : ws.flatten.length = ws.length * len := flat_len ws fun w hw => (q.wd g w hw).1
theorem okL_flat : ∀ {ws : List (List Nat)}, (∀ w ∈ ws, okL L w = true) → okL L ws.flatten = true
  | [], _ => rfl
  | w :: ws, h => by
    rw [List.flatten_cons, okL_app, h w (List.mem_cons_self ..), okL_flat fun x hx => h x (List.mem_cons_of_mem _ hx)]
    rfl
theorem Row.vd (g : GR L len R) (q : Row L len R ws) : Vd L ws.flatten ∧ 2 ≤ ws.flatten.length := by
  obtain ⟨r0, _, g0⟩ := ix_rV g
  have n2 := g0.n2
  have e := q.flen g
  have h2 : 1 * 2 ≤ ws.length * len := Nat.mul_le_mul q.one n2
  exact ⟨⟨by omega, by have := q.tot; omega, okL_flat fun w hw => (q.wd g w hw).2⟩, by omega⟩
theorem Row.turn (q : Row L len R ws) : inTurn R 0 ws = true := (inTurn_iff R ws 0).mpr fun i p h => by
  rw [Nat.zero_add]; exact q.mem i p h
theorem rot_0 (b : List Nat) : rot b 0 = b := by simp [rot]
theorem Row.cut (g : GR L len R) (q : Row L len R ws) : 0 ∈ cuts R len ws.flatten := by
  obtain ⟨r0, _, g0⟩ := ix_rV g
  have n2 := g0.n2
  obtain ⟨hw, _, _⟩ := whole_s g
  rw [cuts_eq, if_neg, List.mem_filter]
  · refine ⟨List.mem_range.mpr hw, ?_⟩
    unfold okP
    rw [rot_0, pcs_flat (by omega) ws fun w hw => (q.wd g w hw).1]
    exact q.turn
  · intro h
    apply h
    rw [q.flen g]
    obtain ⟨c, hc⟩ := Nat.dvd_of_mod_eq_zero q.md
    rw [hc, Nat.mul_assoc, Nat.mul_comm c, ← Nat.mul_assoc, Nat.mul_mod_right]
theorem belt_s (g : GR L len R) (q : Row L len R ws) (f : E0 L len R env) (e8 : env[8]? = some (some (.v (.tup (sv ws))))) : lr4 1 env st = .nx (env.set 10 (some (.v (.str ws.flatten)))) st := by
  obtain ⟨v, _⟩ := q.vd g
  have e := (join_ok0 (ys := ws) (by have := q.tot; have := q.one; obtain ⟨r0, _, g0⟩ := ix_rV g; have n2 := g0.n2; have : ws.length * 2 ≤ ws.length * len := Nat.mul_le_mul_left _ n2; omega) (sok_of (okL_lt v.ok) (by have := v.l24; omega))).1
  refine set_v ?_
  have e0 : eC (.str []) env st = .ok (.v (.str [])) st := rfl
  rw [s_eM, e0]
  simp only [s_bind_ok, s_val_v, s_rcv_str, if_true]
  rw [ar_1 (eV e8)]
  simp only [s_bind_ok, s_froz_v, s_valsOf, s_val_v, s_valsOf0, Option.bind_some, sv, e]
  rfl
theorem is_relay_s (g : GR L len R) : m_is_relay [.v (rV L R)] st = .ok (.v (.bl true)) st :=
  call_v (ret_v (ec_1 (fa := eVar 0) rfl (fits_relay_s g)))
theorem five_s (g : GR L len R) (q : Row L len R ws) (f : E0 L len R env) (e8 : env[8]? = some (some (.v (.tup (sv ws))))) (e10 : env[10]? = some (some (.v (.str ws.flatten)))) : lr5 1 env st = .nx env st := by
  obtain ⟨v, v2⟩ := q.vd g
  obtain ⟨r0, _, g0⟩ := ix_rV g
  have n2 := g0.n2
  obtain ⟨hw, _, _⟩ := whole_s g
  have hl : ws.length ≤ 24 / len := (Nat.le_div_iff_mul_le (by omega)).mpr q.tot
  have hl2 : ws.length ≤ 1000 := by have : 24 / len ≤ 24 := Nat.div_le_self _ _; omega
  have a1 := ec_1 (c := m_is_relay) (st := st) (eV f.e6) (is_relay_s g)
  have a2 := ec_ok (c := m_relay_belt) (st := st) (ar_c (eV f.e6) (ar_1 (eV e8))) (relay_belt_s g ws q.one hl q.md q.turn (sok_of (okL_lt v.ok) (by have := v.l24; omega)))
  have a3 := ec_ok (c := m_relay_words) (st := st) (ar_c (eV f.e6) (ar_c (eV e10) (ar_1 (fa := eC (.int 0)) (z1 := .v (.int 0)) rfl))) (relay_words_s g _ v.l1 v.l24 v.ok 0 hw)
  rw [if_pos (q.cut g), rot_0, pcs_flat (by omega) ws fun w hw => (q.wd g w hw).1] at a3
  have b1 : eTup (aCons (eCall m_is_relay (aCons (eVar 6) (aNil))) (aCons (eCall m_relay_belt (aCons (eVar 6) (aCons (eVar 8) (aNil)))) (aCons (eCall m_relay_words (aCons (eVar 6) (aCons (eVar 10) (aCons (eC (.int 0)) (aNil))))) (aNil)))) env st = .ok (.v (.tup [.bl true, .str ws.flatten, .tup (sv ws)])) st := by
    rw [s_eTup, ar_c a1 (ar_c a2 (ar_1 a3))]
    rfl
  have b2 : eTup (aCons (eC (.bl true)) (aCons (eVar 10) (aCons (eVar 8) (aNil)))) env st = .ok (.v (.tup [.bl true, .str ws.flatten, .tup (sv ws)])) st := by
    rw [s_eTup, ar_c (fa := eC (.bl true)) (z1 := .v (.bl true)) rfl (ar_c (eV e10) (ar_1 (eV e8)))]
    rfl
  refine (if_f (st1 := st) ?_).trans rfl
  refine tn_v (b := true) (ec_ok (ar_c b1 (ar_1 b2)) (same_s 6 _ ?_))
  have p := pd_sv (xs := ws) hl2 3
  show (decide ([Val.bl true, Val.str ws.flatten, .tup (sv ws)].length ≤ 1000000) && (pd (.bl true) 5 && (pd (.str ws.flatten) 5 && (pd (.tup (sv ws)) 5 && true)))) = true
  rw [p]
  simp [pd]
end
end K81

namespace K81
open PySem PySem.Spec PyProof.Rows L2 Eng
section
variable {st : Sto} {L len : Nat} {R : List (List (List Nat))} {env : Eng.Env} {b : List Nat}
theorem six_s (g : GR L len R) (f : E0 L len R env) (hv : Vd L b) (hc : Cup [] st) (e10 : env[10]? = some (some (.v (.str b)))) :
    ∃ (by' at' : Nat) (st' : Sto), by' < R.length ∧ at' < b.length ∧ Cup [] st' ∧ lr6 1 env st = .nx ((env.set 11 (some (.v (.int by')))).set 12 (some (.v (.int at')))) st' := by
  have hn : 0 < R.length := List.length_pos_iff.mpr g.n1
  have n4 := g.n4
  obtain ⟨r1, st1, h1, hc1, s1⟩ := hc.roll (many := (R.length : Int)) (by omega) (by omega)
  obtain ⟨r2, st2, h2, hc2, s2⟩ := hc1.roll (many := (b.length : Int)) (by have := hv.l1; omega) (by have := hv.l24; omega)
  refine ⟨r1, r2, st2, by omega, by omega, hc2, ?_⟩
  have a1 := ec_ok (c := m__law_roll) (ar_c (eV f.e0) (ar_1 (eV f.e1))) s1
  have a2 : eB vLen (aCons (eVar 10) aNil) env st1 = .ok (.v (.int b.length)) st1 := by rw [s_eB, ar_1 (eV e10)]; rfl
  have a3 := ec_ok (c := m__law_roll) (ar_c (eV f.e0) (ar_1 a2)) s2
  exact tup_nx (bc_v a1 (bc_v a3 rfl)) rfl
theorem eight_s (g : GR L len R) {by' : Nat} (hby : by' < R.length) (f : Fix L len R by' env) : lr8 1 env st = .nx env st := by
  have n4 := g.n4
  have a1 : e2 vAdd (eSl (eVar 6) (pAt (eVar 11)) (pNo)) (eSl (eVar 6) (pNo) (pAt (eVar 11))) env st = .ok (.v (rV L (rot R by'))) st := by
    refine e2_ok (x := .tup ((R.map (lw L)).drop by')) (y := .tup ((R.map (lw L)).take by')) ?_ ?_ (add_rot L R by' (by omega))
    · rw [s_eSl, eV f.e6]
      simp only [s_bind_ok, s_pAt, eV f.e11, s_pInt, s_pNo, s_val_v, Option.bind_some, rV, s_slT, cutD, s_outO]
    · rw [s_eSl, eV f.e6]
      simp only [s_bind_ok, s_pAt, eV f.e11, s_pInt, s_pNo, s_val_v, Option.bind_some, rV, s_slT, cutT, s_outO]
  refine (if_f (st1 := st) ?_).trans rfl
  refine tn_v (b := true) (ec_ok (ar_c (eV f.e13) (ar_1 a1)) (same_s 6 _ ?_))
  have gr := g.rot by'
  exact pd_rV (by have := gr.n4; omega) (fun r hr => by have := (gr.all r hr).r40; omega) 2
/-- the four values -/
def vals (b : List Nat) (a : Nat) : List (List Nat) := [b, rot b a, b.take a ++ [97] ++ b.drop (a + 1), b.drop 1]
theorem vals_vd (g : GR L len R) (hv : Vd L b) (h2 : 2 ≤ b.length) {a : Nat} (ha : a < b.length) : ∀ v ∈ vals b a, Vd L v := by
  obtain ⟨r0, _, g0⟩ := ix_rV g
  have h24 := hv.l24
  have hA : okL L [97] = true := by
    have := g0.l1
    have h4 := g0.l4
    have : L = 1 ∨ L = 2 ∨ L = 3 ∨ L = 4 := by omega
    rcases this with rfl | rfl | rfl | rfl <;> decide
  have hd : ∀ k, okL L (b.drop k) = true := fun k => okL_sub (fun c hc => List.mem_of_mem_drop hc) hv.ok
  have ht : ∀ k, okL L (b.take k) = true := fun k => okL_sub (fun c hc => List.mem_of_mem_take hc) hv.ok
  intro v hm
  simp only [vals, List.mem_cons, List.not_mem_nil, or_false] at hm
  rcases hm with rfl | rfl | rfl | rfl
  · exact hv
  · exact ⟨by rw [rot_len]; exact hv.l1, by rw [rot_len]; exact h24, by unfold rot; rw [okL_app, hd, ht]; rfl⟩
  · exact ⟨by simp; omega, by simp; omega, by rw [okL_app, okL_app, hd, ht, hA]; rfl⟩
  · exact ⟨by simp; omega, by simp; omega, hd 1⟩
theorem nine_s (g : GR L len R) {by' a : Nat} (hby : by' < R.length) (f : Fix L len R by' env) (hv : Vd L b) (h2 : 2 ≤ b.length) (ha : a < b.length) (e10 : env[10]? = some (some (.v (.str b)))) (e12 : env[12]? = some (some (.v (.int a)))) :
    ∃ env', lr9 1 env st = .nx env' st ∧ Fix L len R by' env' := by
  have vv := vals_vd g hv h2 ha
  have sk : ∀ {s : List Nat}, Vd L s → SOk s = true := fun v => sok_of (okL_lt v.ok) (by have := v.l24; omega)
  have c1 : eSl (eVar 10) (pAt (eVar 12)) pNo env st = .ok (.v (.str (b.drop a))) st := by
    rw [s_eSl, eV e10]
    simp only [s_bind_ok, s_pAt, eV e12, s_pInt, s_pNo, s_val_v, Option.bind_some, s_slS, cutD, s_outO]
  have c2 : eSl (eVar 10) pNo (pAt (eVar 12)) env st = .ok (.v (.str (b.take a))) st := by
    rw [s_eSl, eV e10]
    simp only [s_bind_ok, s_pAt, eV e12, s_pInt, s_pNo, s_val_v, Option.bind_some, s_slS, cutT, s_outO]
  have c3 : e2 vAdd (eVar 12) (eC (.int 1)) env st = .ok (.v (.int ((a + 1 : Nat) : Int))) st := e2_ok (eV e12) (y := .int 1) rfl rfl
  have c4 : eSl (eVar 10) (pAt (e2 vAdd (eVar 12) (eC (.int 1)))) pNo env st = .ok (.v (.str (b.drop (a + 1)))) st := by
    rw [s_eSl, eV e10]
    simp only [s_bind_ok, s_pAt, c3, s_pInt, s_pNo, s_val_v, Option.bind_some, s_slS, cutD, s_outO]
  have c5 : eSl (eVar 10) (pAt (eC (.int 1))) pNo env st = .ok (.v (.str (b.drop 1))) st := by
    have e1 : eC (.int 1) env st = .ok (.v (.int 1)) st := rfl
    rw [s_eSl, eV e10]
    simp only [s_bind_ok, s_pAt, e1, s_pInt, s_pNo, s_val_v, Option.bind_some, s_slS, cut1, s_outO]
  have d1 := e2_ok (o := vAdd) c1 c2 (add_rotS hv.ok hv.l24 a)
  have d2 : e2 vAdd (eSl (eVar 10) pNo (pAt (eVar 12))) (eC (.str [97])) env st = .ok (.v (.str (b.take a ++ [97]))) st := e2_ok c2 (y := .str [97]) rfl (by
    rw [s_addS, if_pos (sok_of (fun c hc => by
      rcases List.mem_append.mp hc with h | h
      · exact okL_lt hv.ok c (List.mem_of_mem_take h)
      · have : c = 97 := by simpa using h
        omega) (by have := hv.l24; simp; omega))])
  have d3 := e2_ok (o := vAdd) d2 c4 (by rw [s_addS, if_pos (sk (vv _ (by simp [vals])))])
  have d4 := ar_c (eV e10) (ar_c d1 (ar_c d3 (ar_1 c5)))
  have key := for_inv (p := .n 14) (n := 1) (B := (([] ++ []) ++ (([] ++ []) ++ (([] ++ []) ++ (([] ++ []) ++ (([] ++ []) ++ ([] ++ []))))))) (fi := iAnyF (eTup (aCons (eVar 10) (aCons (e2 vAdd (eSl (eVar 10) (pAt (eVar 12)) (pNo)) (eSl (eVar 10) (pNo) (pAt (eVar 12)))) (aCons (e2 vAdd (e2 vAdd (eSl (eVar 10) (pNo) (pAt (eVar 12))) (eC (.str [97]))) (eSl (eVar 10) (pAt (e2 vAdd (eVar 12) (eC (.int 1)))) (pNo))) (aCons (eSl (eVar 10) (pAt (eC (.int 1))) (pNo)) (aNil))))))) (body := valB 1) (xs := sv (vals b a)) (env := env) (st := st) (st1 := st)
    (fun i env s => Fix L len R by' env ∧ s = st) (any_tup (by rw [s_eTup, d4]; rfl)) ⟨f, rfl⟩ (fun i x env s hx hI => by
      obtain ⟨q1, rfl⟩ := hI
      obtain ⟨v, hm, rfl⟩ := List.mem_map.mp (List.mem_of_getElem? hx)
      obtain ⟨env', h1, h2⟩ := val_s (st := s) g hby q1 (vv v hm)
      exact ⟨_, rfl, env', s, h1, h2, rfl⟩)
  obtain ⟨env', st', h1, h2, rfl⟩ := key
  exact ⟨env', h1, h2⟩
end
end K81

namespace K81
open PySem PySem.Spec PyProof.Rows L2 Eng
section
variable {st : Sto} {L len by' : Nat} {R : List (List (List Nat))} {env : Eng.Env}
theorem ten_s (g : GR L len R) (hp : prodL R ≤ 40) (f : Fix L len R by' env) : lr10 1 env st = .nx (env.set 19 (some (.v (.lst (sv (rnds R [[]])))))) st :=
  set_v (ec_1 (eV f.e6) (law_rounds_s g (by omega)))
theorem sort_sv {xs : List (List Nat)} (h : xs.length ≤ 40) : vSort [.lst (sv xs)] = some (.fl (sv (sortS xs))) := by
  simp [vSort, sv, Eng.strs_map]
  omega
theorem sortS_len (xs : List (List Nat)) (h : xs.length ≤ 40) : (sortS xs).length ≤ 1000 := by
  have : (sortS xs).length = xs.length := (sortS_perm xs).length_eq
  omega
theorem eleven_s (g : GR L len R) (hp : prodL R ≤ 40) (f : Fix L len R by' env) (e19 : env[19]? = some (some (.v (.lst (sv (rnds R [[]])))))) : lr11 1 env st = .nx env st := by
  have hlen := rnds_len R [[]]
  have hl40 : (rnds R [[]]).length ≤ 40 := by rw [hlen]; simpa using hp
  have a1 := ec_1 (c := m_relay_list) (st := st) (eV f.e6) (relay_list_s g hp)
  have b1 : tV (e2 vLt (eB vLen (aCons (eVar 19) (aNil))) (eC (.int 41))) env st = .ok true st := by
    refine tv_v (e2_ok (x := .int (rnds R [[]]).length) (y := .int 41) ?_ rfl ?_)
    · rw [s_eB, ar_1 (eV e19)]
      simp [sv]
    · rw [s_lt, decide_eq_true (by omega)]
  have b2 : tV (e2 vLt (eVar 7) (eC (.int 5))) env st = .ok (decide (R.length * len ≤ 4)) st := by
    refine tv_v (e2_ok (y := .int 5) (eV f.e7) rfl ?_)
    rw [s_lt]
    have : decide (((R.length * len : Nat) : Int) < 5) = decide (R.length * len ≤ 4) := by rw [decide_eq_decide]; omega
    rw [this]
  have b3 : eB vTuple (aCons (eB vSort (aCons (eVar 19) (aNil))) (aNil)) env st = .ok (.v (.tup (sv (sortS (rnds R [[]]))))) st := by
    have c : eB vSort (aCons (eVar 19) (aNil)) env st = .ok (.fl (sv (sortS (rnds R [[]])))) st := by
      rw [s_eB, ar_1 (eV e19)]
      simp only [s_bind_ok, s_froz_v, s_valsOf, s_val_v, s_valsOf0, Option.bind_some, sort_sv hl40, s_outO]
    rw [s_eB, ar_1 c]
    rfl
  have b4 : eIf (tAnd (tV (e2 vLt (eB vLen (aCons (eVar 19) (aNil))) (eC (.int 41)))) (tV (e2 vLt (eVar 7) (eC (.int 5))))) (eTup (aCons (eVar 2) (aCons (eB vTuple (aCons (eB vSort (aCons (eVar 19) (aNil))) (aNil))) (aNil)))) (eC .non) env st = .ok (.v (if R.length * len ≤ 4 then lw L (sortS (rnds R [[]])) else .non)) st := by
    rw [s_eIf, s_tAnd, b1, s_bind_ok, if_pos rfl, b2, s_bind_ok]
    by_cases h4 : R.length * len ≤ 4
    · rw [if_pos h4, decide_eq_true h4, if_pos rfl, s_eTup, ar_c (eV f.e2) (ar_1 b3)]
      rfl
    · rw [if_neg h4, decide_eq_false h4]
      rfl
  refine (if_f (st1 := st) ?_).trans rfl
  refine tn_v (b := true) (ec_ok (ar_c a1 (ar_1 b4)) (same_s 6 _ ?_))
  by_cases h4 : R.length * len ≤ 4
  · rw [if_pos h4]
    exact pd_lw (sortS_len _ hl40) 3
  · rw [if_neg h4]; rfl
theorem fourteen_s (g : GR L len R) (hp : prodL R ≤ 40) {m : Nat} (hm : m < 4) (f : Fix L len R by' env) (e19 : env[19]? = some (some (.v (.lst (sv (rnds R [[]])))))) (e20 : env[20]? = some (some (.v (.int m)))) (e21 : env[21]? = some (some (.v (.int 1)))) :
    ∃ env', lr14 1 env st = .nx env' st ∧ env'.length = 26 ∧ env'[0]? = some (some (.loc 0)) ∧ env'[2]? = some (some (.v (.int L))) ∧ env'[3]? = some (some (.v (.int len))) ∧ env'[6]? = some (some (.v (rV L R))) ∧ env'[20]? = some (some (.v (.int m))) ∧ env'[21]? = some (some (.v (.int ((prodL R ^ m : Nat) : Int)))) := by
  have hlen : (rnds R [[]]).length = prodL R := by rw [rnds_len R [[]]]; simp
  have key := for_inv (p := .n 9) (n := 1) (B := [] ++ []) (fi := iRng1F (aCons (eVar 20) (aNil))) (body := (sSet (.f) 1 [] 21 (e2 vMul (eVar 21) (eB vLen (aCons (eVar 19) (aNil)))))) (xs := rngI 0 m) (env := env) (st := st) (st1 := st)
    (fun i env s => (env.length = 26 ∧ env[0]? = some (some (.loc 0)) ∧ env[2]? = some (some (.v (.int L))) ∧ env[3]? = some (some (.v (.int len))) ∧ env[6]? = some (some (.v (rV L R))) ∧ env[20]? = some (some (.v (.int m)))) ∧ env[19]? = some (some (.v (.lst (sv (rnds R [[]]))))) ∧ env[21]? = some (some (.v (.int ((prodL R ^ i : Nat) : Int)))) ∧ s = st) (by
      unfold iRng1F
      rw [ar_1 (eV e20)]
      exact rng1_ok (by omega)) ⟨⟨f.n, f.e0, f.e2, f.e3, f.e6, e20⟩, e19, by simpa using e21, rfl⟩ (fun i x env s hx hI => by
      obtain ⟨⟨q1, q2, q3, q4, q5, q6⟩, q7, q8, rfl⟩ := hI
      refine ⟨_, rfl, (env.set 9 (some (.v x))).set 21 (some (.v (.int ((prodL R ^ (i + 1) : Nat) : Int)))), s, ?_, ⟨by simp [q1], gs (by decide) (gs (by decide) q2), gs (by decide) (gs (by decide) q3), gs (by decide) (gs (by decide) q4), gs (by decide) (gs (by decide) q5), gs (by decide) (gs (by decide) q6)⟩, gs (by decide) (gs (by decide) q7), gss (by simp [q1]), rfl⟩
      refine set_v (e2_ok (x := .int ((prodL R ^ i : Nat) : Int)) (y := .int (prodL R)) (eV (gs (by decide) q8)) ?_ ?_)
      · rw [s_eB, ar_1 (eV (gs (by decide) q7))]
        simp [sv, hlen]
      · show (if (mulOk ((prodL R ^ i : Nat) : Int) || mulOk (prodL R)) = true then some (SV.v (.int (((prodL R ^ i : Nat) : Int) * (prodL R : Int)))) else none) = _
        rw [mul_small (b := (prodL R : Int)) (by omega) (by omega), Bool.or_true, if_pos rfl, Nat.pow_succ]
        push_cast
        rfl)
  obtain ⟨env', st', h1, ⟨q1, q2, q3, q4, q5, q6⟩, q7, q8, rfl⟩ := key
  exact ⟨env', h1, q1, q2, q3, q4, q5, q6, by rw [q8]; simp [rngI]⟩
end
end K81

namespace K81
open PySem PySem.Spec PyProof.Rows L2 Eng
section
variable {st : Sto} {L len by' : Nat} {R : List (List (List Nat))} {env : Eng.Env}
/-- no relay: no tuple -/
theorem odd_n {x : Val} (h : isiV x "tuple" = some false) : m_fits_relay [.v x] st = .ok (.v (.bl false)) st := by
  refine call_v (seq_rt ((if_t (st1 := st) ?_).trans (ret_v rfl)))
  have t1 : tNot (tV (eCall m_is_tuple_of (aCons (eVar 0) (aCons (eC (.int 1)) (aCons (eC (.int 4)) aNil))))) [some (.v x), none] st = .ok true st :=
    tn_v (b := false) (ec_ok (ar_c (fa := eVar 0) (z1 := .v x) rfl (ar_c (fa := eC (.int 1)) (z1 := .v (.int 1)) rfl (ar_1 (fa := eC (.int 4)) (z1 := .v (.int 4)) rfl))) (is_tup_n 1 4 h))
  show tOr _ _ [some (.v x), none] st = _
  rw [s_tOr, t1]
  rfl
/-- no relay: a tuple of a wrong length -/
theorem odd_l {xs : List Val} (h : xs.length = 0 ∨ 4 < xs.length) : m_fits_relay [.v (.tup xs)] st = .ok (.v (.bl false)) st := by
  refine call_v (seq_rt ((if_t (st1 := st) ?_).trans (ret_v rfl)))
  have t1 : tNot (tV (eCall m_is_tuple_of (aCons (eVar 0) (aCons (eC (.int 1)) (aCons (eC (.int 4)) aNil))))) [some (.v (.tup xs)), none] st = .ok true st := by
    refine tn_v (b := false) (ec_ok (ar_c (fa := eVar 0) (z1 := .v (.tup xs)) rfl (ar_c (fa := eC (.int 1)) (z1 := .v (.int 1)) rfl (ar_1 (fa := eC (.int 4)) (z1 := .v (.int 4)) rfl))) ?_)
    refine (is_tup_t xs 1 4).trans ?_
    rcases h with h | h
    · rw [decide_eq_false (by omega), Bool.false_and]
    · rw [decide_eq_false (p := (xs.length : Int) ≤ 4) (by omega), Bool.and_false]
  show tOr _ _ [some (.v (.tup xs)), none] st = _
  rw [s_tOr, t1]
  rfl
/-- no relay: an element that is no list -/
theorem odd_e {xs : List Val} (g : Val → Bool) (h1 : 1 ≤ xs.length) (h4 : xs.length ≤ 4) (hg : ∀ x ∈ xs, m_fits_list [.v x] st = .ok (.v (.bl (g x))) st) (h : xs.all g = false) : m_fits_relay [.v (.tup xs)] st = .ok (.v (.bl false)) st := by
  refine call_v (seq_rt ((if_t (st1 := st) ?_).trans (ret_v rfl)))
  have t1 : tNot (tV (eCall m_is_tuple_of (aCons (eVar 0) (aCons (eC (.int 1)) (aCons (eC (.int 4)) aNil))))) [some (.v (.tup xs)), none] st = .ok false st := by
    refine tn_v (b := true) (ec_ok (ar_c (fa := eVar 0) (z1 := .v (.tup xs)) rfl (ar_c (fa := eC (.int 1)) (z1 := .v (.int 1)) rfl (ar_1 (fa := eC (.int 4)) (z1 := .v (.int 4)) rfl))) ?_)
    refine (is_tup_t xs 1 4).trans ?_
    rw [decide_eq_true (by omega), decide_eq_true (by omega)]
    rfl
  show tOr _ _ [some (.v (.tup xs)), none] st = _
  rw [s_tOr, t1, s_bind_ok, if_neg (by decide)]
  refine tn_v (b := false) ((all_comp g (any_tup (xs := xs) rfl) (by omega) fun x hx => ?_).trans (by rw [h]))
  exact ⟨_, rfl, ec_1 rfl (hg x hx)⟩
/-- no list -/
theorem nol_n {x : Val} (h : isiV x "tuple" = some false) : m_fits_list [.v x] st = .ok (.v (.bl false)) st := by
  refine call_v (seq_rt ((if_t (st1 := st) ?_).trans (ret_v rfl)))
  have t1 : tNot (tV (eCall m_is_tuple_of (aCons (eVar 0) (aCons (eC (.int 2)) (aCons (eC (.int 2)) aNil))))) [some (.v x), none] st = .ok true st :=
    tn_v (b := false) (ec_ok (ar_c (fa := eVar 0) (z1 := .v x) rfl (ar_c (fa := eC (.int 2)) (z1 := .v (.int 2)) rfl (ar_1 (fa := eC (.int 2)) (z1 := .v (.int 2)) rfl))) (is_tup_n 2 2 h))
  show tOr _ _ [some (.v x), none] st = _
  rw [s_tOr, t1]
  rfl
theorem odd_non : m_fits_relay [.v .non] st = .ok (.v (.bl false)) st := odd_n rfl
theorem odd_lst {xs : List Val} : m_fits_relay [.v (.lst xs)] st = .ok (.v (.bl false)) st := odd_n rfl
theorem odd_int {i : Int} : m_fits_relay [.v (.int i)] st = .ok (.v (.bl false)) st := odd_n rfl
theorem odd_one : m_fits_relay [.v (.tup [.non])] st = .ok (.v (.bl false)) st :=
  odd_e (fun _ => false) (by simp) (by simp) (fun x hx => by
    have : x = .non := by simpa using hx
    subst this
    exact nol_n rfl) rfl
/-- the odd values are no relays -/
theorem odd_no {x : Val} (h : m_fits_relay [.v x] st = .ok (.v (.bl false)) st) : m_is_relay [.v x] st = .ok (.v (.bl false)) st :=
  call_v (ret_v (ec_1 (fa := eVar 0) rfl h))
/-- relay[0] is no relay -/
theorem odd_lw {rows : List (List Nat)} : m_fits_relay [.v (lw L rows)] st = .ok (.v (.bl false)) st := by
  refine odd_e (fun _ => false) (by simp) (by simp) (fun x hx => ?_) rfl
  have hx' : x = .int L ∨ x = .tup (rows.map .str) := by simpa using hx
  rcases hx' with rfl | rfl
  · exact nol_n rfl
  · by_cases h2 : rows.length = 2
    · obtain ⟨a, b, rfl⟩ : ∃ a b, rows = [a, b] := by
        match rows, h2 with
        | [a, b], _ => exact ⟨a, b, rfl⟩
      refine call_v (seq_rt ((if_t (st1 := st) ?_).trans (ret_v rfl)))
      simp [is_tup_t, at0, is_whole_s]
    · refine call_v (seq_rt ((if_t (st1 := st) ?_).trans (ret_v rfl)))
      have : (decide (2 ≤ ((rows.map Val.str).length : Int)) && decide (((rows.map Val.str).length : Int) ≤ 2)) = false := by
        rw [List.length_map, Bool.and_eq_false_iff, decide_eq_false_iff_not, decide_eq_false_iff_not]; omega
      have t1 : tNot (tV (eCall m_is_tuple_of (aCons (eVar 0) (aCons (eC (.int 2)) (aCons (eC (.int 2)) aNil))))) [some (.v (.tup (rows.map .str))), none] st = .ok true st :=
        tn_v (b := false) (ec_ok (ar_c (fa := eVar 0) (z1 := .v (.tup (rows.map .str))) rfl (ar_c (fa := eC (.int 2)) (z1 := .v (.int 2)) rfl (ar_1 (fa := eC (.int 2)) (z1 := .v (.int 2)) rfl))) ((is_tup_t _ 2 2).trans (by rw [this])))
      show tOr _ _ [some (.v (.tup (rows.map .str))), none] st = _
      rw [s_tOr, t1]
      rfl
end
end K81

namespace K81
open PySem PySem.Spec PyProof.Rows L2 Eng
section
variable {st : Sto} {L len by' : Nat} {R : List (List (List Nat))} {env : Eng.Env}
def likeP (L len : Nat) : Val → Bool
  | .tup (.int a :: .tup (.str w :: _) :: _) => decide (a = (L : Int)) && decide ((w.length : Int) = len)
  | _ => false
theorem like_lw {L len L2 len2 : Nat} {rows : List (List Nat)} (q : Good L2 len2 rows) : likeP L len (lw L2 rows) = (decide ((L2 : Int) = L) && decide ((len2 : Int) = len)) := by
  cases rows with
  | nil => exact absurd rfl q.ne
  | cons w r =>
    have e := q.len w (by simp)
    rw [← e]
    rfl
theorem odd_x {L2 len2 : Nat} {rows : List (List Nat)} (g : GR L len R) (q : Good L2 len2 rows) (h : L2 ≠ L ∨ len2 ≠ len) : m_fits_relay [.v (.tup (R.map (lw L) ++ [lw L2 rows]))] st = .ok (.v (.bl false)) st := by
  have n4 := g.n4
  have hn : 0 < R.length := List.length_pos_iff.mpr g.n1
  by_cases h4 : R.length = 4
  · exact odd_l (Or.inr (by simp [h4]))
  obtain ⟨r0, rs, e, g0⟩ := g.head
  have hall : ∀ x ∈ R.map (lw L) ++ [lw L2 rows], ∃ L3 len3 rows3, Good L3 len3 rows3 ∧ x = lw L3 rows3 := fun x hx => by
    rcases List.mem_append.mp hx with hx | hx
    · obtain ⟨r, hr, rfl⟩ := List.mem_map.mp hx
      exact ⟨L, len, r, g.all r hr, rfl⟩
    · have : x = lw L2 rows := by simpa using hx
      exact ⟨L2, len2, rows, q, this⟩
  have hm : (R.map (lw L) ++ [lw L2 rows]).length ≤ 1000000 := by simp; omega
  generalize hxs : R.map (lw L) ++ [lw L2 rows] = xs at hall hm
  have hl : xs.length = R.length + 1 := by rw [← hxs]; simp
  have h0 : vIx (.tup xs) (.int 0) = some (.v (lw L r0)) := by rw [← hxs, e]; simp [at0]
  refine call_v (stF (st := st) ?_ (ret_v ?_))
  · have t1 : tNot (tV (eCall m_is_tuple_of (aCons (eVar 0) (aCons (eC (.int 1)) (aCons (eC (.int 4)) aNil))))) [some (.v (.tup xs)), none] st = .ok false st := by
      refine tn_v (b := true) (ec_ok (ar_c (fa := eVar 0) (z1 := .v (.tup xs)) rfl (ar_c (fa := eC (.int 1)) (z1 := .v (.int 1)) rfl (ar_1 (fa := eC (.int 4)) (z1 := .v (.int 4)) rfl))) ?_)
      refine (is_tup_t xs 1 4).trans ?_
      rw [decide_eq_true (by omega), decide_eq_true (by omega)]
      rfl
    show tOr _ _ [some (.v (.tup xs)), none] st = _
    rw [s_tOr, t1, s_bind_ok, if_neg (by decide)]
    refine tn_v (b := true) ((all_comp (fun _ => true) (any_tup (xs := xs) rfl) hm fun x hx => ?_).trans (by simp))
    obtain ⟨L3, len3, rows3, q3, rfl⟩ := hall x hx
    exact ⟨_, rfl, ec_1 rfl (fits_list_s q3)⟩
  · refine (all_comp (likeP L len) (any_tup (xs := xs) rfl) hm fun x hx => ?_).trans ?_
    · obtain ⟨L3, len3, rows3, q3, rfl⟩ := hall x hx
      refine ⟨_, rfl, ?_⟩
      have i1 : ∀ (L : Nat) (r : List (List Nat)), vIx (lw L r) (.int 0) = some (.v (.int L)) := fun L r => by simp [lw, at0]
      rw [like_lw q3]
      by_cases hL : (L3 : Int) = L
      · simp [i1, h0, okD, eqB, length_in_s q3, length_in_s g0, hL]
        rfl
      · simp [i1, h0, okD, eqB, hL]
    · have : xs.all (likeP L len) = false := by
        rw [← hxs, List.all_append]
        have : likeP L len (lw L2 rows) = false := by
          rw [like_lw q, Bool.and_eq_false_iff, decide_eq_false_iff_not, decide_eq_false_iff_not]
          omega
        simp [this]
      rw [this]
end
end K81

namespace K81
open PySem PySem.Spec PyProof.Rows L2 Eng
section
variable {st : Sto} {L len by' : Nat} {R : List (List (List Nat))} {env : Eng.Env}
theorem good97 {L len : Nat} (h1 : 1 ≤ L) (h4 : L ≤ 4) (n2 : 2 ≤ len) (n4 : len ≤ 4) : Good L len [List.replicate len 97] :=
  ⟨h1, h4, n2, n4, by simp, by simp, fun r hr => by
    have : r = List.replicate len 97 := by simpa using hr
    rw [this, List.length_replicate], fun r hr => by
    have : r = List.replicate len 97 := by simpa using hr
    rw [this]
    have : L = 1 ∨ L = 2 ∨ L = 3 ∨ L = 4 := by omega
    have h2 : len = 2 ∨ len = 3 ∨ len = 4 := by omega
    rcases this with rfl | rfl | rfl | rfl <;> rcases h2 with rfl | rfl | rfl <;> decide, by simp⟩
def oLen (len : Nat) : Nat := if len < 4 then len + 1 else 2
def odds (L len : Nat) (R : List (List (List Nat))) : List Val :=
  [.non, .tup [], .lst (R.map (lw L)), lw L (R.getD 0 []), .tup [.non], .tup (R.map (lw L) ++ [lw L [List.replicate (oLen len) 97]]), .tup (R.map (lw L) ++ [lw (1 + L % 4) [List.replicate len 97]]), .tup (List.replicate 5 ((R.map (lw L)).take 1)).flatten, .int 5]
theorem odds_no (g : GR L len R) : ∀ x ∈ odds L len R, m_is_relay [.v x] st = .ok (.v (.bl false)) st := by
  obtain ⟨r0, _, g0⟩ := ix_rV g
  have hn : 0 < R.length := List.length_pos_iff.mpr g.n1
  have n2 := g0.n2
  have n4 := g0.n4
  have l1 := g0.l1
  have l4 := g0.l4
  intro x hx
  refine odd_no ?_
  simp only [odds, List.mem_cons, List.not_mem_nil, or_false] at hx
  rcases hx with rfl | rfl | rfl | rfl | rfl | rfl | rfl | rfl | rfl
  · exact odd_non
  · exact odd_l (Or.inl rfl)
  · exact odd_lst
  · exact odd_lw
  · exact odd_one
  · refine odd_x g (good97 (len := oLen len) l1 l4 ?_ ?_) (Or.inr ?_) <;> (unfold oLen; split <;> omega)
  · exact odd_x g (good97 (L := 1 + L % 4) (by omega) (by omega) n2 n4) (Or.inl (by omega))
  · refine odd_l (Or.inr ?_)
    rw [rep_len, List.length_take, List.length_map]
    omega
  · exact odd_int
theorem sixteen_s (g : GR L len R) {m : Nat} (hm : m < 4) (hn : env.length = 26) (e6 : env[6]? = some (some (.v (rV L R)))) (e20 : env[20]? = some (some (.v (.int m)))) (e21 : env[21]? = some (some (.v (.int ((prodL R ^ m : Nat) : Int))))) (e22 : env[22]? = some (some (.v (.lst (odds L len R))))) : lr16 1 env st = .rt (.v (.bl true)) st := by
  refine ret_v (ea_t (st1 := st) (ec_ok (ar_c (ec_ok (ar_c (eV e6) (ar_1 (eV e20))) (count_s g m (by omega))) (ar_1 (eV e21))) (same_s 6 _ rfl)) ?_)
  have c : eComp (iAnyF (eVar 22)) (.n 25) (tV (e2 vIsN (eCall m_is_relay (aCons (eVar 25) (aNil))) (eC (.bl false)))) (eVar 25) [25] env st = .ok (.fl []) st := by
    refine (comp_map (xs := odds L len R) (fun _ => false) (fun x => x) (any_lst (eV e22)) (by simp [odds]) fun x hx => ?_).trans (by simp)
    refine ⟨_, rfl, ?_, fun h => by cases h⟩
    refine tv_v (e2_ok (x := .bl false) (y := .bl false) (ec_1 (x := x) (eV (gss (by simp [hn]))) (odds_no g x hx)) rfl rfl)
  exact e2_g (x := .lst []) (y := .lst []) c (zb := .fl []) rfl rfl rfl rfl
end
end K81

namespace K81
open PySem PySem.Spec PyProof.Rows L2 Eng
section
variable {st : Sto} {L len by' : Nat} {R : List (List (List Nat))} {env : Eng.Env}
theorem fifteen_s (g : GR L len R) (e2' : env[2]? = some (some (.v (.int L)))) (e3 : env[3]? = some (some (.v (.int len)))) (e6 : env[6]? = some (some (.v (rV L R)))) : lr15 1 env st = .nx (env.set 22 (some (.v (.lst (odds L len R))))) st := by
  obtain ⟨r0, rs, e, g0⟩ := g.head
  have n2 := g0.n2
  have n4 := g0.n4
  have R4 := g.n4
  have i0 : vIx (rV L R) (.int 0) = some (.v (lw L (R.getD 0 []))) := by rw [e]; simp [rV, at0]
  have hadd : ∀ x : Val, vAdd (rV L R) (.tup [x]) = some (.v (.tup (R.map (lw L) ++ [x]))) := fun x => by
    unfold rV
    rw [s_addT, if_pos (by simp; omega)]
  have a3 : eB vList (aCons (eVar 6) aNil) env st = .ok (.fl (R.map (lw L))) st := by rw [s_eB, ar_1 (eV e6)]; rfl
  have a4 := e2_ok (st := st) (o := vIx) (eV e6) (fb := eC (.int 0)) (y := .int 0) rfl i0
  have t : eIf (tV (e2 vLt (eVar 3) (eC (.int 4)))) (e2 vAdd (eVar 3) (eC (.int 1))) (eC (.int 2)) env st = .ok (.v (.int (oLen len))) st := by
    have b : tV (e2 vLt (eVar 3) (eC (.int 4))) env st = .ok (decide ((len : Int) < 4)) st := tv_v (e2_ok (eV e3) (y := .int 4) rfl rfl)
    rw [s_eIf, b, s_bind_ok]
    by_cases h : len < 4
    · rw [if_pos (decide_eq_true (by omega)), oLen, if_pos h]
      exact e2_ok (eV e3) (y := .int 1) rfl rfl
    · rw [if_neg (by rw [decide_eq_false (by omega)]; decide), oLen, if_neg h]
      rfl
  have oL : oLen len ≤ 4 := by unfold oLen; split <;> omega
  have m6 := e2_ok (o := vMul) (fa := eC (.str [97])) (x := .str [97]) rfl t (mul97 (by omega))
  have u6 : eTup (aCons (eTup (aCons (eVar 2) (aCons (eTup (aCons (e2 vMul (eC (.str [97])) (eIf (tV (e2 vLt (eVar 3) (eC (.int 4)))) (e2 vAdd (eVar 3) (eC (.int 1))) (eC (.int 2)))) (aNil))) (aNil)))) (aNil)) env st = .ok (.v (.tup [lw L [List.replicate (oLen len) 97]])) st := by
    have v1 : eTup (aCons (e2 vMul (eC (.str [97])) (eIf (tV (e2 vLt (eVar 3) (eC (.int 4)))) (e2 vAdd (eVar 3) (eC (.int 1))) (eC (.int 2)))) (aNil)) env st = .ok (.v (.tup [.str (List.replicate (oLen len) 97)])) st := by rw [s_eTup, ar_1 m6]; rfl
    have v2 : eTup (aCons (eVar 2) (aCons (eTup (aCons (e2 vMul (eC (.str [97])) (eIf (tV (e2 vLt (eVar 3) (eC (.int 4)))) (e2 vAdd (eVar 3) (eC (.int 1))) (eC (.int 2)))) (aNil))) (aNil))) env st = .ok (.v (lw L [List.replicate (oLen len) 97])) st := by rw [s_eTup, ar_c (eV e2') (ar_1 v1)]; rfl
    rw [s_eTup, ar_1 v2]; rfl
  have a6 := e2_ok (o := vAdd) (eV e6) u6 (hadd _)
  have m7 := e2_ok (st := st) (o := vMul) (fa := eC (.str [97])) (x := .str [97]) rfl (eV e3) (mul97 (by omega))
  have k7 : e2 vAdd (eC (.int 1)) (e2 vMod (eVar 2) (eC (.int 4))) env st = .ok (.v (.int ((1 + L % 4 : Nat) : Int))) st := by
    have k : e2 vMod (eVar 2) (eC (.int 4)) env st = .ok (.v (.int ((L : Int) % 4))) st := e2_ok (eV e2') (y := .int 4) rfl (by rw [s_mod, if_pos (by decide)])
    exact e2_ok (fa := eC (.int 1)) (x := .int 1) rfl k (by push_cast; rfl)
  have u7 : eTup (aCons (eTup (aCons (e2 vAdd (eC (.int 1)) (e2 vMod (eVar 2) (eC (.int 4)))) (aCons (eTup (aCons (e2 vMul (eC (.str [97])) (eVar 3)) (aNil))) (aNil)))) (aNil)) env st = .ok (.v (.tup [lw (1 + L % 4) [List.replicate len 97]])) st := by
    have v1 : eTup (aCons (e2 vMul (eC (.str [97])) (eVar 3)) (aNil)) env st = .ok (.v (.tup [.str (List.replicate len 97)])) st := by rw [s_eTup, ar_1 m7]; rfl
    have v2 : eTup (aCons (e2 vAdd (eC (.int 1)) (e2 vMod (eVar 2) (eC (.int 4)))) (aCons (eTup (aCons (e2 vMul (eC (.str [97])) (eVar 3)) (aNil))) (aNil))) env st = .ok (.v (lw (1 + L % 4) [List.replicate len 97])) st := by rw [s_eTup, ar_c k7 (ar_1 v1)]; rfl
    rw [s_eTup, ar_1 v2]; rfl
  have a7 := e2_ok (o := vAdd) (eV e6) u7 (hadd _)
  have s8 : eSl (eVar 6) pNo (pAt (eC (.int 1))) env st = .ok (.v (.tup ((R.map (lw L)).take 1))) st := by
    have e1 : eC (.int 1) env st = .ok (.v (.int ((1 : Nat) : Int))) st := rfl
    rw [s_eSl, eV e6]
    simp only [s_bind_ok, s_pAt, e1, s_pInt, s_pNo, s_val_v, Option.bind_some, rV, s_slT, cutT, s_outO]
  have a8 : e2 vMul (eSl (eVar 6) pNo (pAt (eC (.int 1)))) (eC (.int 5)) env st = .ok (.v (.tup (List.replicate 5 ((R.map (lw L)).take 1)).flatten)) st := by
    refine e2_ok s8 (y := .int 5) rfl ?_
    show (if _ then _ else _) = _
    rw [if_pos]
    · rfl
    · rw [e]; rfl
  refine set_l ?_
  have t2 : eTup aNil env st = .ok (.v (.tup [])) st := rfl
  have t5 : eTup (aCons (eC .non) aNil) env st = .ok (.v (.tup [.non])) st := rfl
  show eLst _ env st = _
  have all := ar_c (fa := eC .non) (z1 := .v .non) rfl (ar_c t2 (ar_c a3 (ar_c a4 (ar_c t5 (ar_c a6 (ar_c a7 (ar_c a8 (ar_1 (fa := eC (.int 5)) (z1 := .v (.int 5)) rfl))))))))
  unfold eLst
  rw [all]
  rfl
end
end K81

namespace K81
open PySem PySem.Spec PyProof.Rows L2 Eng
theorem prod_le {most : Nat} : ∀ (R : List (List (List Nat))) (v : Nat), (∀ r ∈ R, r.length ≤ most) → (R.map List.length).foldl (· * ·) v ≤ v * most ^ R.length
  | [], v, _ => by simp
  | r :: R, v, h => by
    have ih := prod_le R (v * r.length) fun x hx => h x (List.mem_cons_of_mem _ hx)
    have h1 := h r (List.mem_cons_self ..)
    rw [List.map_cons, List.foldl_cons, List.length_cons, Nat.pow_succ]
    calc _ ≤ v * r.length * most ^ R.length := ih
      _ ≤ v * most * most ^ R.length := Nat.mul_le_mul_right _ (Nat.mul_le_mul_left _ h1)
      _ = v * (most ^ R.length * most) := by rw [Nat.mul_assoc, Nat.mul_comm most]
theorem right_b (n : Nat) : b__law_right n = sSeq (lr0 n) (sSeq (lr1 n) (sSeq (lr2 n) (sSeq (lr3 n) (sSeq (lr4 n) (sSeq (lr5 n) (sSeq (lr6 n) (sSeq (lr7 n) (sSeq (lr8 n) (sSeq (lr9 n) (sSeq (lr10 n) (sSeq (lr11 n) (sSeq (lr12 n) (sSeq (lr13 n) (sSeq (lr14 n) (sSeq (lr15 n) (lr16 n)))))))))))))))) := rfl
end K81

namespace K81
open PySem PySem.Spec PyProof.Rows L2 Eng
theorem Cup.len {st : Sto} (h : Cup [] st) : st.length = 1 := by
  obtain ⟨a, b, _, _, _, rfl⟩ := h
  rfl
theorem right_s {lists L len size most : Nat} (h1 : 1 ≤ L) (h4 : L ≤ 4) (n2 : 2 ≤ len) (n4 : len ≤ 4) (i1 : 1 ≤ lists) (i4 : lists ≤ 4) (m1 : 1 ≤ size) (m2 : size ≤ 12) (k1 : 1 ≤ most) (k2 : most ≤ 40) (hp : most ^ lists ≤ 40) {st : Sto} (hc : Cup [] st) :
    ∃ st', Cup [] st' ∧ m__law_right [.loc 0, .v (.int lists), .v (.int L), .v (.int len), .v (.int size), .v (.int most)] st = .ok (.v (.bl true)) st' := by
  obtain ⟨R, st1, q1, g, q3, hc1, e⟩ := law_relay_s h1 h4 n2 n4 i1 i4 m1 m2 k1 k2 hc
  have hP : prodL R ≤ 40 := by
    have := prod_le R 1 q3
    rw [q1, Nat.one_mul] at this
    unfold prodL
    omega
  subst q1
  obtain ⟨_, _, hm⟩ := whole_s g
  let env0 : Eng.Env := [some (.loc 0), some (.v (.int R.length)), some (.v (.int L)), some (.v (.int len)), some (.v (.int size)), some (.v (.int most))] ++ List.replicate 20 none
  let env1 := env0.set 6 (some (.v (rV L R)))
  let env2 := env1.set 7 (some (.v (.int ((R.length * len : Nat) : Int))))
  let env3 := env2.set 8 (some (.v (.tup [])))
  have t0 : lr0 1 env0 st = .nx env1 st1 := set_v (ec_ok (ar_c (fa := eVar 0) (z1 := .loc 0) rfl (ar_c (fa := eVar 1) (z1 := .v (.int R.length)) rfl (ar_c (fa := eVar 2) (z1 := .v (.int L)) rfl (ar_c (fa := eVar 3) (z1 := .v (.int len)) rfl (ar_c (fa := eVar 4) (z1 := .v (.int size)) rfl (ar_1 (fa := eVar 5) (z1 := .v (.int most)) rfl)))))) e)
  have t1 : lr1 1 env1 st1 = .nx env2 st1 := set_v (e2_ok (x := .int R.length) (y := .int len) rfl rfl (by rw [mul_ok hm]; push_cast; rfl))
  have t2 : lr2 1 env2 st1 = .nx env3 st1 := set_v rfl
  have f3 : E0 L len R env3 := ⟨rfl, rfl, rfl, rfl, rfl, rfl, rfl⟩
  obtain ⟨env4, st2, ws, r, t3, f4, e8, hc2, wl, hr, wm⟩ := row_s g f3 hc1 rfl
  have q := row_mk g wl hr wm
  have t4 := belt_s (st := st2) g q f4 e8
  let env5 := env4.set 10 (some (.v (.str ws.flatten)))
  have f5 : E0 L len R env5 := f4.set (by omega)
  have e8' : env5[8]? = some (some (.v (.tup (sv ws)))) := gs (by decide) e8
  have e10 : env5[10]? = some (some (.v (.str ws.flatten))) := gss (by rw [f4.n]; omega)
  have t5 := five_s (st := st2) g q f5 e8' e10
  obtain ⟨hv, hv2⟩ := q.vd g
  obtain ⟨by', at', st3, hby, hat, hc3, t6⟩ := six_s g f5 hv hc2 e10
  let env6 := (env5.set 11 (some (.v (.int by')))).set 12 (some (.v (.int at')))
  have f6 : E0 L len R env6 := (f5.set (by omega)).set (by omega)
  have e11 : env6[11]? = some (some (.v (.int by'))) := gs (by decide) (gss (by rw [f5.n]; omega))
  have e12 : env6[12]? = some (some (.v (.int at'))) := gss (by rw [List.length_set, f5.n]; omega)
  have e10' : env6[10]? = some (some (.v (.str ws.flatten))) := gs (by decide) (gs (by decide) e10)
  let env7 := env6.set 13 (some (.v (rV L (rot R by'))))
  have t7 : lr7 1 env6 st3 = .nx env7 st3 := set_v (ec_ok (ar_c (eV f6.e6) (ar_1 (eV e11))) (turned_relay_s g by' hby))
  have f7 : Fix L len R by' env7 := by
    have f : E0 L len R env7 := f6.set (by omega)
    exact ⟨f.n, f.e0, f.e2, f.e3, f.e6, f.e7, gs (by decide) e11, gss (by rw [f6.n]; omega)⟩
  have t8 := eight_s (st := st3) g hby f7
  obtain ⟨env8, t9, f8⟩ := nine_s (st := st3) g hby f7 hv hv2 hat (gs (by decide) e10') (gs (by decide) e12)
  have t10 := ten_s (st := st3) g hP f8
  let env9 := env8.set 19 (some (.v (.lst (sv (rnds R [[]])))))
  have f9 : Fix L len R by' env9 := f8.set (by omega)
  have e19 : env9[19]? = some (some (.v (.lst (sv (rnds R [[]]))))) := gss (by rw [f8.n]; omega)
  have t11 := eleven_s (st := st3) g hP f9 e19
  obtain ⟨m, st4, hm4, hc4, s4⟩ := hc3.roll (many := 4) (by omega) (by omega)
  let env10 := env9.set 20 (some (.v (.int m)))
  let env11 := env10.set 21 (some (.v (.int 1)))
  have t12 : lr12 1 env9 st3 = .nx env10 st4 := set_v (ec_ok (ar_c (eV f9.e0) (ar_1 (fa := eC (.int 4)) (z1 := .v (.int 4)) rfl)) s4)
  have t13 : lr13 1 env10 st4 = .nx env11 st4 := set_v rfl
  have f10 : Fix L len R by' env10 := f9.set (by omega)
  have f11 : Fix L len R by' env11 := f10.set (by omega)
  obtain ⟨env12, t14, d0, d1, d2, d3, d4, d5, d6⟩ := fourteen_s (st := st4) g hP (m := m) (by omega) f11 (gs (by decide) (gs (by decide) e19)) (gs (by decide) (gss (by rw [f9.n]; omega))) (gss (by rw [f10.n]; omega))
  have t15 := fifteen_s (st := st4) g d2 d3 d4
  have t16 := sixteen_s (st := st4) (env := env12.set 22 (some (.v (.lst (odds L len R))))) g (m := m) (by omega) (by rw [List.length_set]; exact d0) (gs (by decide) d4) (gs (by decide) d5) (gs (by decide) d6) (gss (by rw [d0]; omega))
  refine ⟨st4, hc4, call_rt0 ?_ (by rw [hc4.len, hc.len])⟩
  rw [hc.len, right_b]
  refine (seq_nx t0).trans ((seq_nx t1).trans ((seq_nx t2).trans ((seq_nx t3).trans ((seq_nx t4).trans ((seq_nx t5).trans ((seq_nx t6).trans ((seq_nx t7).trans ((seq_nx t8).trans ((seq_nx t9).trans ((seq_nx t10).trans ((seq_nx t11).trans ((seq_nx t12).trans ((seq_nx t13).trans ((seq_nx t14).trans ((seq_nx t15).trans t16)))))))))))))))
end K81

namespace K81
open PySem PySem.Spec PyProof.Rows L2 Eng
def lw0 (n : Nat) : Fs := sSet (.c 0) n [] 1 (eCall m__law_cup (aCons (eVar 0) (aNil)))
def lw1 (n : Nat) : Fs := sTup (bCons (.f) n [] (eTup (aCons (eTup (aCons (eC (.int 2)) (aCons (eTup (aCons (eC (.str [97, 97])) (aNil))) (aNil)))) (aCons (eTup (aCons (eC (.int 2)) (aCons (eTup (aCons (eC (.str [98, 98])) (aNil))) (aNil)))) (aNil)))) (bCons (.f) n [] (eTup (aCons (eTup (aCons (eC (.int 2)) (aCons (eTup (aCons (eC (.str [97, 98])) (aCons (eC (.str [98, 97])) (aNil)))) (aNil)))) (aCons (eTup (aCons (eC (.int 2)) (aCons (eTup (aCons (eC (.str [97, 98])) (aNil))) (aNil)))) (aNil)))) (bNil))) (gsCons (gN 2) (gsCons (gN 3) (gsNil)))
def lw2 (n : Nat) : Fs := sSet (.f) n [] 4 (eTup (aCons (eCall m_relay_cuttings (aCons (eVar 2) (aCons (eC (.str [97, 97, 98, 98])) (aNil)))) (aCons (eCall m_relay_cuttings (aCons (eVar 2) (aCons (eC (.str [97, 98, 98, 97])) (aNil)))) (aCons (eCall m_relay_cuttings (aCons (eVar 3) (aCons (eC (.str [97, 98, 97, 98])) (aNil)))) (aCons (eCall m_relay_cuttings (aCons (eVar 3) (aCons (eC (.str [98, 97, 97, 98])) (aNil)))) (aCons (eCall m_relay_words (aCons (eVar 3) (aCons (eC (.str [97, 98, 97, 98])) (aCons (eC (.int 2)) (aNil))))) (aCons (eCall m_relay_words (aCons (eVar 3) (aCons (eC (.str [97, 98, 97, 98])) (aCons (eC (.int 1)) (aNil))))) (aNil))))))))
def lw3 (n : Nat) : Fs := sIf (tNot (tV (eCall (m__law_same 6) (aCons (eVar 4) (aCons (eTup (aCons (eTup (aCons (eC (.int 0)) (aNil))) (aCons (eTup (aCons (eC (.int 3)) (aNil))) (aCons (eTup (aCons (eC (.int 0)) (aCons (eC (.int 2)) (aNil)))) (aCons (eTup (aCons (eC (.int 0)) (aNil))) (aCons (eTup (aCons (eC (.str [97, 98])) (aCons (eC (.str [97, 98])) (aNil)))) (aCons (eC .non) (aNil)))))))) (aNil)))))) (sRet (eC (.bl false))) (sNil)
def lw4 (n : Nat) : Fs := sSet (.f) n [] 4 (eTup (aCons (eCall m_relay_belt (aCons (eVar 3) (aCons (eTup (aCons (eC (.str [98, 97])) (aCons (eC (.str [97, 98])) (aNil)))) (aNil)))) (aCons (eCall m_relay_verdict (aCons (eVar 3) (aCons (eC (.str [97, 98, 97, 98])) (aNil)))) (aCons (eCall m_relay_verdict (aCons (eVar 2) (aCons (eC (.str [97, 97, 98, 98, 97, 97])) (aNil)))) (aCons (eCall m_turned_relay (aCons (eVar 2) (aCons (eC (.int 1)) (aNil)))) (aCons (eCall m_relay_list (aCons (eVar 2) (aNil))) (aCons (eCall m_relay_list (aCons (eVar 3) (aNil))) (aCons (eCall m_count_relay_rows (aCons (eVar 3) (aCons (eC (.int 3)) (aNil)))) (aNil)))))))))
def lw5 (n : Nat) : Fs := sIf (tNot (tV (eCall (m__law_same 6) (aCons (eVar 4) (aCons (eTup (aCons (eC (.str [98, 97, 97, 98])) (aCons (eC (.str [115, 101, 118, 101, 114, 97, 108])) (aCons (eC (.str [110, 111, 110, 101])) (aCons (eTup (aCons (eTup (aCons (eC (.int 2)) (aCons (eTup (aCons (eC (.str [98, 98])) (aNil))) (aNil)))) (aCons (eTup (aCons (eC (.int 2)) (aCons (eTup (aCons (eC (.str [97, 97])) (aNil))) (aNil)))) (aNil)))) (aCons (eTup (aCons (eC (.int 2)) (aCons (eTup (aCons (eC (.str [97, 97, 98, 98])) (aNil))) (aNil)))) (aCons (eTup (aCons (eC (.int 2)) (aCons (eTup (aCons (eC (.str [97, 98, 97, 98])) (aCons (eC (.str [98, 97, 97, 98])) (aNil)))) (aNil)))) (aCons (eC (.int 8)) (aNil))))))))) (aNil)))))) (sRet (eC (.bl false))) (sNil)
def lw6 (n : Nat) : Fs := sFor (iAnyF (eTup (aCons (eTup (aCons (eC (.int 1)) (aCons (eC (.int 2)) (aCons (eC (.int 3)) (aCons (eC (.int 3)) (aCons (eC (.int 4)) (aNil))))))) (aCons (eTup (aCons (eC (.int 2)) (aCons (eC (.int 2)) (aCons (eC (.int 2)) (aCons (eC (.int 3)) (aCons (eC (.int 3)) (aNil))))))) (aCons (eTup (aCons (eC (.int 2)) (aCons (eC (.int 3)) (aCons (eC (.int 3)) (aCons (eC (.int 3)) (aCons (eC (.int 4)) (aNil))))))) (aCons (eTup (aCons (eC (.int 3)) (aCons (eC (.int 2)) (aCons (eC (.int 2)) (aCons (eC (.int 2)) (aCons (eC (.int 3)) (aNil))))))) (aCons (eTup (aCons (eC (.int 4)) (aCons (eC (.int 2)) (aCons (eC (.int 4)) (aCons (eC (.int 2)) (aCons (eC (.int 2)) (aNil))))))) (aNil)))))))) (.t [5, 6, 7, 8, 9]) n ([] ++ []) (sIf (tNot (tV (eCall m__law_right (aCons (eVar 1) (aCons (eVar 5) (aCons (eVar 6) (aCons (eVar 7) (aCons (eVar 8) (aCons (eVar 9) (aNil)))))))))) (sRet (eC (.bl false))) (sNil))
def lw7 (n : Nat) : Fs := sRet (eC (.bl true))
theorem law_b (n : Nat) : b_law n = sSeq (lw0 n) (sSeq (lw1 n) (sSeq (lw2 n) (sSeq (lw3 n) (sSeq (lw4 n) (sSeq (lw5 n) (sSeq (lw6 n) (lw7 n))))))) := rfl
def oneV : Val := .tup [.tup [.int 2, .tup [.str [97, 97]]], .tup [.int 2, .tup [.str [98, 98]]]]
def twoV : Val := .tup [.tup [.int 2, .tup [.str [97, 98], .str [98, 97]]], .tup [.int 2, .tup [.str [97, 98]]]]
def toldV : Val := .tup [.str [98, 97, 97, 98], .str [115, 101, 118, 101, 114, 97, 108], .str [110, 111, 110, 101], .tup [.tup [.int 2, .tup [.str [98, 98]]], .tup [.int 2, .tup [.str [97, 97]]]], .tup [.int 2, .tup [.str [97, 97, 98, 98]]], .tup [.int 2, .tup [.str [97, 98, 97, 98], .str [98, 97, 97, 98]]], .int 8]
theorem mid (z0 z2 z3 z4 : Option SV) (z5 : List (Option SV)) (a b : Int) : sSeq (lw1 0) (sSeq (lw2 0) (sSeq (lw3 0) (sSeq (lw4 0) (lw5 0)))) (z0 :: some (.loc 0) :: z2 :: z3 :: z4 :: z5) [C a b] = .nx (z0 :: some (.loc 0) :: some (.v oneV) :: some (.v twoV) :: some (.v toldV) :: z5) [C a b] := by
  kernel_rfl
theorem for_rows {z0 z2 z3 z4 z5 z6 z7 z8 z9 : Option SV} {st : Sto} (hc : Cup [] st) : ∃ env' st', lw6 0 [z0, some (.loc 0), z2, z3, z4, z5, z6, z7, z8, z9] st = .nx env' st' := by
  have go : ∀ {B : List Nat} {fi : Fi} (xs : List Val), fi [z0, some (.loc 0), z2, z3, z4, z5, z6, z7, z8, z9] st = .ok (.seq xs) st →
      (∀ x ∈ xs, ∃ lists L len size most : Nat, x = .tup [.int lists, .int L, .int len, .int size, .int most] ∧ 1 ≤ L ∧ L ≤ 4 ∧ 2 ≤ len ∧ len ≤ 4 ∧ 1 ≤ lists ∧ lists ≤ 4 ∧ 1 ≤ size ∧ size ≤ 12 ∧ 1 ≤ most ∧ most ≤ 40 ∧ most ^ lists ≤ 40) →
      ∃ env' st', sFor fi (.t [5, 6, 7, 8, 9]) 0 B (sIf (tNot (tV (eCall m__law_right (aCons (eVar 1) (aCons (eVar 5) (aCons (eVar 6) (aCons (eVar 7) (aCons (eVar 8) (aCons (eVar 9) (aNil)))))))))) (sRet (eC (.bl false))) (sNil)) [z0, some (.loc 0), z2, z3, z4, z5, z6, z7, z8, z9] st = .nx env' st' := fun {B fi} xs hf hx => by
    obtain ⟨env', st', h, _⟩ := for_inv (p := .t [5, 6, 7, 8, 9]) (n := 0) (B := B) (fi := fi) (body := sIf (tNot (tV (eCall m__law_right (aCons (eVar 1) (aCons (eVar 5) (aCons (eVar 6) (aCons (eVar 7) (aCons (eVar 8) (aCons (eVar 9) (aNil)))))))))) (sRet (eC (.bl false))) (sNil)) (xs := xs) (st := st) (st1 := st)
      (fun i env s => Cup [] s ∧ ∃ w0 w2 w3 w4 w5 w6 w7 w8 w9, env = [w0, some (.loc 0), w2, w3, w4, w5, w6, w7, w8, w9]) hf ⟨hc, _, _, _, _, _, _, _, _, _, rfl⟩ (fun i x env s hxi hI => by
        obtain ⟨hs, w0, w2, w3, w4, w5, w6, w7, w8, w9, rfl⟩ := hI
        obtain ⟨lists, L, len, size, most, rfl, a1, a2, a3, a4, a5, a6, a7, a8, a9, a10, a11⟩ := hx x (List.mem_of_getElem? hxi)
        obtain ⟨s', hs', e⟩ := right_s a1 a2 a3 a4 a5 a6 a7 a8 a9 a10 a11 hs
        refine ⟨_, rfl, _, s', (if_f (st1 := s') ?_).trans rfl, hs', _, _, _, _, _, _, _, _, _, rfl⟩
        exact tn_v (b := true) (ec_ok (ar_c (fa := eVar 1) (z1 := .loc 0) rfl (ar_c (fa := eVar 5) (z1 := .v (.int lists)) rfl (ar_c (fa := eVar 6) (z1 := .v (.int L)) rfl (ar_c (fa := eVar 7) (z1 := .v (.int len)) rfl (ar_c (fa := eVar 8) (z1 := .v (.int size)) rfl (ar_1 (fa := eVar 9) (z1 := .v (.int most)) rfl)))))) e))
    exact ⟨env', st', h⟩
  refine go [.tup [.int 1, .int 2, .int 3, .int 3, .int 4], .tup [.int 2, .int 2, .int 2, .int 3, .int 3], .tup [.int 2, .int 3, .int 3, .int 3, .int 4], .tup [.int 3, .int 2, .int 2, .int 2, .int 3], .tup [.int 4, .int 2, .int 4, .int 2, .int 2]] (by rfl) fun x hx => ?_
  simp only [List.mem_cons, List.not_mem_nil, or_false] at hx
  rcases hx with rfl | rfl | rfl | rfl | rfl
  · exact ⟨1, 2, 3, 3, 4, rfl, by decide⟩
  · exact ⟨2, 2, 2, 3, 3, rfl, by decide⟩
  · exact ⟨2, 3, 3, 3, 4, rfl, by decide⟩
  · exact ⟨3, 2, 2, 2, 3, rfl, by decide⟩
  · exact ⟨4, 2, 4, 2, 2, rfl, by decide⟩
theorem law_true : ∀ ns : List Int, ns.length ≤ 63 → ∃ st, m_law [.v (.seq (ns.map .int))] [] = .ok (.v (.bl true)) st := by
  intro ns hl
  obtain ⟨a, b, ha, hb, hb2, hcup⟩ := cup_s ns hl (st := [.dead])
  have l0 : lw0 0 [some (.v (.seq (ns.map .int))), none, none, none, none, none, none, none, none, none] [.dead] = .nx [some (.v (.seq (ns.map .int))), some (.loc 0), none, none, none, none, none, none, none, none] [C a b] := by
    unfold lw0 sSet
    rw [ec_1 (fa := eVar 0) rfl hcup]
    rfl
  have l1 := mid (some (.v (.seq (ns.map .int)))) none none none [none, none, none, none, none] a b
  obtain ⟨env', st', l6⟩ := for_rows (z0 := some (.v (.seq (ns.map .int)))) (z2 := some (.v oneV)) (z3 := some (.v twoV)) (z4 := some (.v toldV)) (z5 := none) (z6 := none) (z7 := none) (z8 := none) (z9 := none) (st := [C a b]) ⟨a, b, ha, hb, hb2, rfl⟩
  refine ⟨_, call_rt (z := .v (.bl true)) (z' := .v (.bl true)) (st' := st') ?_ rfl⟩
  show b_law 0 [some (.v (.seq (ns.map .int))), none, none, none, none, none, none, none, none, none] [.dead] = _
  rw [law_b, seq_nx l0]
  have e : sSeq (lw1 0) (sSeq (lw2 0) (sSeq (lw3 0) (sSeq (lw4 0) (sSeq (lw5 0) (sSeq (lw6 0) (lw7 0)))))) [some (.v (.seq (ns.map .int))), some (.loc 0), none, none, none, none, none, none, none, none] [C a b] = sSeq (lw6 0) (lw7 0) [some (.v (.seq (ns.map .int))), some (.loc 0), some (.v oneV), some (.v twoV), some (.v toldV), none, none, none, none, none] [C a b] := by
    have l1' := seq_nx (g := sSeq (lw6 0) (lw7 0)) l1
    have assoc : ∀ (f g h : Fs), sSeq (sSeq f g) h = sSeq f (sSeq g h) := fun f g h => by
      funext env st
      unfold sSeq
      cases f env st <;> rfl
    rw [assoc, assoc, assoc, assoc] at l1'
    exact l1'
  rw [e, seq_nx l6]
  rfl
end K81


namespace K81
open PySem PySem.Spec PyProof.Rows L2 Eng
/-! ### what of the module is known -/
structure Gs (K : PySem.W.Frag) (mg : Str → Option Value) where
  A__law_cup : Addr
  D__law_cup : FuncData
  F__law_cup : Fun K "_law_cup" "_law_cup" s__law_cup A__law_cup D__law_cup
  b__law_cup : Binds K D__law_cup ["script"] []
  g__law_cup : mg "_law_cup" = some (.ref A__law_cup)
  A_is_tuple_of : Addr
  D_is_tuple_of : FuncData
  F_is_tuple_of : Fun K "is_tuple_of" "is_tuple_of" s_is_tuple_of A_is_tuple_of D_is_tuple_of
  b_is_tuple_of : Binds K D_is_tuple_of ["value", "low", "high"] []
  g_is_tuple_of : mg "is_tuple_of" = some (.ref A_is_tuple_of)
  A_is_whole : Addr
  D_is_whole : FuncData
  F_is_whole : Fun K "is_whole" "is_whole" s_is_whole A_is_whole D_is_whole
  b_is_whole : Binds K D_is_whole ["value", "low", "high"] []
  g_is_whole : mg "is_whole" = some (.ref A_is_whole)
  A_fits_row : Addr
  D_fits_row : FuncData
  F_fits_row : Fun K "fits_row" "fits_row" s_fits_row A_fits_row D_fits_row
  b_fits_row : Binds K D_fits_row ["letters", "value", "low", "high"] []
  g_fits_row : mg "fits_row" = some (.ref A_fits_row)
  A_is_rising : Addr
  D_is_rising : FuncData
  F_is_rising : Fun K "is_rising" "is_rising" s_is_rising A_is_rising D_is_rising
  b_is_rising : Binds K D_is_rising ["values"] []
  g_is_rising : mg "is_rising" = some (.ref A_is_rising)
  A_fits_list : Addr
  D_fits_list : FuncData
  F_fits_list : Fun K "fits_list" "fits_list" s_fits_list A_fits_list D_fits_list
  b_fits_list : Binds K D_fits_list ["value"] []
  g_fits_list : mg "fits_list" = some (.ref A_fits_list)
  A_length_in : Addr
  D_length_in : FuncData
  F_length_in : Fun K "length_in" "length_in" s_length_in A_length_in D_length_in
  b_length_in : Binds K D_length_in ["words"] []
  g_length_in : mg "length_in" = some (.ref A_length_in)
  A_fits_relay : Addr
  D_fits_relay : FuncData
  F_fits_relay : Fun K "fits_relay" "fits_relay" s_fits_relay A_fits_relay D_fits_relay
  b_fits_relay : Binds K D_fits_relay ["value"] []
  g_fits_relay : mg "fits_relay" = some (.ref A_fits_relay)
  A_need_relay : Addr
  D_need_relay : FuncData
  F_need_relay : Fun K "need_relay" "need_relay" s_need_relay A_need_relay D_need_relay
  b_need_relay : Binds K D_need_relay ["relay"] []
  g_need_relay : mg "need_relay" = some (.ref A_need_relay)
  A_fits_belt : Addr
  D_fits_belt : FuncData
  F_fits_belt : Fun K "fits_belt" "fits_belt" s_fits_belt A_fits_belt D_fits_belt
  b_fits_belt : Binds K D_fits_belt ["letters", "value"] []
  g_fits_belt : mg "fits_belt" = some (.ref A_fits_belt)
  A_need_belt : Addr
  D_need_belt : FuncData
  F_need_belt : Fun K "need_belt" "need_belt" s_need_belt A_need_belt D_need_belt
  b_need_belt : Binds K D_need_belt ["relay", "belt"] []
  g_need_belt : mg "need_belt" = some (.ref A_need_belt)
  A_are_in_turn : Addr
  D_are_in_turn : FuncData
  F_are_in_turn : Fun K "are_in_turn" "are_in_turn" s_are_in_turn A_are_in_turn D_are_in_turn
  b_are_in_turn : Binds K D_are_in_turn ["relay", "rows"] []
  g_are_in_turn : mg "are_in_turn" = some (.ref A_are_in_turn)
  A_pieces_in : Addr
  D_pieces_in : FuncData
  F_pieces_in : Fun K "pieces_in" "pieces_in" s_pieces_in A_pieces_in D_pieces_in
  b_pieces_in : Binds K D_pieces_in ["relay", "belt", "first"] []
  g_pieces_in : mg "pieces_in" = some (.ref A_pieces_in)
  A_cuttings_in : Addr
  D_cuttings_in : FuncData
  F_cuttings_in : Fun K "cuttings_in" "cuttings_in" s_cuttings_in A_cuttings_in D_cuttings_in
  b_cuttings_in : Binds K D_cuttings_in ["relay", "belt"] []
  g_cuttings_in : mg "cuttings_in" = some (.ref A_cuttings_in)
  A_relay_cuttings : Addr
  D_relay_cuttings : FuncData
  F_relay_cuttings : Fun K "relay_cuttings" "relay_cuttings" s_relay_cuttings A_relay_cuttings D_relay_cuttings
  b_relay_cuttings : Binds K D_relay_cuttings ["relay", "belt"] []
  g_relay_cuttings : mg "relay_cuttings" = some (.ref A_relay_cuttings)
  A_relay_words : Addr
  D_relay_words : FuncData
  F_relay_words : Fun K "relay_words" "relay_words" s_relay_words A_relay_words D_relay_words
  b_relay_words : Binds K D_relay_words ["relay", "belt", "first"] []
  g_relay_words : mg "relay_words" = some (.ref A_relay_words)
  A__law_same : Addr
  D__law_same : FuncData
  F__law_same : Fun K "_law_same" "_law_same" s__law_same A__law_same D__law_same
  b__law_same : Binds K D__law_same ["told", "due"] []
  g__law_same : mg "_law_same" = some (.ref A__law_same)
  A_relay_belt : Addr
  D_relay_belt : FuncData
  F_relay_belt : Fun K "relay_belt" "relay_belt" s_relay_belt A_relay_belt D_relay_belt
  b_relay_belt : Binds K D_relay_belt ["relay", "row"] []
  g_relay_belt : mg "relay_belt" = some (.ref A_relay_belt)
  A_relay_verdict : Addr
  D_relay_verdict : FuncData
  F_relay_verdict : Fun K "relay_verdict" "relay_verdict" s_relay_verdict A_relay_verdict D_relay_verdict
  b_relay_verdict : Binds K D_relay_verdict ["relay", "belt"] []
  g_relay_verdict : mg "relay_verdict" = some (.ref A_relay_verdict)
  A_turned_relay : Addr
  D_turned_relay : FuncData
  F_turned_relay : Fun K "turned_relay" "turned_relay" s_turned_relay A_turned_relay D_turned_relay
  b_turned_relay : Binds K D_turned_relay ["relay", "by"] []
  g_turned_relay : mg "turned_relay" = some (.ref A_turned_relay)
  A_relay_list : Addr
  D_relay_list : FuncData
  F_relay_list : Fun K "relay_list" "relay_list" s_relay_list A_relay_list D_relay_list
  b_relay_list : Binds K D_relay_list ["relay"] []
  g_relay_list : mg "relay_list" = some (.ref A_relay_list)
  A_count_relay_rows : Addr
  D_count_relay_rows : FuncData
  F_count_relay_rows : Fun K "count_relay_rows" "count_relay_rows" s_count_relay_rows A_count_relay_rows D_count_relay_rows
  b_count_relay_rows : Binds K D_count_relay_rows ["relay", "rounds"] []
  g_count_relay_rows : mg "count_relay_rows" = some (.ref A_count_relay_rows)
  A__law_roll : Addr
  D__law_roll : FuncData
  F__law_roll : Fun K "_law_roll" "_law_roll" s__law_roll A__law_roll D__law_roll
  b__law_roll : Binds K D__law_roll ["cup", "many"] []
  g__law_roll : mg "_law_roll" = some (.ref A__law_roll)
  A__law_some : Addr
  D__law_some : FuncData
  F__law_some : Fun K "_law_some" "_law_some" s__law_some A__law_some D__law_some
  b__law_some : Binds K D__law_some ["cup", "things"] []
  g__law_some : mg "_law_some" = some (.ref A__law_some)
  A__law_list : Addr
  D__law_list : FuncData
  F__law_list : Fun K "_law_list" "_law_list" s__law_list A__law_list D__law_list
  b__law_list : Binds K D__law_list ["cup", "letters", "length", "many", "most"] []
  g__law_list : mg "_law_list" = some (.ref A__law_list)
  A__law_relay : Addr
  D__law_relay : FuncData
  F__law_relay : Fun K "_law_relay" "_law_relay" s__law_relay A__law_relay D__law_relay
  b__law_relay : Binds K D__law_relay ["cup", "lists", "letters", "length", "size", "most"] []
  g__law_relay : mg "_law_relay" = some (.ref A__law_relay)
  A_is_relay : Addr
  D_is_relay : FuncData
  F_is_relay : Fun K "is_relay" "is_relay" s_is_relay A_is_relay D_is_relay
  b_is_relay : Binds K D_is_relay ["value"] []
  g_is_relay : mg "is_relay" = some (.ref A_is_relay)
  A__law_places : Addr
  D__law_places : FuncData
  F__law_places : Fun K "_law_places" "_law_places" s__law_places A__law_places D__law_places
  b__law_places : Binds K D__law_places ["relay", "belt"] []
  g__law_places : mg "_law_places" = some (.ref A__law_places)
  A__law_rounds : Addr
  D__law_rounds : FuncData
  F__law_rounds : Fun K "_law_rounds" "_law_rounds" s__law_rounds A__law_rounds D__law_rounds
  b__law_rounds : Binds K D__law_rounds ["relay"] []
  g__law_rounds : mg "_law_rounds" = some (.ref A__law_rounds)
  A__law_right : Addr
  D__law_right : FuncData
  F__law_right : Fun K "_law_right" "_law_right" s__law_right A__law_right D__law_right
  b__law_right : Binds K D__law_right ["cup", "lists", "letters", "length", "size", "most"] []
  g__law_right : mg "_law_right" = some (.ref A__law_right)
  A_law : Addr
  D_law : FuncData
  F_law : Fun K "law" "law" s_law A_law D_law
  b_law : Binds K D_law ["script"] []
  g_law : mg "law" = some (.ref A_law)
  c_BELT_belts : ∃ u, mg "BELT_belts" = some u ∧ RelV (.int 24) u
  c_BELT_relays : ∃ u, mg "BELT_relays" = some u ∧ RelV (.int 24) u
  c_LETTERS : ∃ u, mg "LETTERS" = some u ∧ RelV (.str (toS [97, 98, 99, 100])) u
  c_LISTS : ∃ u, mg "LISTS" = some u ∧ RelV (.int 4) u
  c_LONG : ∃ u, mg "LONG" = some u ∧ RelV (.int 4) u
  c_SHORT : ∃ u, mg "SHORT" = some u ∧ RelV (.int 2) u
  c_WORDS : ∃ u, mg "WORDS" = some u ∧ RelV (.int 40) u
  z_abs : mg "abs" = none
  z_all : mg "all" = none
  z_bool : mg "bool" = none
  z_enumerate : mg "enumerate" = none
  z_int : mg "int" = none
  z_isinstance : mg "isinstance" = none
  z_len : mg "len" = none
  z_list : mg "list" = none
  z_range : mg "range" = none
  z_sorted : mg "sorted" = none
  z_str : mg "str" = none
  z_tuple : mg "tuple" = none
  z_zip : mg "zip" = none
/-! ### .. and does so -/
section
variable {P : Program} {w : World} {K : PySem.W.Frag} {mg : Str → Option Value} {base : Heap} {L : Lx}
theorem ok__law_cup (G : Gs K mg) : FnOk P w K mg base CX0 1 G.A__law_cup G.D__law_cup ["script"] (SpF0 ⟨K, mg, L.T, L.ex⟩ 1 m__law_cup) :=
  fn_pure G.F__law_cup sc__law_cup fun cdv A outer s0 H E n hr => (es_cons (es_set (.f) [] sc__law_cup.nd (ee_callB cb_abs (by rfl) G.z_abs PyProof.Rows.boot_abs (ea_cons (ee_ix (ix_M (hu_of hr)) (ee_op op_addM (ee_callTy cb_list (by rfl) G.z_list PyProof.Rows.boot_list (ea_cons (ee_var 0) ea_nil)) (ee_lst (ea_cons ee_int ea_nil))) ee_int) ea_nil))) (es_one (es_ret (ee_lst (ea_cons (ee_if (et_cmp op_geM (ee_var 1) (ee_op op_powM ee_int ee_int)) (ee_op op_divM (ee_var 1) ee_int) ee_int) (ea_cons (ee_op op_addM (ee_op op_modM (ee_callTy cb_int (by rfl) G.z_int PyProof.Rows.boot_int (ea_cons (ee_op op_addM (ee_op op_mulM (ee_var 1) ee_int) ee_int) ea_nil)) ee_int) ee_int) ea_nil))))))
theorem ok_is_tuple_of (G : Gs K mg) : FnOk P w K mg base CX0 1 G.A_is_tuple_of G.D_is_tuple_of ["value", "low", "high"] (SpF0 ⟨K, mg, L.T, L.ex⟩ 3 m_is_tuple_of) :=
  fn_pure G.F_is_tuple_of sc_is_tuple_of fun cdv A outer s0 H E n hr => (es_one (es_ret (ee_and (ee_callB cb_isi (by rfl) G.z_isinstance PyProof.Rows.boot_isinstance (ea_cons (ee_var 0) (ea_cons (ee_ty "tuple" (by rfl) G.z_tuple PyProof.Rows.boot_tuple) ea_nil))) (ee_one (ee_chain op_leM op_leM (ee_var 1) (ee_callB cb_len (by rfl) G.z_len PySem.boot_len (ea_cons (ee_var 0) ea_nil)) (ee_var 2))))))
theorem ok_is_whole (G : Gs K mg) : FnOk P w K mg base CX0 1 G.A_is_whole G.D_is_whole ["value", "low", "high"] (SpF0 ⟨K, mg, L.T, L.ex⟩ 3 m_is_whole) :=
  fn_pure G.F_is_whole sc_is_whole fun cdv A outer s0 H E n hr => (es_one (es_ret (ee_and (ee_callB cb_isi (by rfl) G.z_isinstance PyProof.Rows.boot_isinstance (ea_cons (ee_var 0) (ea_cons (ee_ty "int" (by rfl) G.z_int PyProof.Rows.boot_int) ea_nil))) (ee_and (ee_not (ee_callB cb_isi (by rfl) G.z_isinstance PyProof.Rows.boot_isinstance (ea_cons (ee_var 0) (ea_cons (ee_ty "bool" (by rfl) G.z_bool PyProof.Rows.boot_bool) ea_nil)))) (ee_one (ee_chain op_leM op_leM (ee_var 1) (ee_var 0) (ee_var 2)))))))
theorem ok_fits_row (G : Gs K mg) : FnOk P w K mg base CX0 1 G.A_fits_row G.D_fits_row ["letters", "value", "low", "high"] (SpF0 ⟨K, mg, L.T, L.ex⟩ 4 m_fits_row) :=
  fn_pure G.F_fits_row sc_fits_row fun cdv A outer s0 H E n hr => (es_cons (es_if (et_w (ew_or (et_not (et_val (ee_callB cb_isi (by rfl) G.z_isinstance PyProof.Rows.boot_isinstance (ea_cons (ee_var 1) (ea_cons (ee_ty "str" (by rfl) G.z_str PyProof.Rows.boot_str) ea_nil))))) (ew_or1 (et_not (et_chain op_leM op_leM (ee_var 2) (ee_callB cb_len (by rfl) G.z_len PySem.boot_len (ea_cons (ee_var 1) ea_nil)) (ee_var 3)))))) (es_one (es_ret ee_bl)) es_nil) (es_one (es_ret (ee_callB (cb_all rfl) (by rfl) G.z_all PyProof.Rows.boot_all (ea_cons (ee_comp (own := [("own", 4)]) rfl sc_fits_row.nd (ei_any (ee_var 1)) (blkOk_by (show blkC ["letters", "value", "low", "high", "own"] (defScope s_fits_row) _ [("own", 4)] = true from by decide +kernel)) (fun _ _ _ _ _ => (pg_name (i := 4) sc_fits_row.nd rfl (.inl rfl))) (fun _ _ _ _ _ => pts_yes) (fun _ _ _ _ _ => (ee_cmp (op_inM (rm65 hr)) (ee_var 4) (ee_sl (ee_gs [97, 98, 99, 100] (by rfl) G.c_LETTERS) ep_none (ep_some (ee_var 0))))) EP1.n (by decide)) ea_nil)))))
theorem ok_is_rising (G : Gs K mg) : FnOk P w K mg base CX0 1 G.A_is_rising G.D_is_rising ["values"] (SpF0 ⟨K, mg, L.T, L.ex⟩ 1 m_is_rising) :=
  fn_pure G.F_is_rising sc_is_rising fun cdv A outer s0 H E n hr => (es_one (es_ret (ee_callB (cb_all rfl) (by rfl) G.z_all PyProof.Rows.boot_all (ea_cons (ee_comp (own := [("one", 1), ("other", 2)]) rfl sc_is_rising.nd (ei_zip (by rfl) G.z_zip (ea_cons (ee_var 0) (ea_cons (ee_sl (ee_var 0) (ep_some ee_int) ep_none) ea_nil))) (blkOk_by (show blkC ["values", "one", "other"] (defScope s_is_rising) _ [("one", 1), ("other", 2)] = true from by decide +kernel)) (fun _ _ _ _ _ => (pg_tup rfl (pgs_cons (pg_name (i := 1) sc_is_rising.nd rfl (.inl rfl)) (pgs_cons (pg_name (i := 2) sc_is_rising.nd rfl (.inl rfl)) pgs_nil)))) (fun _ _ _ _ _ => pts_yes) (fun _ _ _ _ _ => (ee_cmp op_ltM (ee_var 1) (ee_var 2))) EP1.t (by decide)) ea_nil))))
theorem ok_fits_list (G : Gs K mg) : FnOk P w K mg base CX0 2 G.A_fits_list G.D_fits_list ["value"] (SpF0 ⟨K, mg, L.T, L.ex⟩ 1 m_fits_list) :=
  fn_pure G.F_fits_list sc_fits_list fun cdv A outer s0 H E n hr => (es_cons (es_if (et_w (ew_or (et_not (et_val (ee_call (ok_is_tuple_of (P := P) (w := w) (base := base) (L := L) G) (hr.mono (by first | decide | omega)) (by rfl) G.g_is_tuple_of G.F_is_tuple_of.kp G.b_is_tuple_of (ea_cons (ee_var 0) (ea_cons ee_int (ea_cons ee_int ea_nil))) (alen_cons (alen_cons (alen_cons alen_nil)))))) (ew_or (et_not (et_val (ee_call (ok_is_whole (P := P) (w := w) (base := base) (L := L) G) (hr.mono (by first | decide | omega)) (by rfl) G.g_is_whole G.F_is_whole.kp G.b_is_whole (ea_cons (ee_ix (ix_M (hu_of hr)) (ee_var 0) ee_int) (ea_cons ee_int (ea_cons (ee_callB cb_len (by rfl) G.z_len PySem.boot_len (ea_cons (ee_gs [97, 98, 99, 100] (by rfl) G.c_LETTERS) ea_nil)) ea_nil))) (alen_cons (alen_cons (alen_cons alen_nil)))))) (ew_or1 (et_not (et_val (ee_call (ok_is_tuple_of (P := P) (w := w) (base := base) (L := L) G) (hr.mono (by first | decide | omega)) (by rfl) G.g_is_tuple_of G.F_is_tuple_of.kp G.b_is_tuple_of (ea_cons (ee_ix (ix_M (hu_of hr)) (ee_var 0) ee_int) (ea_cons ee_int (ea_cons (ee_gi 40 (by rfl) G.c_WORDS) ea_nil))) (alen_cons (alen_cons (alen_cons alen_nil)))))))))) (es_one (es_ret ee_bl)) es_nil) (es_cons (es_if (et_not (et_val (ee_callB (cb_all rfl) (by rfl) G.z_all PyProof.Rows.boot_all (ea_cons (ee_comp (own := [("own", 1)]) rfl sc_fits_list.nd (ei_any (ee_ix (ix_M (hu_of hr)) (ee_var 0) ee_int)) (blkOk_by (show blkC ["value", "own"] (defScope s_fits_list) _ [("own", 1)] = true from by decide +kernel)) (fun _ _ _ _ _ => (pg_name (i := 1) sc_fits_list.nd rfl (.inl rfl))) (fun _ _ _ _ _ => pts_yes) (fun _ _ _ _ _ => (ee_call (ok_fits_row (P := P) (w := w) (base := base) (L := L) G) (hr.mono (by first | decide | omega)) (by rfl) G.g_fits_row G.F_fits_row.kp G.b_fits_row (ea_cons (ee_ix (ix_M (hu_of hr)) (ee_var 0) ee_int) (ea_cons (ee_var 1) (ea_cons (ee_gi 2 (by rfl) G.c_SHORT) (ea_cons (ee_gi 4 (by rfl) G.c_LONG) ea_nil)))) (alen_cons (alen_cons (alen_cons (alen_cons alen_nil)))))) EP1.n (by decide)) ea_nil)))) (es_one (es_ret ee_bl)) es_nil) (es_one (es_ret (ee_and (ee_callB (cb_all rfl) (by rfl) G.z_all PyProof.Rows.boot_all (ea_cons (ee_comp (own := [("own", 1)]) rfl sc_fits_list.nd (ei_any (ee_ix (ix_M (hu_of hr)) (ee_var 0) ee_int)) (blkOk_by (show blkC ["value", "own"] (defScope s_fits_list) _ [("own", 1)] = true from by decide +kernel)) (fun _ _ _ _ _ => (pg_name (i := 1) sc_fits_list.nd rfl (.inl rfl))) (fun _ _ _ _ _ => pts_yes) (fun _ _ _ _ _ => (ee_cmp (op_eqM (hr.units)) (ee_callB cb_len (by rfl) G.z_len PySem.boot_len (ea_cons (ee_var 1) ea_nil)) (ee_callB cb_len (by rfl) G.z_len PySem.boot_len (ea_cons (ee_ix (ix_M (hu_of hr)) (ee_ix (ix_M (hu_of hr)) (ee_var 0) ee_int) ee_int) ea_nil)))) EP1.n (by decide)) ea_nil)) (ee_one (ee_call (ok_is_rising (P := P) (w := w) (base := base) (L := L) G) (hr.mono (by first | decide | omega)) (by rfl) G.g_is_rising G.F_is_rising.kp G.b_is_rising (ea_cons (ee_ix (ix_M (hu_of hr)) (ee_var 0) ee_int) ea_nil) (alen_cons alen_nil))))))))
theorem ok_length_in (G : Gs K mg) : FnOk P w K mg base CX0 1 G.A_length_in G.D_length_in ["words"] (SpF0 ⟨K, mg, L.T, L.ex⟩ 1 m_length_in) :=
  fn_pure G.F_length_in sc_length_in fun cdv A outer s0 H E n hr => (es_one (es_ret (ee_callB cb_len (by rfl) G.z_len PySem.boot_len (ea_cons (ee_ix (ix_M (hu_of hr)) (ee_ix (ix_M (hu_of hr)) (ee_var 0) ee_int) ee_int) ea_nil))))
theorem ok_fits_relay (G : Gs K mg) : FnOk P w K mg base CX0 3 G.A_fits_relay G.D_fits_relay ["value"] (SpF0 ⟨K, mg, L.T, L.ex⟩ 1 m_fits_relay) :=
  fn_pure G.F_fits_relay sc_fits_relay fun cdv A outer s0 H E n hr => (es_cons (es_if (et_w (ew_or (et_not (et_val (ee_call (ok_is_tuple_of (P := P) (w := w) (base := base) (L := L) G) (hr.mono (by first | decide | omega)) (by rfl) G.g_is_tuple_of G.F_is_tuple_of.kp G.b_is_tuple_of (ea_cons (ee_var 0) (ea_cons ee_int (ea_cons (ee_gi 4 (by rfl) G.c_LISTS) ea_nil))) (alen_cons (alen_cons (alen_cons alen_nil)))))) (ew_or1 (et_not (et_val (ee_callB (cb_all rfl) (by rfl) G.z_all PyProof.Rows.boot_all (ea_cons (ee_comp (own := [("own", 1)]) rfl sc_fits_relay.nd (ei_any (ee_var 0)) (blkOk_by (show blkC ["value", "own"] (defScope s_fits_relay) _ [("own", 1)] = true from by decide +kernel)) (fun _ _ _ _ _ => (pg_name (i := 1) sc_fits_relay.nd rfl (.inl rfl))) (fun _ _ _ _ _ => pts_yes) (fun _ _ _ _ _ => (ee_call (ok_fits_list (P := P) (w := w) (base := base) (L := L) G) (hr.mono (by first | decide | omega)) (by rfl) G.g_fits_list G.F_fits_list.kp G.b_fits_list (ea_cons (ee_var 1) ea_nil) (alen_cons alen_nil))) EP1.n (by decide)) ea_nil))))))) (es_one (es_ret ee_bl)) es_nil) (es_one (es_ret (ee_callB (cb_all rfl) (by rfl) G.z_all PyProof.Rows.boot_all (ea_cons (ee_comp (own := [("own", 1)]) rfl sc_fits_relay.nd (ei_any (ee_var 0)) (blkOk_by (show blkC ["value", "own"] (defScope s_fits_relay) _ [("own", 1)] = true from by decide +kernel)) (fun _ _ _ _ _ => (pg_name (i := 1) sc_fits_relay.nd rfl (.inl rfl))) (fun _ _ _ _ _ => pts_yes) (fun _ _ _ _ _ => (ee_and (ee_cmp (op_eqM (hr.units)) (ee_ix (ix_M (hu_of hr)) (ee_var 1) ee_int) (ee_ix (ix_M (hu_of hr)) (ee_ix (ix_M (hu_of hr)) (ee_var 0) ee_int) ee_int)) (ee_one (ee_cmp (op_eqM (hr.units)) (ee_call (ok_length_in (P := P) (w := w) (base := base) (L := L) G) (hr.mono (by first | decide | omega)) (by rfl) G.g_length_in G.F_length_in.kp G.b_length_in (ea_cons (ee_var 1) ea_nil) (alen_cons alen_nil)) (ee_call (ok_length_in (P := P) (w := w) (base := base) (L := L) G) (hr.mono (by first | decide | omega)) (by rfl) G.g_length_in G.F_length_in.kp G.b_length_in (ea_cons (ee_ix (ix_M (hu_of hr)) (ee_var 0) ee_int) ea_nil) (alen_cons alen_nil)))))) EP1.n (by decide)) ea_nil)))))
theorem ok_need_relay (G : Gs K mg) : FnOk P w K mg base CX0 4 G.A_need_relay G.D_need_relay ["relay"] (SpF0 ⟨K, mg, L.T, L.ex⟩ 1 m_need_relay) :=
  fn_pure G.F_need_relay sc_need_relay fun cdv A outer s0 H E n hr => (es_one (es_if (et_not (et_val (ee_call (ok_fits_relay (P := P) (w := w) (base := base) (L := L) G) (hr.mono (by first | decide | omega)) (by rfl) G.g_fits_relay G.F_fits_relay.kp G.b_fits_relay (ea_cons (ee_var 0) ea_nil) (alen_cons alen_nil)))) (es_one (es_bad (B := []))) es_nil))
theorem ok_fits_belt (G : Gs K mg) : FnOk P w K mg base CX0 2 G.A_fits_belt G.D_fits_belt ["letters", "value"] (SpF0 ⟨K, mg, L.T, L.ex⟩ 2 m_fits_belt) :=
  fn_pure G.F_fits_belt sc_fits_belt fun cdv A outer s0 H E n hr => (es_one (es_ret (ee_call (ok_fits_row (P := P) (w := w) (base := base) (L := L) G) (hr.mono (by first | decide | omega)) (by rfl) G.g_fits_row G.F_fits_row.kp G.b_fits_row (ea_cons (ee_var 0) (ea_cons (ee_var 1) (ea_cons ee_int (ea_cons (ee_gi 24 (by rfl) G.c_BELT_belts) ea_nil)))) (alen_cons (alen_cons (alen_cons (alen_cons alen_nil)))))))
theorem ok_need_belt (G : Gs K mg) : FnOk P w K mg base CX0 5 G.A_need_belt G.D_need_belt ["relay", "belt"] (SpF0 ⟨K, mg, L.T, L.ex⟩ 2 m_need_belt) :=
  fn_pure G.F_need_belt sc_need_belt fun cdv A outer s0 H E n hr => (es_cons (es_expr (ee_call (ok_need_relay (P := P) (w := w) (base := base) (L := L) G) (hr.mono (by first | decide | omega)) (by rfl) G.g_need_relay G.F_need_relay.kp G.b_need_relay (ea_cons (ee_var 0) ea_nil) (alen_cons alen_nil))) (es_one (es_if (et_not (et_val (ee_call (ok_fits_belt (P := P) (w := w) (base := base) (L := L) G) (hr.mono (by first | decide | omega)) (by rfl) G.g_fits_belt G.F_fits_belt.kp G.b_fits_belt (ea_cons (ee_ix (ix_M (hu_of hr)) (ee_ix (ix_M (hu_of hr)) (ee_var 0) ee_int) ee_int) (ea_cons (ee_var 1) ea_nil)) (alen_cons (alen_cons alen_nil))))) (es_one (es_bad (B := []))) es_nil)))
theorem ok_are_in_turn (G : Gs K mg) : FnOk P w K mg base CX0 1 G.A_are_in_turn G.D_are_in_turn ["relay", "rows"] (SpF0 ⟨K, mg, L.T, L.ex⟩ 2 m_are_in_turn) :=
  fn_pure G.F_are_in_turn sc_are_in_turn fun cdv A outer s0 H E n hr => (es_one (es_ret (ee_callB (cb_all rfl) (by rfl) G.z_all PyProof.Rows.boot_all (ea_cons (ee_comp (own := [("at", 2), ("own", 3)]) rfl sc_are_in_turn.nd (ei_enum rfl (by rfl) G.z_enumerate (ea_cons (ee_var 1) ea_nil)) (blkOk_by (show blkC ["relay", "rows", "at", "own"] (defScope s_are_in_turn) _ [("at", 2), ("own", 3)] = true from by decide +kernel)) (fun _ _ _ _ _ => (pg_tup rfl (pgs_cons (pg_name (i := 2) sc_are_in_turn.nd rfl (.inl rfl)) (pgs_cons (pg_name (i := 3) sc_are_in_turn.nd rfl (.inl rfl)) pgs_nil)))) (fun _ _ _ _ _ => pts_yes) (fun _ _ _ _ _ => (ee_cmp (op_inM (rm65 hr)) (ee_var 3) (ee_ix (ix_M (hu_of hr)) (ee_ix (ix_M (hu_of hr)) (ee_var 0) (ee_op op_modM (ee_var 2) (ee_callB cb_len (by rfl) G.z_len PySem.boot_len (ea_cons (ee_var 0) ea_nil)))) ee_int))) EP1.t (by decide)) ea_nil))))
theorem ok_pieces_in (G : Gs K mg) : FnOk P w K mg base CX0 2 G.A_pieces_in G.D_pieces_in ["relay", "belt", "first"] (SpF0 ⟨K, mg, L.T, L.ex⟩ 3 m_pieces_in) :=
  fn_pure G.F_pieces_in sc_pieces_in fun cdv A outer s0 H E n hr => (es_cons (es_tup rfl (em_cons (.f) [] (ee_op op_addM (ee_sl (ee_var 1) (ep_some (ee_var 2)) ep_none) (ee_sl (ee_var 1) ep_none (ep_some (ee_var 2)))) (em_cons (.f) [] (ee_call (ok_length_in (P := P) (w := w) (base := base) (L := L) G) (hr.mono (by first | decide | omega)) (by rfl) G.g_length_in G.F_length_in.kp G.b_length_in (ea_cons (ee_ix (ix_M (hu_of hr)) (ee_var 0) ee_int) ea_nil) (alen_cons alen_nil)) em_nil)) (egs_cons (eg_name 3 sc_pieces_in.nd) (egs_cons (eg_name 4 sc_pieces_in.nd) egs_nil)) (hlen := (blen_cons (blen_cons blen_nil)))) (es_one (es_ret (ee_callTy cb_tuple (by rfl) G.z_tuple PyProof.Rows.boot_tuple (ea_cons (ee_comp (own := [("at", 5)]) rfl sc_pieces_in.nd (ei_rng3 (by rfl) G.z_range (ea_cons ee_int (ea_cons (ee_callB cb_len (by rfl) G.z_len PySem.boot_len (ea_cons (ee_var 3) ea_nil)) (ea_cons (ee_var 4) ea_nil)))) (blkOk_by (show blkC ["relay", "belt", "first", "late", "length", "at"] (defScope s_pieces_in) _ [("at", 5)] = true from by decide +kernel)) (fun _ _ _ _ _ => (pg_name (i := 5) sc_pieces_in.nd rfl (.inl rfl))) (fun _ _ _ _ _ => pts_yes) (fun _ _ _ _ _ => (ee_sl (ee_var 3) (ep_some (ee_var 5)) (ep_some (ee_op op_addM (ee_var 5) (ee_var 4))))) EP1.n (by decide)) ea_nil)))))
theorem ok_cuttings_in (G : Gs K mg) : FnOk P w K mg base CX0 3 G.A_cuttings_in G.D_cuttings_in ["relay", "belt"] (SpF0 ⟨K, mg, L.T, L.ex⟩ 2 m_cuttings_in) :=
  fn_pure G.F_cuttings_in sc_cuttings_in fun cdv A outer s0 H E n hr => (es_cons (es_set (.f) [] sc_cuttings_in.nd (ee_op op_mulM (ee_callB cb_len (by rfl) G.z_len PySem.boot_len (ea_cons (ee_var 0) ea_nil)) (ee_call (ok_length_in (P := P) (w := w) (base := base) (L := L) G) (hr.mono (by first | decide | omega)) (by rfl) G.g_length_in G.F_length_in.kp G.b_length_in (ea_cons (ee_ix (ix_M (hu_of hr)) (ee_var 0) ee_int) ea_nil) (alen_cons alen_nil)))) (es_cons (es_if (et_cmp (op_neM (hr.units)) (ee_op op_modM (ee_callB cb_len (by rfl) G.z_len PySem.boot_len (ea_cons (ee_var 1) ea_nil)) (ee_var 2)) ee_int) (es_one (es_ret (ee_lst ea_nil))) es_nil) (es_one (es_ret (ee_comp (own := [("at", 3)]) rfl sc_cuttings_in.nd (ei_rng1 (by rfl) G.z_range (ea_cons (ee_var 2) ea_nil)) (blkOk_by (show blkC ["relay", "belt", "whole", "at"] (defScope s_cuttings_in) _ [("at", 3)] = true from by decide +kernel)) (fun _ _ _ _ _ => (pg_name (i := 3) sc_cuttings_in.nd rfl (.inl rfl))) (fun _ _ _ _ _ => (pts_if (et_val (ee_call (ok_are_in_turn (P := P) (w := w) (base := base) (L := L) G) (hr.mono (by first | decide | omega)) (by rfl) G.g_are_in_turn G.F_are_in_turn.kp G.b_are_in_turn (ea_cons (ee_var 0) (ea_cons (ee_call (ok_pieces_in (P := P) (w := w) (base := base) (L := L) G) (hr.mono (by first | decide | omega)) (by rfl) G.g_pieces_in G.F_pieces_in.kp G.b_pieces_in (ea_cons (ee_var 0) (ea_cons (ee_var 1) (ea_cons (ee_var 3) ea_nil))) (alen_cons (alen_cons (alen_cons alen_nil)))) ea_nil)) (alen_cons (alen_cons alen_nil)))))) (fun _ _ _ _ _ => (ee_var 3)) EP1.n (by decide))))))
theorem ok_relay_cuttings (G : Gs K mg) : FnOk P w K mg base CX0 6 G.A_relay_cuttings G.D_relay_cuttings ["relay", "belt"] (SpF0 ⟨K, mg, L.T, L.ex⟩ 2 m_relay_cuttings) :=
  fn_pure G.F_relay_cuttings sc_relay_cuttings fun cdv A outer s0 H E n hr => (es_cons (es_expr (ee_call (ok_need_belt (P := P) (w := w) (base := base) (L := L) G) (hr.mono (by first | decide | omega)) (by rfl) G.g_need_belt G.F_need_belt.kp G.b_need_belt (ea_cons (ee_var 0) (ea_cons (ee_var 1) ea_nil)) (alen_cons (alen_cons alen_nil)))) (es_one (es_ret (ee_callTy cb_tuple (by rfl) G.z_tuple PyProof.Rows.boot_tuple (ea_cons (ee_call (ok_cuttings_in (P := P) (w := w) (base := base) (L := L) G) (hr.mono (by first | decide | omega)) (by rfl) G.g_cuttings_in G.F_cuttings_in.kp G.b_cuttings_in (ea_cons (ee_var 0) (ea_cons (ee_var 1) ea_nil)) (alen_cons (alen_cons alen_nil))) ea_nil)))))
theorem ok_relay_words (G : Gs K mg) : FnOk P w K mg base CX0 6 G.A_relay_words G.D_relay_words ["relay", "belt", "first"] (SpF0 ⟨K, mg, L.T, L.ex⟩ 3 m_relay_words) :=
  fn_pure G.F_relay_words sc_relay_words fun cdv A outer s0 H E n hr => (es_cons (es_expr (ee_call (ok_need_belt (P := P) (w := w) (base := base) (L := L) G) (hr.mono (by first | decide | omega)) (by rfl) G.g_need_belt G.F_need_belt.kp G.b_need_belt (ea_cons (ee_var 0) (ea_cons (ee_var 1) ea_nil)) (alen_cons (alen_cons alen_nil)))) (es_cons (es_if (et_not (et_val (ee_call (ok_is_whole (P := P) (w := w) (base := base) (L := L) G) (hr.mono (by first | decide | omega)) (by rfl) G.g_is_whole G.F_is_whole.kp G.b_is_whole (ea_cons (ee_var 2) (ea_cons ee_int (ea_cons (ee_op op_subM (ee_op op_mulM (ee_callB cb_len (by rfl) G.z_len PySem.boot_len (ea_cons (ee_var 0) ea_nil)) (ee_call (ok_length_in (P := P) (w := w) (base := base) (L := L) G) (hr.mono (by first | decide | omega)) (by rfl) G.g_length_in G.F_length_in.kp G.b_length_in (ea_cons (ee_ix (ix_M (hu_of hr)) (ee_var 0) ee_int) ea_nil) (alen_cons alen_nil))) ee_int) ea_nil))) (alen_cons (alen_cons (alen_cons alen_nil)))))) (es_one (es_bad (B := []))) es_nil) (es_one (es_ret (ee_if (et_cmp (op_inM (rm65 hr)) (ee_var 2) (ee_call (ok_cuttings_in (P := P) (w := w) (base := base) (L := L) G) (hr.mono (by first | decide | omega)) (by rfl) G.g_cuttings_in G.F_cuttings_in.kp G.b_cuttings_in (ea_cons (ee_var 0) (ea_cons (ee_var 1) ea_nil)) (alen_cons (alen_cons alen_nil)))) (ee_call (ok_pieces_in (P := P) (w := w) (base := base) (L := L) G) (hr.mono (by first | decide | omega)) (by rfl) G.g_pieces_in G.F_pieces_in.kp G.b_pieces_in (ea_cons (ee_var 0) (ea_cons (ee_var 1) (ea_cons (ee_var 2) ea_nil))) (alen_cons (alen_cons (alen_cons alen_nil)))) ee_non)))))
theorem ok__law_same (G : Gs K mg) : ∀ d : Nat, FnOk P w K mg base CX0 (d + 1) G.A__law_same G.D__law_same ["told", "due"] (SpF0 ⟨K, mg, L.T, L.ex⟩ 2 (m__law_same d))
  | 0 => (fn_pure (k := 0) G.F__law_same sc__law_same fun cdv A outer s0 H E n hr => ess_bad (B := [])).mono (by omega)
  | d + 1 => by
    have ih := ok__law_same G d
    exact fn_pure (k := d + 1) G.F__law_same sc__law_same fun cdv A outer s0 H E n hr => (es_cons (es_if (et_val (ee_callB cb_isi (by rfl) G.z_isinstance PyProof.Rows.boot_isinstance (ea_cons (ee_var 1) (ea_cons (ee_ty "tuple" (by rfl) G.z_tuple PyProof.Rows.boot_tuple) ea_nil)))) (es_cons (es_if (et_w (ew_or (et_not (et_val (ee_callB cb_isi (by rfl) G.z_isinstance PyProof.Rows.boot_isinstance (ea_cons (ee_var 0) (ea_cons (ee_ty "tuple" (by rfl) G.z_tuple PyProof.Rows.boot_tuple) ea_nil))))) (ew_or1 (et_cmp (op_neM (hr.units)) (ee_callB cb_len (by rfl) G.z_len PySem.boot_len (ea_cons (ee_var 0) ea_nil)) (ee_callB cb_len (by rfl) G.z_len PySem.boot_len (ea_cons (ee_var 1) ea_nil)))))) (es_one (es_ret ee_bl)) es_nil) (es_one (es_ret (ee_callB (cb_all rfl) (by rfl) G.z_all PyProof.Rows.boot_all (ea_cons (ee_comp (own := [("at", 2)]) rfl sc__law_same.nd (ei_rng1 (by rfl) G.z_range (ea_cons (ee_callB cb_len (by rfl) G.z_len PySem.boot_len (ea_cons (ee_var 1) ea_nil)) ea_nil)) (blkOk_by (show blkC ["told", "due", "at"] (defScope s__law_same) _ [("at", 2)] = true from by decide +kernel)) (fun _ _ _ _ _ => (pg_name (i := 2) sc__law_same.nd rfl (.inl rfl))) (fun _ _ _ _ _ => pts_yes) (fun _ _ _ _ _ => (ee_call ih (hr.mono (by omega)) (by rfl) G.g__law_same G.F__law_same.kp G.b__law_same (ea_cons (ee_ix (ix_M (hu_of hr)) (ee_var 0) (ee_var 2)) (ea_cons (ee_ix (ix_M (hu_of hr)) (ee_var 1) (ee_var 2)) ea_nil)) (alen_cons (alen_cons alen_nil)))) EP1.n (by decide)) ea_nil))))) es_nil) (es_cons (es_if (et_cmp op_isM (ee_var 1) ee_non) (es_one (es_ret (ee_cmp op_isM (ee_var 0) ee_non))) es_nil) (es_cons (es_if (et_val (ee_callB cb_isi (by rfl) G.z_isinstance PyProof.Rows.boot_isinstance (ea_cons (ee_var 1) (ea_cons (ee_ty "bool" (by rfl) G.z_bool PyProof.Rows.boot_bool) ea_nil)))) (es_one (es_ret (ee_if (et_val (ee_var 1)) (ee_cmp op_isM (ee_var 0) ee_bl) (ee_cmp op_isM (ee_var 0) ee_bl)))) es_nil) (es_cons (es_if (et_val (ee_callB cb_isi (by rfl) G.z_isinstance PyProof.Rows.boot_isinstance (ea_cons (ee_var 1) (ea_cons (ee_ty "int" (by rfl) G.z_int PyProof.Rows.boot_int) ea_nil)))) (es_one (es_ret (ee_and (ee_callB cb_isi (by rfl) G.z_isinstance PyProof.Rows.boot_isinstance (ea_cons (ee_var 0) (ea_cons (ee_ty "int" (by rfl) G.z_int PyProof.Rows.boot_int) ea_nil))) (ee_and (ee_not (ee_callB cb_isi (by rfl) G.z_isinstance PyProof.Rows.boot_isinstance (ea_cons (ee_var 0) (ea_cons (ee_ty "bool" (by rfl) G.z_bool PyProof.Rows.boot_bool) ea_nil)))) (ee_one (ee_cmp (op_eqM (hr.units)) (ee_callTy cb_int (by rfl) G.z_int PyProof.Rows.boot_int (ea_cons (ee_var 0) ea_nil)) (ee_var 1))))))) es_nil) (es_one (es_ret (ee_and (ee_callB cb_isi (by rfl) G.z_isinstance PyProof.Rows.boot_isinstance (ea_cons (ee_var 0) (ea_cons (ee_ty "str" (by rfl) G.z_str PyProof.Rows.boot_str) ea_nil))) (ee_one (ee_cmp (op_eqM (hr.units)) (ee_callTy cb_str (by rfl) G.z_str PyProof.Rows.boot_str (ea_cons (ee_var 0) ea_nil)) (ee_var 1))))))))))
theorem ok_relay_belt (G : Gs K mg) : FnOk P w K mg base CX0 5 G.A_relay_belt G.D_relay_belt ["relay", "row"] (SpF0 ⟨K, mg, L.T, L.ex⟩ 2 m_relay_belt) :=
  fn_pure G.F_relay_belt sc_relay_belt fun cdv A outer s0 H E n hr => (es_cons (es_expr (ee_call (ok_need_relay (P := P) (w := w) (base := base) (L := L) G) (hr.mono (by first | decide | omega)) (by rfl) G.g_need_relay G.F_need_relay.kp G.b_need_relay (ea_cons (ee_var 0) ea_nil) (alen_cons alen_nil))) (es_cons (es_set (.f) [] sc_relay_belt.nd (ee_op op_divM (ee_gi 24 (by rfl) G.c_BELT_relays) (ee_call (ok_length_in (P := P) (w := w) (base := base) (L := L) G) (hr.mono (by first | decide | omega)) (by rfl) G.g_length_in G.F_length_in.kp G.b_length_in (ea_cons (ee_ix (ix_M (hu_of hr)) (ee_var 0) ee_int) ea_nil) (alen_cons alen_nil)))) (es_cons (es_if (et_w (ew_or (et_not (et_val (ee_call (ok_is_tuple_of (P := P) (w := w) (base := base) (L := L) G) (hr.mono (by first | decide | omega)) (by rfl) G.g_is_tuple_of G.F_is_tuple_of.kp G.b_is_tuple_of (ea_cons (ee_var 1) (ea_cons ee_int (ea_cons (ee_var 2) ea_nil))) (alen_cons (alen_cons (alen_cons alen_nil)))))) (ew_or1 (et_not (et_val (ee_callB (cb_all rfl) (by rfl) G.z_all PyProof.Rows.boot_all (ea_cons (ee_comp (own := [("own", 3)]) rfl sc_relay_belt.nd (ei_any (ee_var 1)) (blkOk_by (show blkC ["relay", "row", "most", "own"] (defScope s_relay_belt) _ [("own", 3)] = true from by decide +kernel)) (fun _ _ _ _ _ => (pg_name (i := 3) sc_relay_belt.nd rfl (.inl rfl))) (fun _ _ _ _ _ => pts_yes) (fun _ _ _ _ _ => (ee_callB cb_isi (by rfl) G.z_isinstance PyProof.Rows.boot_isinstance (ea_cons (ee_var 3) (ea_cons (ee_ty "str" (by rfl) G.z_str PyProof.Rows.boot_str) ea_nil)))) EP1.n (by decide)) ea_nil))))))) (es_one (es_bad (B := []))) es_nil) (es_cons (es_if (et_w (ew_or (et_cmp (op_neM (hr.units)) (ee_op op_modM (ee_callB cb_len (by rfl) G.z_len PySem.boot_len (ea_cons (ee_var 1) ea_nil)) (ee_callB cb_len (by rfl) G.z_len PySem.boot_len (ea_cons (ee_var 0) ea_nil))) ee_int) (ew_or1 (et_not (et_val (ee_call (ok_are_in_turn (P := P) (w := w) (base := base) (L := L) G) (hr.mono (by first | decide | omega)) (by rfl) G.g_are_in_turn G.F_are_in_turn.kp G.b_are_in_turn (ea_cons (ee_var 0) (ea_cons (ee_var 1) ea_nil)) (alen_cons (alen_cons alen_nil)))))))) (es_one (es_bad (B := []))) es_nil) (es_one (es_ret (ee_join (ee_str []) (ea_cons (ee_var 1) ea_nil))))))))
theorem ok_relay_verdict (G : Gs K mg) : FnOk P w K mg base CX0 6 G.A_relay_verdict G.D_relay_verdict ["relay", "belt"] (SpF0 ⟨K, mg, L.T, L.ex⟩ 2 m_relay_verdict) :=
  fn_pure G.F_relay_verdict sc_relay_verdict fun cdv A outer s0 H E n hr => (es_cons (es_expr (ee_call (ok_need_belt (P := P) (w := w) (base := base) (L := L) G) (hr.mono (by first | decide | omega)) (by rfl) G.g_need_belt G.F_need_belt.kp G.b_need_belt (ea_cons (ee_var 0) (ea_cons (ee_var 1) ea_nil)) (alen_cons (alen_cons alen_nil)))) (es_cons (es_set (.f) [] sc_relay_verdict.nd (ee_callB cb_len (by rfl) G.z_len PySem.boot_len (ea_cons (ee_call (ok_cuttings_in (P := P) (w := w) (base := base) (L := L) G) (hr.mono (by first | decide | omega)) (by rfl) G.g_cuttings_in G.F_cuttings_in.kp G.b_cuttings_in (ea_cons (ee_var 0) (ea_cons (ee_var 1) ea_nil)) (alen_cons (alen_cons alen_nil))) ea_nil))) (es_one (es_ret (ee_if (et_cmp (op_eqM (hr.units)) (ee_var 2) ee_int) (ee_str [110, 111, 110, 101]) (ee_if (et_cmp (op_eqM (hr.units)) (ee_var 2) ee_int) (ee_str [111, 110, 101]) (ee_str [115, 101, 118, 101, 114, 97, 108])))))))
theorem ok_turned_relay (G : Gs K mg) : FnOk P w K mg base CX0 5 G.A_turned_relay G.D_turned_relay ["relay", "by"] (SpF0 ⟨K, mg, L.T, L.ex⟩ 2 m_turned_relay) :=
  fn_pure G.F_turned_relay sc_turned_relay fun cdv A outer s0 H E n hr => (es_cons (es_expr (ee_call (ok_need_relay (P := P) (w := w) (base := base) (L := L) G) (hr.mono (by first | decide | omega)) (by rfl) G.g_need_relay G.F_need_relay.kp G.b_need_relay (ea_cons (ee_var 0) ea_nil) (alen_cons alen_nil))) (es_cons (es_if (et_not (et_val (ee_call (ok_is_whole (P := P) (w := w) (base := base) (L := L) G) (hr.mono (by first | decide | omega)) (by rfl) G.g_is_whole G.F_is_whole.kp G.b_is_whole (ea_cons (ee_var 1) (ea_cons ee_int (ea_cons (ee_op op_subM (ee_callB cb_len (by rfl) G.z_len PySem.boot_len (ea_cons (ee_var 0) ea_nil)) ee_int) ea_nil))) (alen_cons (alen_cons (alen_cons alen_nil)))))) (es_one (es_bad (B := []))) es_nil) (es_one (es_ret (ee_op op_addM (ee_sl (ee_var 0) (ep_some (ee_var 1)) ep_none) (ee_sl (ee_var 0) ep_none (ep_some (ee_var 1))))))))
theorem ok_relay_list (G : Gs K mg) : FnOk P w K mg base CX0 5 G.A_relay_list G.D_relay_list ["relay"] (SpF0 ⟨K, mg, L.T, L.ex⟩ 1 m_relay_list) :=
  fn_pure G.F_relay_list sc_relay_list fun cdv A outer s0 H E n hr => (es_cons (es_expr (ee_call (ok_need_relay (P := P) (w := w) (base := base) (L := L) G) (hr.mono (by first | decide | omega)) (by rfl) G.g_need_relay G.F_need_relay.kp G.b_need_relay (ea_cons (ee_var 0) ea_nil) (alen_cons alen_nil))) (es_cons (es_set (.f) [] sc_relay_list.nd (ee_lst (ea_cons (ee_str []) ea_nil))) (es_cons (es_for PassesOwn.never rfl (ei_any (ee_var 0)) (pg_name (i := 2) sc_relay_list.nd rfl (.inr rfl)) EP1.n (es_cons (es_if (et_cmp op_gtM (ee_op op_mulM (ee_callB cb_len (by rfl) G.z_len PySem.boot_len (ea_cons (ee_var 1) ea_nil)) (ee_callB cb_len (by rfl) G.z_len PySem.boot_len (ea_cons (ee_ix (ix_M (hu_of hr)) (ee_var 2) ee_int) ea_nil))) (ee_gi 40 (by rfl) G.c_WORDS)) (es_one (es_ret ee_non)) es_nil) (es_one (es_setc2 (.f) [] (own := [("row", 3), ("word", 4)]) (vs1 := [4]) rfl sc_relay_list.nd (ei_any (ee_var 1)) (blkOk_by (show blkC ["relay", "rows", "own", "row", "word"] (defScope s_relay_list) _ [("row", 3), ("word", 4)] = true from by decide +kernel)) (by decide) (fun _ _ _ _ _ => (pg_name (i := 3) sc_relay_list.nd rfl (.inl rfl))) (fun _ _ _ _ _ => pts_yes) (fun _ _ _ _ _ => (ei_any (ee_ix (ix_M (hu_of hr)) (ee_var 2) ee_int))) (fun _ _ _ _ _ => (pg_name (i := 4) sc_relay_list.nd rfl (.inl rfl))) (fun _ _ _ _ _ => pts_yes) (fun _ _ _ _ _ => (ee_op op_addM (ee_var 3) (ee_var 4))) EP1.n (by decide) EP1.n (by decide))))) (es_one (es_ret (ee_if (et_cmp op_leM (ee_callB cb_len (by rfl) G.z_len PySem.boot_len (ea_cons (ee_ix (ix_M (hu_of hr)) (ee_var 1) ee_int) ea_nil)) (ee_gi 4 (by rfl) G.c_LONG)) (ee_tup (ea_cons (ee_ix (ix_M (hu_of hr)) (ee_ix (ix_M (hu_of hr)) (ee_var 0) ee_int) ee_int) (ea_cons (ee_callTy cb_tuple (by rfl) G.z_tuple PyProof.Rows.boot_tuple (ea_cons (ee_callB (cb_sorted rfl) (by rfl) G.z_sorted PyProof.Rows.boot_sorted (ea_cons (ee_var 1) ea_nil)) ea_nil)) ea_nil))) ee_non))))))
theorem ok_count_relay_rows (G : Gs K mg) : FnOk P w K mg base CX0 5 G.A_count_relay_rows G.D_count_relay_rows ["relay", "rounds"] (SpF0 ⟨K, mg, L.T, L.ex⟩ 2 m_count_relay_rows) :=
  fn_pure G.F_count_relay_rows sc_count_relay_rows fun cdv A outer s0 H E n hr => (es_cons (es_expr (ee_call (ok_need_relay (P := P) (w := w) (base := base) (L := L) G) (hr.mono (by first | decide | omega)) (by rfl) G.g_need_relay G.F_need_relay.kp G.b_need_relay (ea_cons (ee_var 0) ea_nil) (alen_cons alen_nil))) (es_cons (es_if (et_not (et_val (ee_call (ok_is_whole (P := P) (w := w) (base := base) (L := L) G) (hr.mono (by first | decide | omega)) (by rfl) G.g_is_whole G.F_is_whole.kp G.b_is_whole (ea_cons (ee_var 1) (ea_cons ee_int (ea_cons (ee_gi 24 (by rfl) G.c_BELT_relays) ea_nil))) (alen_cons (alen_cons (alen_cons alen_nil)))))) (es_one (es_bad (B := []))) es_nil) (es_cons (es_set (.f) [] sc_count_relay_rows.nd ee_int) (es_cons (es_for PassesOwn.never rfl (ei_rng1 (by rfl) G.z_range (ea_cons (ee_var 1) ea_nil)) (pg_name (i := 3) sc_count_relay_rows.nd rfl (.inl rfl)) EP1.n (es_one (es_for PassesOwn.never rfl (ei_any (ee_var 0)) (pg_name (i := 4) sc_count_relay_rows.nd rfl (.inl rfl)) EP1.n (es_one (es_set (.f) [] sc_count_relay_rows.nd (ee_op op_mulM (ee_var 2) (ee_callB cb_len (by rfl) G.z_len PySem.boot_len (ea_cons (ee_ix (ix_M (hu_of hr)) (ee_var 4) ee_int) ea_nil)))))))) (es_one (es_ret (ee_var 2)))))))
theorem ok__law_roll (G : Gs K mg) : FnOk P w K mg base CX0 1 G.A__law_roll G.D__law_roll ["cup", "many"] (SpF0 ⟨K, mg, L.T, L.ex⟩ 2 m__law_roll) :=
  fn_pure G.F__law_roll sc__law_roll fun cdv A outer s0 H E n hr => (es_cons (es_if (et_cmp op_gtM (ee_ix (ix_M (hu_of hr)) (ee_var 0) ee_int) ee_int) (es_cons (es_set (.f) [] sc__law_roll.nd (ee_op op_modM (ee_callTy cb_int (by rfl) G.z_int PyProof.Rows.boot_int (ea_cons (ee_ix (ix_M (hu_of hr)) (ee_var 0) ee_int) ea_nil)) (ee_var 1))) (es_cons (es_asg (ee_op op_divM (ee_ix (ix_M (hu_of hr)) (ee_var 0) ee_int) (ee_var 1)) (eg_sub (ee_var 0) ee_int (set_o (hu_of hr)) setm_o)) (es_one (es_ret (ee_var 2))))) es_nil) (es_cons (es_asg (ee_op op_modM (ee_callTy cb_int (by rfl) G.z_int PyProof.Rows.boot_int (ea_cons (ee_op op_addM (ee_op op_mulM (ee_ix (ix_M (hu_of hr)) (ee_var 0) ee_int) ee_int) ee_int) ea_nil)) ee_int) (eg_sub (ee_var 0) ee_int (set_o (hu_of hr)) setm_o)) (es_cons (es_set (.f) [] sc__law_roll.nd (ee_op op_modM (ee_callTy cb_int (by rfl) G.z_int PyProof.Rows.boot_int (ea_cons (ee_op op_mulM (ee_ix (ix_M (hu_of hr)) (ee_var 0) ee_int) (ee_op op_addM (ee_ix (ix_M (hu_of hr)) (ee_var 0) ee_int) ee_int)) ea_nil)) ee_int)) (es_one (es_ret (ee_op op_modM (ee_callTy cb_int (by rfl) G.z_int PyProof.Rows.boot_int (ea_cons (ee_op op_divM (ee_var 3) ee_int) ea_nil)) (ee_var 1)))))))
theorem ok__law_some (G : Gs K mg) : FnOk P w K mg base CX0 2 G.A__law_some G.D__law_some ["cup", "things"] (SpF0 ⟨K, mg, L.T, L.ex⟩ 2 m__law_some) :=
  fn_pure G.F__law_some sc__law_some fun cdv A outer s0 H E n hr => (es_one (es_ret (ee_ix (ix_M (hu_of hr)) (ee_var 1) (ee_call (ok__law_roll (P := P) (w := w) (base := base) (L := L) G) (hr.mono (by first | decide | omega)) (by rfl) G.g__law_roll G.F__law_roll.kp G.b__law_roll (ea_cons (ee_var 0) (ea_cons (ee_callB cb_len (by rfl) G.z_len PySem.boot_len (ea_cons (ee_var 1) ea_nil)) ea_nil)) (alen_cons (alen_cons alen_nil))))))
theorem ok__law_list (G : Gs K mg) : FnOk P w K mg base CX0 3 G.A__law_list G.D__law_list ["cup", "letters", "length", "many", "most"] (SpF0 ⟨K, mg, L.T, L.ex⟩ 5 m__law_list) :=
  fn_pure G.F__law_list sc__law_list fun cdv A outer s0 H E n hr => (es_cons (es_par2 rfl sc__law_list.nd (em_cons (.c 0) [] ee_dnewK (em_cons (.f) [] (ee_op op_mulM (ee_str [97]) (ee_var 2)) em_nil))) (es_cons (es_for PassesOwn.never rfl (ei_rng1 (by rfl) G.z_range (ea_cons (ee_var 3) ea_nil)) (pg_name (i := 7) sc__law_list.nd rfl (.inl rfl)) EP1.n (es_cons (es_set (.f) [] sc__law_list.nd (ee_join (ee_str []) (ea_cons (ee_comp (own := [("at", 8)]) rfl sc__law_list.nd (ei_rng1 (by rfl) G.z_range (ea_cons (ee_var 2) ea_nil)) (blkOk_by (show blkC ["cup", "letters", "length", "many", "most", "rows", "head", "turn", "at", "word", "cut"] (defScope s__law_list) _ [("at", 8)] = true from by decide +kernel)) (fun _ _ _ _ _ => (pg_name (i := 8) sc__law_list.nd rfl (.inl rfl))) (fun _ _ _ _ _ => pts_yes) (fun _ _ _ _ _ => (ee_ix (ix_M (hu_of hr)) (ee_str [97, 98, 99, 100]) (ee_call (ok__law_roll (P := P) (w := w) (base := base) (L := L) G) (hr.mono (by first | decide | omega)) (by rfl) G.g__law_roll G.F__law_roll.kp G.b__law_roll (ea_cons (ee_var 0) (ea_cons (ee_var 1) ea_nil)) (alen_cons (alen_cons alen_nil))))) EP1.n (by decide)) ea_nil))) (es_cons (es_set (.f) [] sc__law_list.nd (ee_call (ok__law_roll (P := P) (w := w) (base := base) (L := L) G) (hr.mono (by first | decide | omega)) (by rfl) G.g__law_roll G.F__law_roll.kp G.b__law_roll (ea_cons (ee_var 0) (ea_cons (ee_var 2) ea_nil)) (alen_cons (alen_cons alen_nil)))) (es_cons (es_set (.f) [] sc__law_list.nd (ee_sl (ee_op op_addM (ee_sl (ee_var 6) ep_none (ep_some (ee_var 10))) (ee_var 9)) ep_none (ep_some (ee_var 2)))) (es_cons (es_tup rfl (em_cons (.f) [] (ee_call (ok__law_some (P := P) (w := w) (base := base) (L := L) G) (hr.mono (by first | decide | omega)) (by rfl) G.g__law_some G.F__law_some.kp G.b__law_some (ea_cons (ee_var 0) (ea_cons (ee_lst (ea_cons (ee_var 6) (ea_cons (ee_var 9) ea_nil))) ea_nil)) (alen_cons (alen_cons alen_nil))) (em_cons (.f) [] ee_bl em_nil)) (egs_cons (eg_name 6 sc__law_list.nd) (egs_cons (eg_sub (ee_var 5) (ee_var 9) (set_o (hu_of hr)) setm_o) egs_nil)) (hlen := (blen_cons (blen_cons blen_nil)))) (es_one (es_if (et_cmp (op_eqM (hr.units)) (ee_call (ok__law_roll (P := P) (w := w) (base := base) (L := L) G) (hr.mono (by first | decide | omega)) (by rfl) G.g__law_roll G.F__law_roll.kp G.b__law_roll (ea_cons (ee_var 0) (ea_cons ee_int ea_nil)) (alen_cons (alen_cons alen_nil))) ee_int) (es_one (es_for PassesOwn.never rfl (ei_rng1 (by rfl) G.z_range (ea_cons (ee_var 1) ea_nil)) (pg_name (i := 8) sc__law_list.nd rfl (.inl rfl)) EP1.n (es_one (es_asg ee_bl (eg_sub (ee_var 5) (ee_op op_addM (ee_sl (ee_var 9) ep_none (ep_some (ee_un un_negM ee_int))) (ee_ix (ix_M (hu_of hr)) (ee_str [97, 98, 99, 100]) (ee_var 8))) (set_o (hu_of hr)) setm_o))))) es_nil))))))) (es_one (es_ret (ee_tup (ea_cons (ee_var 1) (ea_cons (ee_callTy cb_tuple (by rfl) G.z_tuple PyProof.Rows.boot_tuple (ea_cons (ee_sl (ee_callB (cb_sorted rfl) (by rfl) G.z_sorted PyProof.Rows.boot_sorted (ea_cons (ee_var 5) ea_nil)) ep_none (ep_some (ee_var 4))) ea_nil)) ea_nil)))))))
theorem ok__law_relay (G : Gs K mg) : FnOk P w K mg base CX0 4 G.A__law_relay G.D__law_relay ["cup", "lists", "letters", "length", "size", "most"] (SpF0 ⟨K, mg, L.T, L.ex⟩ 6 m__law_relay) :=
  fn_pure G.F__law_relay sc__law_relay fun cdv A outer s0 H E n hr => (es_cons (es_set (.f) [] sc__law_relay.nd (ee_tup ea_nil)) (es_cons (es_for PassesOwn.never rfl (ei_rng1 (by rfl) G.z_range (ea_cons (ee_var 1) ea_nil)) (pg_name (i := 7) sc__law_relay.nd rfl (.inl rfl)) EP1.n (es_one (es_set (.f) [] sc__law_relay.nd (ee_op op_addM (ee_var 6) (ee_tup (ea_cons (ee_call (ok__law_list (P := P) (w := w) (base := base) (L := L) G) (hr.mono (by first | decide | omega)) (by rfl) G.g__law_list G.F__law_list.kp G.b__law_list (ea_cons (ee_var 0) (ea_cons (ee_var 2) (ea_cons (ee_var 3) (ea_cons (ee_var 4) (ea_cons (ee_var 5) ea_nil))))) (alen_cons (alen_cons (alen_cons (alen_cons (alen_cons alen_nil)))))) ea_nil)))))) (es_one (es_ret (ee_var 6)))))
theorem ok_is_relay (G : Gs K mg) : FnOk P w K mg base CX0 4 G.A_is_relay G.D_is_relay ["value"] (SpF0 ⟨K, mg, L.T, L.ex⟩ 1 m_is_relay) :=
  fn_pure G.F_is_relay sc_is_relay fun cdv A outer s0 H E n hr => (es_one (es_ret (ee_call (ok_fits_relay (P := P) (w := w) (base := base) (L := L) G) (hr.mono (by first | decide | omega)) (by rfl) G.g_fits_relay G.F_fits_relay.kp G.b_fits_relay (ea_cons (ee_var 0) ea_nil) (alen_cons alen_nil))))
theorem ok__law_places (G : Gs K mg) : FnOk P w K mg base CX0 1 G.A__law_places G.D__law_places ["relay", "belt"] (SpF0 ⟨K, mg, L.T, L.ex⟩ 2 m__law_places) :=
  fn_pure G.F__law_places sc__law_places fun cdv A outer s0 H E n hr => (es_cons (es_tup rfl (em_cons (.f) [] (ee_callB cb_len (by rfl) G.z_len PySem.boot_len (ea_cons (ee_ix (ix_M (hu_of hr)) (ee_ix (ix_M (hu_of hr)) (ee_ix (ix_M (hu_of hr)) (ee_var 0) ee_int) ee_int) ee_int) ea_nil)) (em_cons (.f) [] (ee_tup ea_nil) em_nil)) (egs_cons (eg_name 2 sc__law_places.nd) (egs_cons (eg_name 3 sc__law_places.nd) egs_nil)) (hlen := (blen_cons (blen_cons blen_nil)))) (es_cons (es_set (.f) [] sc__law_places.nd (ee_op op_mulM (ee_var 2) (ee_callB cb_len (by rfl) G.z_len PySem.boot_len (ea_cons (ee_var 0) ea_nil)))) (es_cons (es_for PassesOwn.never rfl (ei_rng1 (by rfl) G.z_range (ea_cons (ee_if (et_cmp (op_eqM (hr.units)) (ee_op op_modM (ee_callTy cb_int (by rfl) G.z_int PyProof.Rows.boot_int (ea_cons (ee_callB cb_len (by rfl) G.z_len PySem.boot_len (ea_cons (ee_var 1) ea_nil)) ea_nil)) (ee_var 4)) ee_int) (ee_var 4) ee_int) ea_nil)) (pg_name (i := 5) sc__law_places.nd rfl (.inl rfl)) EP1.n (es_cons (es_set (.f) [] sc__law_places.nd (ee_op op_addM (ee_sl (ee_var 1) (ep_some (ee_var 5)) ep_none) (ee_sl (ee_var 1) ep_none (ep_some (ee_var 5))))) (es_cons (es_set (.f) [] sc__law_places.nd (ee_comp (own := [("at", 8)]) rfl sc__law_places.nd (ei_rng3 (by rfl) G.z_range (ea_cons ee_int (ea_cons (ee_callB cb_len (by rfl) G.z_len PySem.boot_len (ea_cons (ee_var 6) ea_nil)) (ea_cons (ee_var 2) ea_nil)))) (blkOk_by (show blkC ["relay", "belt", "length", "found", "whole", "first", "late", "rows", "at"] (defScope s__law_places) _ [("at", 8)] = true from by decide +kernel)) (fun _ _ _ _ _ => (pg_name (i := 8) sc__law_places.nd rfl (.inl rfl))) (fun _ _ _ _ _ => pts_yes) (fun _ _ _ _ _ => (ee_sl (ee_var 6) (ep_some (ee_var 8)) (ep_some (ee_op op_addM (ee_var 8) (ee_var 2))))) EP1.n (by decide))) (es_one (es_if (et_cmp (op_eqM (hr.units)) (ee_comp (own := [("at", 8)]) rfl sc__law_places.nd (ei_rng1 (by rfl) G.z_range (ea_cons (ee_callB cb_len (by rfl) G.z_len PySem.boot_len (ea_cons (ee_var 7) ea_nil)) ea_nil)) (blkOk_by (show blkC ["relay", "belt", "length", "found", "whole", "first", "late", "rows", "at"] (defScope s__law_places) _ [("at", 8)] = true from by decide +kernel)) (fun _ _ _ _ _ => (pg_name (i := 8) sc__law_places.nd rfl (.inl rfl))) (fun _ _ _ _ _ => (pts_if (et_cmp (op_notInM (rm65 hr)) (ee_ix (ix_M (hu_of hr)) (ee_var 7) (ee_var 8)) (ee_ix (ix_M (hu_of hr)) (ee_ix (ix_M (hu_of hr)) (ee_var 0) (ee_op op_modM (ee_var 8) (ee_callB cb_len (by rfl) G.z_len PySem.boot_len (ea_cons (ee_var 0) ea_nil)))) ee_int)))) (fun _ _ _ _ _ => (ee_var 8)) EP1.n (by decide)) (ee_lst ea_nil)) (es_one (es_set (.f) [] sc__law_places.nd (ee_op op_addM (ee_var 3) (ee_tup (ea_cons (ee_var 5) ea_nil))))) es_nil))))) (es_one (es_ret (ee_var 3))))))
theorem ok__law_rounds (G : Gs K mg) : FnOk P w K mg base CX0 1 G.A__law_rounds G.D__law_rounds ["relay"] (SpF0 ⟨K, mg, L.T, L.ex⟩ 1 m__law_rounds) :=
  fn_pure G.F__law_rounds sc__law_rounds fun cdv A outer s0 H E n hr => (es_cons (es_set (.f) [] sc__law_rounds.nd (ee_lst (ea_cons (ee_str []) ea_nil))) (es_cons (es_for PassesOwn.never rfl (ei_any (ee_var 0)) (pg_name (i := 2) sc__law_rounds.nd rfl (.inl rfl)) EP1.n (es_cons (es_set (.f) [] sc__law_rounds.nd (ee_lst ea_nil)) (es_cons (es_for PassesOwn.never rfl (ei_any (ee_var 1)) (pg_name (i := 4) sc__law_rounds.nd rfl (.inr rfl)) EP1.n (es_one (es_set (.f) [] sc__law_rounds.nd (ee_op op_addM (ee_var 3) (ee_comp (own := [("word", 5)]) rfl sc__law_rounds.nd (ei_any (ee_ix (ix_M (hu_of hr)) (ee_var 2) ee_int)) (blkOk_by (show blkC ["relay", "rows", "own", "longer", "row", "word"] (defScope s__law_rounds) _ [("word", 5)] = true from by decide +kernel)) (fun _ _ _ _ _ => (pg_name (i := 5) sc__law_rounds.nd rfl (.inl rfl))) (fun _ _ _ _ _ => pts_yes) (fun _ _ _ _ _ => (ee_op op_addM (ee_var 4) (ee_var 5))) EP1.n (by decide)))))) (es_one (es_set (.f) [] sc__law_rounds.nd (ee_var 3)))))) (es_one (es_ret (ee_var 1)))))
theorem ok__law_right (G : Gs K mg) : FnOk P w K mg base CX0 8 G.A__law_right G.D__law_right ["cup", "lists", "letters", "length", "size", "most"] (SpF0 ⟨K, mg, L.T, L.ex⟩ 6 m__law_right) :=
  fn_pure G.F__law_right sc__law_right fun cdv A outer s0 H E n hr => (es_cons (es_set (.f) [] sc__law_right.nd (ee_call (ok__law_relay (P := P) (w := w) (base := base) (L := L) G) (hr.mono (by first | decide | omega)) (by rfl) G.g__law_relay G.F__law_relay.kp G.b__law_relay (ea_cons (ee_var 0) (ea_cons (ee_var 1) (ea_cons (ee_var 2) (ea_cons (ee_var 3) (ea_cons (ee_var 4) (ea_cons (ee_var 5) ea_nil)))))) (alen_cons (alen_cons (alen_cons (alen_cons (alen_cons (alen_cons alen_nil)))))))) (es_cons (es_set (.f) [] sc__law_right.nd (ee_op op_mulM (ee_var 1) (ee_var 3))) (es_cons (es_set (.f) [] sc__law_right.nd (ee_tup ea_nil)) (es_cons (es_for PassesOwn.never rfl (ei_rng1 (by rfl) G.z_range (ea_cons (ee_op op_mulM (ee_var 1) (ee_op op_addM ee_int (ee_call (ok__law_roll (P := P) (w := w) (base := base) (L := L) G) (hr.mono (by first | decide | omega)) (by rfl) G.g__law_roll G.F__law_roll.kp G.b__law_roll (ea_cons (ee_var 0) (ea_cons (ee_op op_divM ee_int (ee_var 7)) ea_nil)) (alen_cons (alen_cons alen_nil))))) ea_nil)) (pg_name (i := 9) sc__law_right.nd rfl (.inl rfl)) EP1.n (es_one (es_set (.f) [] sc__law_right.nd (ee_op op_addM (ee_var 8) (ee_tup (ea_cons (ee_call (ok__law_some (P := P) (w := w) (base := base) (L := L) G) (hr.mono (by first | decide | omega)) (by rfl) G.g__law_some G.F__law_some.kp G.b__law_some (ea_cons (ee_var 0) (ea_cons (ee_ix (ix_M (hu_of hr)) (ee_ix (ix_M (hu_of hr)) (ee_var 6) (ee_op op_modM (ee_var 9) (ee_var 1))) ee_int) ea_nil)) (alen_cons (alen_cons alen_nil))) ea_nil)))))) (es_cons (es_set (.f) [] sc__law_right.nd (ee_join (ee_str []) (ea_cons (ee_var 8) ea_nil))) (es_cons (es_if (et_not (et_val (ee_call (ok__law_same (P := P) (w := w) (base := base) (L := L) G 6) (hr.mono (by first | decide | omega)) (by rfl) G.g__law_same G.F__law_same.kp G.b__law_same (ea_cons (ee_tup (ea_cons (ee_call (ok_is_relay (P := P) (w := w) (base := base) (L := L) G) (hr.mono (by first | decide | omega)) (by rfl) G.g_is_relay G.F_is_relay.kp G.b_is_relay (ea_cons (ee_var 6) ea_nil) (alen_cons alen_nil)) (ea_cons (ee_call (ok_relay_belt (P := P) (w := w) (base := base) (L := L) G) (hr.mono (by first | decide | omega)) (by rfl) G.g_relay_belt G.F_relay_belt.kp G.b_relay_belt (ea_cons (ee_var 6) (ea_cons (ee_var 8) ea_nil)) (alen_cons (alen_cons alen_nil))) (ea_cons (ee_call (ok_relay_words (P := P) (w := w) (base := base) (L := L) G) (hr.mono (by first | decide | omega)) (by rfl) G.g_relay_words G.F_relay_words.kp G.b_relay_words (ea_cons (ee_var 6) (ea_cons (ee_var 10) (ea_cons ee_int ea_nil))) (alen_cons (alen_cons (alen_cons alen_nil)))) ea_nil)))) (ea_cons (ee_tup (ea_cons ee_bl (ea_cons (ee_var 10) (ea_cons (ee_var 8) ea_nil)))) ea_nil)) (alen_cons (alen_cons alen_nil))))) (es_one (es_ret ee_bl)) es_nil) (es_cons (es_tup rfl (em_cons (.f) [] (ee_call (ok__law_roll (P := P) (w := w) (base := base) (L := L) G) (hr.mono (by first | decide | omega)) (by rfl) G.g__law_roll G.F__law_roll.kp G.b__law_roll (ea_cons (ee_var 0) (ea_cons (ee_var 1) ea_nil)) (alen_cons (alen_cons alen_nil))) (em_cons (.f) [] (ee_call (ok__law_roll (P := P) (w := w) (base := base) (L := L) G) (hr.mono (by first | decide | omega)) (by rfl) G.g__law_roll G.F__law_roll.kp G.b__law_roll (ea_cons (ee_var 0) (ea_cons (ee_callB cb_len (by rfl) G.z_len PySem.boot_len (ea_cons (ee_var 10) ea_nil)) ea_nil)) (alen_cons (alen_cons alen_nil))) em_nil)) (egs_cons (eg_name 11 sc__law_right.nd) (egs_cons (eg_name 12 sc__law_right.nd) egs_nil)) (hlen := (blen_cons (blen_cons blen_nil)))) (es_cons (es_set (.f) [] sc__law_right.nd (ee_call (ok_turned_relay (P := P) (w := w) (base := base) (L := L) G) (hr.mono (by first | decide | omega)) (by rfl) G.g_turned_relay G.F_turned_relay.kp G.b_turned_relay (ea_cons (ee_var 6) (ea_cons (ee_var 11) ea_nil)) (alen_cons (alen_cons alen_nil)))) (es_cons (es_if (et_not (et_val (ee_call (ok__law_same (P := P) (w := w) (base := base) (L := L) G 6) (hr.mono (by first | decide | omega)) (by rfl) G.g__law_same G.F__law_same.kp G.b__law_same (ea_cons (ee_var 13) (ea_cons (ee_op op_addM (ee_sl (ee_var 6) (ep_some (ee_var 11)) ep_none) (ee_sl (ee_var 6) ep_none (ep_some (ee_var 11)))) ea_nil)) (alen_cons (alen_cons alen_nil))))) (es_one (es_ret ee_bl)) es_nil) (es_cons (es_for PassesOwn.never rfl (ei_any (ee_tup (ea_cons (ee_var 10) (ea_cons (ee_op op_addM (ee_sl (ee_var 10) (ep_some (ee_var 12)) ep_none) (ee_sl (ee_var 10) ep_none (ep_some (ee_var 12)))) (ea_cons (ee_op op_addM (ee_op op_addM (ee_sl (ee_var 10) ep_none (ep_some (ee_var 12))) (ee_str [97])) (ee_sl (ee_var 10) (ep_some (ee_op op_addM (ee_var 12) ee_int)) ep_none)) (ea_cons (ee_sl (ee_var 10) (ep_some ee_int) ep_none) ea_nil)))))) (pg_name (i := 14) sc__law_right.nd rfl (.inl rfl)) EP1.n (es_cons (es_set (.f) [] sc__law_right.nd (ee_call (ok__law_places (P := P) (w := w) (base := base) (L := L) G) (hr.mono (by first | decide | omega)) (by rfl) G.g__law_places G.F__law_places.kp G.b__law_places (ea_cons (ee_var 6) (ea_cons (ee_var 14) ea_nil)) (alen_cons (alen_cons alen_nil)))) (es_cons (es_if (et_w (ew_and (et_cmp (op_neM (hr.units)) (ee_var 14) (ee_str [])) (ew_and1 (et_not (et_val (ee_call (ok__law_same (P := P) (w := w) (base := base) (L := L) G 6) (hr.mono (by first | decide | omega)) (by rfl) G.g__law_same G.F__law_same.kp G.b__law_same (ea_cons (ee_tup (ea_cons (ee_call (ok_relay_cuttings (P := P) (w := w) (base := base) (L := L) G) (hr.mono (by first | decide | omega)) (by rfl) G.g_relay_cuttings G.F_relay_cuttings.kp G.b_relay_cuttings (ea_cons (ee_var 6) (ea_cons (ee_var 14) ea_nil)) (alen_cons (alen_cons alen_nil))) (ea_cons (ee_call (ok_relay_verdict (P := P) (w := w) (base := base) (L := L) G) (hr.mono (by first | decide | omega)) (by rfl) G.g_relay_verdict G.F_relay_verdict.kp G.b_relay_verdict (ea_cons (ee_var 6) (ea_cons (ee_var 14) ea_nil)) (alen_cons (alen_cons alen_nil))) ea_nil))) (ea_cons (ee_tup (ea_cons (ee_var 15) (ea_cons (ee_if (et_cmp (op_eqM (hr.units)) (ee_var 15) (ee_tup ea_nil)) (ee_str [110, 111, 110, 101]) (ee_if (et_cmp (op_eqM (hr.units)) (ee_callB cb_len (by rfl) G.z_len PySem.boot_len (ea_cons (ee_var 15) ea_nil)) ee_int) (ee_str [111, 110, 101]) (ee_str [115, 101, 118, 101, 114, 97, 108]))) ea_nil))) ea_nil)) (alen_cons (alen_cons alen_nil)))))))) (es_one (es_ret ee_bl)) es_nil) (es_cons (es_if (et_w (ew_and (et_cmp (op_neM (hr.units)) (ee_var 14) (ee_str [])) (ew_and1 (et_not (et_val (ee_call (ok__law_same (P := P) (w := w) (base := base) (L := L) G 6) (hr.mono (by first | decide | omega)) (by rfl) G.g__law_same G.F__law_same.kp G.b__law_same (ea_cons (ee_call (ok_relay_cuttings (P := P) (w := w) (base := base) (L := L) G) (hr.mono (by first | decide | omega)) (by rfl) G.g_relay_cuttings G.F_relay_cuttings.kp G.b_relay_cuttings (ea_cons (ee_var 13) (ea_cons (ee_var 14) ea_nil)) (alen_cons (alen_cons alen_nil))) (ea_cons (ee_callTy cb_tuple (by rfl) G.z_tuple PyProof.Rows.boot_tuple (ea_cons (ee_callB (cb_sorted rfl) (by rfl) G.z_sorted PyProof.Rows.boot_sorted (ea_cons (ee_comp (own := [("own", 23)]) rfl sc__law_right.nd (ei_any (ee_var 15)) (blkOk_by (show blkC ["cup", "lists", "letters", "length", "size", "most", "relay", "whole", "row", "turn", "belt", "by", "at", "late", "value", "due", "first", "turned", "words", "rows", "many", "ways", "odds", "own", "spot", "odd"] (defScope s__law_right) _ [("own", 23)] = true from by decide +kernel)) (fun _ _ _ _ _ => (pg_name (i := 23) sc__law_right.nd rfl (.inl rfl))) (fun _ _ _ _ _ => pts_yes) (fun _ _ _ _ _ => (ee_op op_modM (ee_callTy cb_int (by rfl) G.z_int PyProof.Rows.boot_int (ea_cons (ee_op op_addM (ee_var 23) (ee_op op_mulM (ee_var 11) (ee_var 3))) ea_nil)) (ee_var 7))) EP1.n (by decide)) ea_nil)) ea_nil)) ea_nil)) (alen_cons (alen_cons alen_nil)))))))) (es_one (es_ret ee_bl)) es_nil) (es_one (es_for PassesOwn.never rfl (ei_rng1 (by rfl) G.z_range (ea_cons (ee_if (et_cmp (op_neM (hr.units)) (ee_var 14) (ee_str [])) (ee_var 7) ee_int) ea_nil)) (pg_name (i := 16) sc__law_right.nd rfl (.inl rfl)) EP1.n (es_cons (es_set (.f) [] sc__law_right.nd (ee_op op_addM (ee_sl (ee_var 14) (ep_some (ee_var 16)) ep_none) (ee_sl (ee_var 14) ep_none (ep_some (ee_var 16))))) (es_cons (es_set (.f) [] sc__law_right.nd (ee_if (et_cmp (op_inM (rm65 hr)) (ee_var 16) (ee_var 15)) (ee_callTy cb_tuple (by rfl) G.z_tuple PyProof.Rows.boot_tuple (ea_cons (ee_comp (own := [("spot", 24)]) rfl sc__law_right.nd (ei_rng3 (by rfl) G.z_range (ea_cons ee_int (ea_cons (ee_callB cb_len (by rfl) G.z_len PySem.boot_len (ea_cons (ee_var 17) ea_nil)) (ea_cons (ee_var 3) ea_nil)))) (blkOk_by (show blkC ["cup", "lists", "letters", "length", "size", "most", "relay", "whole", "row", "turn", "belt", "by", "at", "late", "value", "due", "first", "turned", "words", "rows", "many", "ways", "odds", "own", "spot", "odd"] (defScope s__law_right) _ [("spot", 24)] = true from by decide +kernel)) (fun _ _ _ _ _ => (pg_name (i := 24) sc__law_right.nd rfl (.inl rfl))) (fun _ _ _ _ _ => pts_yes) (fun _ _ _ _ _ => (ee_sl (ee_var 17) (ep_some (ee_var 24)) (ep_some (ee_op op_addM (ee_var 24) (ee_var 3))))) EP1.n (by decide)) ea_nil)) ee_non)) (es_one (es_if (et_not (et_val (ee_call (ok__law_same (P := P) (w := w) (base := base) (L := L) G 6) (hr.mono (by first | decide | omega)) (by rfl) G.g__law_same G.F__law_same.kp G.b__law_same (ea_cons (ee_call (ok_relay_words (P := P) (w := w) (base := base) (L := L) G) (hr.mono (by first | decide | omega)) (by rfl) G.g_relay_words G.F_relay_words.kp G.b_relay_words (ea_cons (ee_var 6) (ea_cons (ee_var 14) (ea_cons (ee_var 16) ea_nil))) (alen_cons (alen_cons (alen_cons alen_nil)))) (ea_cons (ee_var 18) ea_nil)) (alen_cons (alen_cons alen_nil))))) (es_one (es_ret ee_bl)) es_nil)))))))))) (es_cons (es_set (.f) [] sc__law_right.nd (ee_call (ok__law_rounds (P := P) (w := w) (base := base) (L := L) G) (hr.mono (by first | decide | omega)) (by rfl) G.g__law_rounds G.F__law_rounds.kp G.b__law_rounds (ea_cons (ee_var 6) ea_nil) (alen_cons alen_nil))) (es_cons (es_if (et_not (et_val (ee_call (ok__law_same (P := P) (w := w) (base := base) (L := L) G 6) (hr.mono (by first | decide | omega)) (by rfl) G.g__law_same G.F__law_same.kp G.b__law_same (ea_cons (ee_call (ok_relay_list (P := P) (w := w) (base := base) (L := L) G) (hr.mono (by first | decide | omega)) (by rfl) G.g_relay_list G.F_relay_list.kp G.b_relay_list (ea_cons (ee_var 6) ea_nil) (alen_cons alen_nil)) (ea_cons (ee_if (et_w (ew_and (et_cmp op_ltM (ee_callB cb_len (by rfl) G.z_len PySem.boot_len (ea_cons (ee_var 19) ea_nil)) ee_int) (ew_and1 (et_cmp op_ltM (ee_var 7) ee_int)))) (ee_tup (ea_cons (ee_var 2) (ea_cons (ee_callTy cb_tuple (by rfl) G.z_tuple PyProof.Rows.boot_tuple (ea_cons (ee_callB (cb_sorted rfl) (by rfl) G.z_sorted PyProof.Rows.boot_sorted (ea_cons (ee_var 19) ea_nil)) ea_nil)) ea_nil))) ee_non) ea_nil)) (alen_cons (alen_cons alen_nil))))) (es_one (es_ret ee_bl)) es_nil) (es_cons (es_set (.f) [] sc__law_right.nd (ee_call (ok__law_roll (P := P) (w := w) (base := base) (L := L) G) (hr.mono (by first | decide | omega)) (by rfl) G.g__law_roll G.F__law_roll.kp G.b__law_roll (ea_cons (ee_var 0) (ea_cons ee_int ea_nil)) (alen_cons (alen_cons alen_nil)))) (es_cons (es_set (.f) [] sc__law_right.nd ee_int) (es_cons (es_for PassesOwn.never rfl (ei_rng1 (by rfl) G.z_range (ea_cons (ee_var 20) ea_nil)) (pg_name (i := 9) sc__law_right.nd rfl (.inl rfl)) EP1.n (es_one (es_set (.f) [] sc__law_right.nd (ee_op op_mulM (ee_var 21) (ee_callB cb_len (by rfl) G.z_len PySem.boot_len (ea_cons (ee_var 19) ea_nil)))))) (es_cons (es_set (.f) [] sc__law_right.nd (ee_lst (ea_cons ee_non (ea_cons (ee_tup ea_nil) (ea_cons (ee_callTy cb_list (by rfl) G.z_list PyProof.Rows.boot_list (ea_cons (ee_var 6) ea_nil)) (ea_cons (ee_ix (ix_M (hu_of hr)) (ee_var 6) ee_int) (ea_cons (ee_tup (ea_cons ee_non ea_nil)) (ea_cons (ee_op op_addM (ee_var 6) (ee_tup (ea_cons (ee_tup (ea_cons (ee_var 2) (ea_cons (ee_tup (ea_cons (ee_op op_mulM (ee_str [97]) (ee_if (et_cmp op_ltM (ee_var 3) ee_int) (ee_op op_addM (ee_var 3) ee_int) ee_int)) ea_nil)) ea_nil))) ea_nil))) (ea_cons (ee_op op_addM (ee_var 6) (ee_tup (ea_cons (ee_tup (ea_cons (ee_op op_addM ee_int (ee_op op_modM (ee_var 2) ee_int)) (ea_cons (ee_tup (ea_cons (ee_op op_mulM (ee_str [97]) (ee_var 3)) ea_nil)) ea_nil))) ea_nil))) (ea_cons (ee_op op_mulM (ee_sl (ee_var 6) ep_none (ep_some ee_int)) ee_int) (ea_cons ee_int ea_nil))))))))))) (es_one (es_ret (ee_and (ee_call (ok__law_same (P := P) (w := w) (base := base) (L := L) G 6) (hr.mono (by first | decide | omega)) (by rfl) G.g__law_same G.F__law_same.kp G.b__law_same (ea_cons (ee_call (ok_count_relay_rows (P := P) (w := w) (base := base) (L := L) G) (hr.mono (by first | decide | omega)) (by rfl) G.g_count_relay_rows G.F_count_relay_rows.kp G.b_count_relay_rows (ea_cons (ee_var 6) (ea_cons (ee_var 20) ea_nil)) (alen_cons (alen_cons alen_nil))) (ea_cons (ee_var 21) ea_nil)) (alen_cons (alen_cons alen_nil))) (ee_one (ee_cmp (op_eqM (hr.units)) (ee_comp (own := [("odd", 25)]) rfl sc__law_right.nd (ei_any (ee_var 22)) (blkOk_by (show blkC ["cup", "lists", "letters", "length", "size", "most", "relay", "whole", "row", "turn", "belt", "by", "at", "late", "value", "due", "first", "turned", "words", "rows", "many", "ways", "odds", "own", "spot", "odd"] (defScope s__law_right) _ [("odd", 25)] = true from by decide +kernel)) (fun _ _ _ _ _ => (pg_name (i := 25) sc__law_right.nd rfl (.inl rfl))) (fun _ _ _ _ _ => (pts_if (et_cmp op_isNM (ee_call (ok_is_relay (P := P) (w := w) (base := base) (L := L) G) (hr.mono (by first | decide | omega)) (by rfl) G.g_is_relay G.F_is_relay.kp G.b_is_relay (ea_cons (ee_var 25) ea_nil) (alen_cons alen_nil)) ee_bl))) (fun _ _ _ _ _ => (ee_var 25)) EP1.n (by decide)) (ee_lst ea_nil))))))))))))))))))))))
theorem ok_law (G : Gs K mg) : FnOk P w K mg base CX0 9 G.A_law G.D_law ["script"] (SpF0 ⟨K, mg, L.T, L.ex⟩ 1 m_law) :=
  fn_pure G.F_law sc_law fun cdv A outer s0 H E n hr => (es_cons (es_set (.c 0) [] sc_law.nd (ee_call (ok__law_cup (P := P) (w := w) (base := base) (L := L) G) (hr.mono (by first | decide | omega)) (by rfl) G.g__law_cup G.F__law_cup.kp G.b__law_cup (ea_cons (ee_var 0) ea_nil) (alen_cons alen_nil))) (es_cons (es_tup rfl (em_cons (.f) [] (ee_tup (ea_cons (ee_tup (ea_cons ee_int (ea_cons (ee_tup (ea_cons (ee_str [97, 97]) ea_nil)) ea_nil))) (ea_cons (ee_tup (ea_cons ee_int (ea_cons (ee_tup (ea_cons (ee_str [98, 98]) ea_nil)) ea_nil))) ea_nil))) (em_cons (.f) [] (ee_tup (ea_cons (ee_tup (ea_cons ee_int (ea_cons (ee_tup (ea_cons (ee_str [97, 98]) (ea_cons (ee_str [98, 97]) ea_nil))) ea_nil))) (ea_cons (ee_tup (ea_cons ee_int (ea_cons (ee_tup (ea_cons (ee_str [97, 98]) ea_nil)) ea_nil))) ea_nil))) em_nil)) (egs_cons (eg_name 2 sc_law.nd) (egs_cons (eg_name 3 sc_law.nd) egs_nil)) (hlen := (blen_cons (blen_cons blen_nil)))) (es_cons (es_set (.f) [] sc_law.nd (ee_tup (ea_cons (ee_call (ok_relay_cuttings (P := P) (w := w) (base := base) (L := L) G) (hr.mono (by first | decide | omega)) (by rfl) G.g_relay_cuttings G.F_relay_cuttings.kp G.b_relay_cuttings (ea_cons (ee_var 2) (ea_cons (ee_str [97, 97, 98, 98]) ea_nil)) (alen_cons (alen_cons alen_nil))) (ea_cons (ee_call (ok_relay_cuttings (P := P) (w := w) (base := base) (L := L) G) (hr.mono (by first | decide | omega)) (by rfl) G.g_relay_cuttings G.F_relay_cuttings.kp G.b_relay_cuttings (ea_cons (ee_var 2) (ea_cons (ee_str [97, 98, 98, 97]) ea_nil)) (alen_cons (alen_cons alen_nil))) (ea_cons (ee_call (ok_relay_cuttings (P := P) (w := w) (base := base) (L := L) G) (hr.mono (by first | decide | omega)) (by rfl) G.g_relay_cuttings G.F_relay_cuttings.kp G.b_relay_cuttings (ea_cons (ee_var 3) (ea_cons (ee_str [97, 98, 97, 98]) ea_nil)) (alen_cons (alen_cons alen_nil))) (ea_cons (ee_call (ok_relay_cuttings (P := P) (w := w) (base := base) (L := L) G) (hr.mono (by first | decide | omega)) (by rfl) G.g_relay_cuttings G.F_relay_cuttings.kp G.b_relay_cuttings (ea_cons (ee_var 3) (ea_cons (ee_str [98, 97, 97, 98]) ea_nil)) (alen_cons (alen_cons alen_nil))) (ea_cons (ee_call (ok_relay_words (P := P) (w := w) (base := base) (L := L) G) (hr.mono (by first | decide | omega)) (by rfl) G.g_relay_words G.F_relay_words.kp G.b_relay_words (ea_cons (ee_var 3) (ea_cons (ee_str [97, 98, 97, 98]) (ea_cons ee_int ea_nil))) (alen_cons (alen_cons (alen_cons alen_nil)))) (ea_cons (ee_call (ok_relay_words (P := P) (w := w) (base := base) (L := L) G) (hr.mono (by first | decide | omega)) (by rfl) G.g_relay_words G.F_relay_words.kp G.b_relay_words (ea_cons (ee_var 3) (ea_cons (ee_str [97, 98, 97, 98]) (ea_cons ee_int ea_nil))) (alen_cons (alen_cons (alen_cons alen_nil)))) ea_nil)))))))) (es_cons (es_if (et_not (et_val (ee_call (ok__law_same (P := P) (w := w) (base := base) (L := L) G 6) (hr.mono (by first | decide | omega)) (by rfl) G.g__law_same G.F__law_same.kp G.b__law_same (ea_cons (ee_var 4) (ea_cons (ee_tup (ea_cons (ee_tup (ea_cons ee_int ea_nil)) (ea_cons (ee_tup (ea_cons ee_int ea_nil)) (ea_cons (ee_tup (ea_cons ee_int (ea_cons ee_int ea_nil))) (ea_cons (ee_tup (ea_cons ee_int ea_nil)) (ea_cons (ee_tup (ea_cons (ee_str [97, 98]) (ea_cons (ee_str [97, 98]) ea_nil))) (ea_cons ee_non ea_nil))))))) ea_nil)) (alen_cons (alen_cons alen_nil))))) (es_one (es_ret ee_bl)) es_nil) (es_cons (es_set (.f) [] sc_law.nd (ee_tup (ea_cons (ee_call (ok_relay_belt (P := P) (w := w) (base := base) (L := L) G) (hr.mono (by first | decide | omega)) (by rfl) G.g_relay_belt G.F_relay_belt.kp G.b_relay_belt (ea_cons (ee_var 3) (ea_cons (ee_tup (ea_cons (ee_str [98, 97]) (ea_cons (ee_str [97, 98]) ea_nil))) ea_nil)) (alen_cons (alen_cons alen_nil))) (ea_cons (ee_call (ok_relay_verdict (P := P) (w := w) (base := base) (L := L) G) (hr.mono (by first | decide | omega)) (by rfl) G.g_relay_verdict G.F_relay_verdict.kp G.b_relay_verdict (ea_cons (ee_var 3) (ea_cons (ee_str [97, 98, 97, 98]) ea_nil)) (alen_cons (alen_cons alen_nil))) (ea_cons (ee_call (ok_relay_verdict (P := P) (w := w) (base := base) (L := L) G) (hr.mono (by first | decide | omega)) (by rfl) G.g_relay_verdict G.F_relay_verdict.kp G.b_relay_verdict (ea_cons (ee_var 2) (ea_cons (ee_str [97, 97, 98, 98, 97, 97]) ea_nil)) (alen_cons (alen_cons alen_nil))) (ea_cons (ee_call (ok_turned_relay (P := P) (w := w) (base := base) (L := L) G) (hr.mono (by first | decide | omega)) (by rfl) G.g_turned_relay G.F_turned_relay.kp G.b_turned_relay (ea_cons (ee_var 2) (ea_cons ee_int ea_nil)) (alen_cons (alen_cons alen_nil))) (ea_cons (ee_call (ok_relay_list (P := P) (w := w) (base := base) (L := L) G) (hr.mono (by first | decide | omega)) (by rfl) G.g_relay_list G.F_relay_list.kp G.b_relay_list (ea_cons (ee_var 2) ea_nil) (alen_cons alen_nil)) (ea_cons (ee_call (ok_relay_list (P := P) (w := w) (base := base) (L := L) G) (hr.mono (by first | decide | omega)) (by rfl) G.g_relay_list G.F_relay_list.kp G.b_relay_list (ea_cons (ee_var 3) ea_nil) (alen_cons alen_nil)) (ea_cons (ee_call (ok_count_relay_rows (P := P) (w := w) (base := base) (L := L) G) (hr.mono (by first | decide | omega)) (by rfl) G.g_count_relay_rows G.F_count_relay_rows.kp G.b_count_relay_rows (ea_cons (ee_var 3) (ea_cons ee_int ea_nil)) (alen_cons (alen_cons alen_nil))) ea_nil))))))))) (es_cons (es_if (et_not (et_val (ee_call (ok__law_same (P := P) (w := w) (base := base) (L := L) G 6) (hr.mono (by first | decide | omega)) (by rfl) G.g__law_same G.F__law_same.kp G.b__law_same (ea_cons (ee_var 4) (ea_cons (ee_tup (ea_cons (ee_str [98, 97, 97, 98]) (ea_cons (ee_str [115, 101, 118, 101, 114, 97, 108]) (ea_cons (ee_str [110, 111, 110, 101]) (ea_cons (ee_tup (ea_cons (ee_tup (ea_cons ee_int (ea_cons (ee_tup (ea_cons (ee_str [98, 98]) ea_nil)) ea_nil))) (ea_cons (ee_tup (ea_cons ee_int (ea_cons (ee_tup (ea_cons (ee_str [97, 97]) ea_nil)) ea_nil))) ea_nil))) (ea_cons (ee_tup (ea_cons ee_int (ea_cons (ee_tup (ea_cons (ee_str [97, 97, 98, 98]) ea_nil)) ea_nil))) (ea_cons (ee_tup (ea_cons ee_int (ea_cons (ee_tup (ea_cons (ee_str [97, 98, 97, 98]) (ea_cons (ee_str [98, 97, 97, 98]) ea_nil))) ea_nil))) (ea_cons ee_int ea_nil)))))))) ea_nil)) (alen_cons (alen_cons alen_nil))))) (es_one (es_ret ee_bl)) es_nil) (es_cons (es_for PassesOwn.never rfl (ei_any (ee_tup (ea_cons (ee_tup (ea_cons ee_int (ea_cons ee_int (ea_cons ee_int (ea_cons ee_int (ea_cons ee_int ea_nil)))))) (ea_cons (ee_tup (ea_cons ee_int (ea_cons ee_int (ea_cons ee_int (ea_cons ee_int (ea_cons ee_int ea_nil)))))) (ea_cons (ee_tup (ea_cons ee_int (ea_cons ee_int (ea_cons ee_int (ea_cons ee_int (ea_cons ee_int ea_nil)))))) (ea_cons (ee_tup (ea_cons ee_int (ea_cons ee_int (ea_cons ee_int (ea_cons ee_int (ea_cons ee_int ea_nil)))))) (ea_cons (ee_tup (ea_cons ee_int (ea_cons ee_int (ea_cons ee_int (ea_cons ee_int (ea_cons ee_int ea_nil)))))) ea_nil))))))) (pg_tup rfl (pgs_cons (pg_name (i := 5) sc_law.nd rfl (.inl rfl)) (pgs_cons (pg_name (i := 6) sc_law.nd rfl (.inl rfl)) (pgs_cons (pg_name (i := 7) sc_law.nd rfl (.inl rfl)) (pgs_cons (pg_name (i := 8) sc_law.nd rfl (.inl rfl)) (pgs_cons (pg_name (i := 9) sc_law.nd rfl (.inl rfl)) pgs_nil)))))) EP1.t (es_one (es_if (et_not (et_val (ee_call (ok__law_right (P := P) (w := w) (base := base) (L := L) G) (hr.mono (by first | decide | omega)) (by rfl) G.g__law_right G.F__law_right.kp G.b__law_right (ea_cons (ee_var 1) (ea_cons (ee_var 5) (ea_cons (ee_var 6) (ea_cons (ee_var 7) (ea_cons (ee_var 8) (ea_cons (ee_var 9) ea_nil)))))) (alen_cons (alen_cons (alen_cons (alen_cons (alen_cons (alen_cons alen_nil))))))))) (es_one (es_ret ee_bl)) es_nil))) (es_one (es_ret ee_bl)))))))))
end
theorem all_mk {l : PySem.W.OpenLaw} {w : World} {K : PySem.W.Frag} {h : Heap} {mg : Str → Option Value} {fa : Addr} (X : K.In h) (G : h.Ns mainGlobals mg) (hfa : mg "law" = some (.ref fa)) (hc : ∀ ns : List Int, ns.length ≤ 63 → ∃ st, m_law [.v (.seq (ns.map .int))] [] = .ok (.v (.bl true)) st)
    {f0 f1 f2 f3 f4 f5 f6 f7 f8 f9 f10 f11 f12 f13 f14 f15 f16 f17 f18 f19 f20 f21 f22 f23 f24 f25 f26 f27 f28 f29 f30 : Addr}
    {od0 an0 od1 an1 od2 an2 od3 an3 od4 an4 od5 an5 od6 an6 od7 an7 od8 an8 od9 an9 od10 an10 od11 an11 od12 an12 od13 an13 od14 an14 od15 an15 od16 an16 od17 an17 od18 an18 od19 an19 od20 an20 od21 an21 od22 an22 od23 an23 od24 an24 od25 an25 od26 an26 od27 an27 od28 an28 od29 an29 od30 an30 : Option Addr} {sl0 sl1 sl2 sl3 sl4 sl5 sl6 sl7 sl8 sl9 sl10 sl11 sl12 sl13 sl14 sl15 sl16 sl17 sl18 sl19 sl20 sl21 sl22 sl23 sl24 sl25 sl26 sl27 sl28 sl29 sl30 : Array (Option Value)}
    {oc0 kV0 dc0 pm0 cd0 ct0 oc1 kV1 dc1 pm1 cd1 ct1 oc2 kV2 dc2 pm2 cd2 ct2 oc3 kV3 dc3 pm3 cd3 ct3 oc4 kV4 dc4 pm4 cd4 ct4 oc5 kV5 dc5 pm5 cd5 ct5 oc6 kV6 dc6 pm6 cd6 ct6 oc7 kV7 dc7 pm7 cd7 ct7 oc8 kV8 dc8 pm8 cd8 ct8 oc9 kV9 dc9 pm9 cd9 ct9 oc10 kV10 dc10 pm10 cd10 ct10 oc11 kV11 dc11 pm11 cd11 ct11 oc12 kV12 dc12 pm12 cd12 ct12 oc13 kV13 dc13 pm13 cd13 ct13 oc14 kV14 dc14 pm14 cd14 ct14 oc15 kV15 dc15 pm15 cd15 ct15 oc16 kV16 dc16 pm16 cd16 ct16 oc17 kV17 dc17 pm17 cd17 ct17 oc18 kV18 dc18 pm18 cd18 ct18 oc19 kV19 dc19 pm19 cd19 ct19 oc20 kV20 dc20 pm20 cd20 ct20 oc21 kV21 dc21 pm21 cd21 ct21 oc22 kV22 dc22 pm22 cd22 ct22 oc23 kV23 dc23 pm23 cd23 ct23 oc24 kV24 dc24 pm24 cd24 ct24 oc25 kV25 dc25 pm25 cd25 ct25 oc26 kV26 dc26 pm26 cd26 ct26 oc27 kV27 dc27 pm27 cd27 ct27 oc28 kV28 dc28 pm28 cd28 ct28 oc29 kV29 dc29 pm29 cd29 ct29 oc30 kV30 dc30 pm30 cd30 ct30 : Value}
    (a0 : PySem.W.nsIn K mainGlobals "_law_cup" = some (some (.ref f0))) (l0 : K.lookup f0 = some ⟨oc0, od0, .func (PySem.W.fnOf "_law_cup" "_law_cup" (defArgs s__law_cup) (defBody s__law_cup) (defScope s__law_cup) .none kV0 dc0 pm0 an0 cd0 ct0), sl0⟩) (c0 : PySem.W.codeIn K cd0 "_law_cup" = true) (k0 : PySem.W.keepIn K (.ref f0) = true)
    (a1 : PySem.W.nsIn K mainGlobals "is_tuple_of" = some (some (.ref f1))) (l1 : K.lookup f1 = some ⟨oc1, od1, .func (PySem.W.fnOf "is_tuple_of" "is_tuple_of" (defArgs s_is_tuple_of) (defBody s_is_tuple_of) (defScope s_is_tuple_of) .none kV1 dc1 pm1 an1 cd1 ct1), sl1⟩) (c1 : PySem.W.codeIn K cd1 "is_tuple_of" = true) (k1 : PySem.W.keepIn K (.ref f1) = true)
    (a2 : PySem.W.nsIn K mainGlobals "is_whole" = some (some (.ref f2))) (l2 : K.lookup f2 = some ⟨oc2, od2, .func (PySem.W.fnOf "is_whole" "is_whole" (defArgs s_is_whole) (defBody s_is_whole) (defScope s_is_whole) .none kV2 dc2 pm2 an2 cd2 ct2), sl2⟩) (c2 : PySem.W.codeIn K cd2 "is_whole" = true) (k2 : PySem.W.keepIn K (.ref f2) = true)
    (a3 : PySem.W.nsIn K mainGlobals "fits_row" = some (some (.ref f3))) (l3 : K.lookup f3 = some ⟨oc3, od3, .func (PySem.W.fnOf "fits_row" "fits_row" (defArgs s_fits_row) (defBody s_fits_row) (defScope s_fits_row) .none kV3 dc3 pm3 an3 cd3 ct3), sl3⟩) (c3 : PySem.W.codeIn K cd3 "fits_row" = true) (k3 : PySem.W.keepIn K (.ref f3) = true)
    (a4 : PySem.W.nsIn K mainGlobals "is_rising" = some (some (.ref f4))) (l4 : K.lookup f4 = some ⟨oc4, od4, .func (PySem.W.fnOf "is_rising" "is_rising" (defArgs s_is_rising) (defBody s_is_rising) (defScope s_is_rising) .none kV4 dc4 pm4 an4 cd4 ct4), sl4⟩) (c4 : PySem.W.codeIn K cd4 "is_rising" = true) (k4 : PySem.W.keepIn K (.ref f4) = true)
    (a5 : PySem.W.nsIn K mainGlobals "fits_list" = some (some (.ref f5))) (l5 : K.lookup f5 = some ⟨oc5, od5, .func (PySem.W.fnOf "fits_list" "fits_list" (defArgs s_fits_list) (defBody s_fits_list) (defScope s_fits_list) .none kV5 dc5 pm5 an5 cd5 ct5), sl5⟩) (c5 : PySem.W.codeIn K cd5 "fits_list" = true) (k5 : PySem.W.keepIn K (.ref f5) = true)
    (a6 : PySem.W.nsIn K mainGlobals "length_in" = some (some (.ref f6))) (l6 : K.lookup f6 = some ⟨oc6, od6, .func (PySem.W.fnOf "length_in" "length_in" (defArgs s_length_in) (defBody s_length_in) (defScope s_length_in) .none kV6 dc6 pm6 an6 cd6 ct6), sl6⟩) (c6 : PySem.W.codeIn K cd6 "length_in" = true) (k6 : PySem.W.keepIn K (.ref f6) = true)
    (a7 : PySem.W.nsIn K mainGlobals "fits_relay" = some (some (.ref f7))) (l7 : K.lookup f7 = some ⟨oc7, od7, .func (PySem.W.fnOf "fits_relay" "fits_relay" (defArgs s_fits_relay) (defBody s_fits_relay) (defScope s_fits_relay) .none kV7 dc7 pm7 an7 cd7 ct7), sl7⟩) (c7 : PySem.W.codeIn K cd7 "fits_relay" = true) (k7 : PySem.W.keepIn K (.ref f7) = true)
    (a8 : PySem.W.nsIn K mainGlobals "need_relay" = some (some (.ref f8))) (l8 : K.lookup f8 = some ⟨oc8, od8, .func (PySem.W.fnOf "need_relay" "need_relay" (defArgs s_need_relay) (defBody s_need_relay) (defScope s_need_relay) .none kV8 dc8 pm8 an8 cd8 ct8), sl8⟩) (c8 : PySem.W.codeIn K cd8 "need_relay" = true) (k8 : PySem.W.keepIn K (.ref f8) = true)
    (a9 : PySem.W.nsIn K mainGlobals "fits_belt" = some (some (.ref f9))) (l9 : K.lookup f9 = some ⟨oc9, od9, .func (PySem.W.fnOf "fits_belt" "fits_belt" (defArgs s_fits_belt) (defBody s_fits_belt) (defScope s_fits_belt) .none kV9 dc9 pm9 an9 cd9 ct9), sl9⟩) (c9 : PySem.W.codeIn K cd9 "fits_belt" = true) (k9 : PySem.W.keepIn K (.ref f9) = true)
    (a10 : PySem.W.nsIn K mainGlobals "need_belt" = some (some (.ref f10))) (l10 : K.lookup f10 = some ⟨oc10, od10, .func (PySem.W.fnOf "need_belt" "need_belt" (defArgs s_need_belt) (defBody s_need_belt) (defScope s_need_belt) .none kV10 dc10 pm10 an10 cd10 ct10), sl10⟩) (c10 : PySem.W.codeIn K cd10 "need_belt" = true) (k10 : PySem.W.keepIn K (.ref f10) = true)
    (a11 : PySem.W.nsIn K mainGlobals "are_in_turn" = some (some (.ref f11))) (l11 : K.lookup f11 = some ⟨oc11, od11, .func (PySem.W.fnOf "are_in_turn" "are_in_turn" (defArgs s_are_in_turn) (defBody s_are_in_turn) (defScope s_are_in_turn) .none kV11 dc11 pm11 an11 cd11 ct11), sl11⟩) (c11 : PySem.W.codeIn K cd11 "are_in_turn" = true) (k11 : PySem.W.keepIn K (.ref f11) = true)
    (a12 : PySem.W.nsIn K mainGlobals "pieces_in" = some (some (.ref f12))) (l12 : K.lookup f12 = some ⟨oc12, od12, .func (PySem.W.fnOf "pieces_in" "pieces_in" (defArgs s_pieces_in) (defBody s_pieces_in) (defScope s_pieces_in) .none kV12 dc12 pm12 an12 cd12 ct12), sl12⟩) (c12 : PySem.W.codeIn K cd12 "pieces_in" = true) (k12 : PySem.W.keepIn K (.ref f12) = true)
    (a13 : PySem.W.nsIn K mainGlobals "cuttings_in" = some (some (.ref f13))) (l13 : K.lookup f13 = some ⟨oc13, od13, .func (PySem.W.fnOf "cuttings_in" "cuttings_in" (defArgs s_cuttings_in) (defBody s_cuttings_in) (defScope s_cuttings_in) .none kV13 dc13 pm13 an13 cd13 ct13), sl13⟩) (c13 : PySem.W.codeIn K cd13 "cuttings_in" = true) (k13 : PySem.W.keepIn K (.ref f13) = true)
    (a14 : PySem.W.nsIn K mainGlobals "relay_cuttings" = some (some (.ref f14))) (l14 : K.lookup f14 = some ⟨oc14, od14, .func (PySem.W.fnOf "relay_cuttings" "relay_cuttings" (defArgs s_relay_cuttings) (defBody s_relay_cuttings) (defScope s_relay_cuttings) .none kV14 dc14 pm14 an14 cd14 ct14), sl14⟩) (c14 : PySem.W.codeIn K cd14 "relay_cuttings" = true) (k14 : PySem.W.keepIn K (.ref f14) = true)
    (a15 : PySem.W.nsIn K mainGlobals "relay_words" = some (some (.ref f15))) (l15 : K.lookup f15 = some ⟨oc15, od15, .func (PySem.W.fnOf "relay_words" "relay_words" (defArgs s_relay_words) (defBody s_relay_words) (defScope s_relay_words) .none kV15 dc15 pm15 an15 cd15 ct15), sl15⟩) (c15 : PySem.W.codeIn K cd15 "relay_words" = true) (k15 : PySem.W.keepIn K (.ref f15) = true)
    (a16 : PySem.W.nsIn K mainGlobals "_law_same" = some (some (.ref f16))) (l16 : K.lookup f16 = some ⟨oc16, od16, .func (PySem.W.fnOf "_law_same" "_law_same" (defArgs s__law_same) (defBody s__law_same) (defScope s__law_same) .none kV16 dc16 pm16 an16 cd16 ct16), sl16⟩) (c16 : PySem.W.codeIn K cd16 "_law_same" = true) (k16 : PySem.W.keepIn K (.ref f16) = true)
    (a17 : PySem.W.nsIn K mainGlobals "relay_belt" = some (some (.ref f17))) (l17 : K.lookup f17 = some ⟨oc17, od17, .func (PySem.W.fnOf "relay_belt" "relay_belt" (defArgs s_relay_belt) (defBody s_relay_belt) (defScope s_relay_belt) .none kV17 dc17 pm17 an17 cd17 ct17), sl17⟩) (c17 : PySem.W.codeIn K cd17 "relay_belt" = true) (k17 : PySem.W.keepIn K (.ref f17) = true)
    (a18 : PySem.W.nsIn K mainGlobals "relay_verdict" = some (some (.ref f18))) (l18 : K.lookup f18 = some ⟨oc18, od18, .func (PySem.W.fnOf "relay_verdict" "relay_verdict" (defArgs s_relay_verdict) (defBody s_relay_verdict) (defScope s_relay_verdict) .none kV18 dc18 pm18 an18 cd18 ct18), sl18⟩) (c18 : PySem.W.codeIn K cd18 "relay_verdict" = true) (k18 : PySem.W.keepIn K (.ref f18) = true)
    (a19 : PySem.W.nsIn K mainGlobals "turned_relay" = some (some (.ref f19))) (l19 : K.lookup f19 = some ⟨oc19, od19, .func (PySem.W.fnOf "turned_relay" "turned_relay" (defArgs s_turned_relay) (defBody s_turned_relay) (defScope s_turned_relay) .none kV19 dc19 pm19 an19 cd19 ct19), sl19⟩) (c19 : PySem.W.codeIn K cd19 "turned_relay" = true) (k19 : PySem.W.keepIn K (.ref f19) = true)
    (a20 : PySem.W.nsIn K mainGlobals "relay_list" = some (some (.ref f20))) (l20 : K.lookup f20 = some ⟨oc20, od20, .func (PySem.W.fnOf "relay_list" "relay_list" (defArgs s_relay_list) (defBody s_relay_list) (defScope s_relay_list) .none kV20 dc20 pm20 an20 cd20 ct20), sl20⟩) (c20 : PySem.W.codeIn K cd20 "relay_list" = true) (k20 : PySem.W.keepIn K (.ref f20) = true)
    (a21 : PySem.W.nsIn K mainGlobals "count_relay_rows" = some (some (.ref f21))) (l21 : K.lookup f21 = some ⟨oc21, od21, .func (PySem.W.fnOf "count_relay_rows" "count_relay_rows" (defArgs s_count_relay_rows) (defBody s_count_relay_rows) (defScope s_count_relay_rows) .none kV21 dc21 pm21 an21 cd21 ct21), sl21⟩) (c21 : PySem.W.codeIn K cd21 "count_relay_rows" = true) (k21 : PySem.W.keepIn K (.ref f21) = true)
    (a22 : PySem.W.nsIn K mainGlobals "_law_roll" = some (some (.ref f22))) (l22 : K.lookup f22 = some ⟨oc22, od22, .func (PySem.W.fnOf "_law_roll" "_law_roll" (defArgs s__law_roll) (defBody s__law_roll) (defScope s__law_roll) .none kV22 dc22 pm22 an22 cd22 ct22), sl22⟩) (c22 : PySem.W.codeIn K cd22 "_law_roll" = true) (k22 : PySem.W.keepIn K (.ref f22) = true)
    (a23 : PySem.W.nsIn K mainGlobals "_law_some" = some (some (.ref f23))) (l23 : K.lookup f23 = some ⟨oc23, od23, .func (PySem.W.fnOf "_law_some" "_law_some" (defArgs s__law_some) (defBody s__law_some) (defScope s__law_some) .none kV23 dc23 pm23 an23 cd23 ct23), sl23⟩) (c23 : PySem.W.codeIn K cd23 "_law_some" = true) (k23 : PySem.W.keepIn K (.ref f23) = true)
    (a24 : PySem.W.nsIn K mainGlobals "_law_list" = some (some (.ref f24))) (l24 : K.lookup f24 = some ⟨oc24, od24, .func (PySem.W.fnOf "_law_list" "_law_list" (defArgs s__law_list) (defBody s__law_list) (defScope s__law_list) .none kV24 dc24 pm24 an24 cd24 ct24), sl24⟩) (c24 : PySem.W.codeIn K cd24 "_law_list" = true) (k24 : PySem.W.keepIn K (.ref f24) = true)
    (a25 : PySem.W.nsIn K mainGlobals "_law_relay" = some (some (.ref f25))) (l25 : K.lookup f25 = some ⟨oc25, od25, .func (PySem.W.fnOf "_law_relay" "_law_relay" (defArgs s__law_relay) (defBody s__law_relay) (defScope s__law_relay) .none kV25 dc25 pm25 an25 cd25 ct25), sl25⟩) (c25 : PySem.W.codeIn K cd25 "_law_relay" = true) (k25 : PySem.W.keepIn K (.ref f25) = true)
    (a26 : PySem.W.nsIn K mainGlobals "is_relay" = some (some (.ref f26))) (l26 : K.lookup f26 = some ⟨oc26, od26, .func (PySem.W.fnOf "is_relay" "is_relay" (defArgs s_is_relay) (defBody s_is_relay) (defScope s_is_relay) .none kV26 dc26 pm26 an26 cd26 ct26), sl26⟩) (c26 : PySem.W.codeIn K cd26 "is_relay" = true) (k26 : PySem.W.keepIn K (.ref f26) = true)
    (a27 : PySem.W.nsIn K mainGlobals "_law_places" = some (some (.ref f27))) (l27 : K.lookup f27 = some ⟨oc27, od27, .func (PySem.W.fnOf "_law_places" "_law_places" (defArgs s__law_places) (defBody s__law_places) (defScope s__law_places) .none kV27 dc27 pm27 an27 cd27 ct27), sl27⟩) (c27 : PySem.W.codeIn K cd27 "_law_places" = true) (k27 : PySem.W.keepIn K (.ref f27) = true)
    (a28 : PySem.W.nsIn K mainGlobals "_law_rounds" = some (some (.ref f28))) (l28 : K.lookup f28 = some ⟨oc28, od28, .func (PySem.W.fnOf "_law_rounds" "_law_rounds" (defArgs s__law_rounds) (defBody s__law_rounds) (defScope s__law_rounds) .none kV28 dc28 pm28 an28 cd28 ct28), sl28⟩) (c28 : PySem.W.codeIn K cd28 "_law_rounds" = true) (k28 : PySem.W.keepIn K (.ref f28) = true)
    (a29 : PySem.W.nsIn K mainGlobals "_law_right" = some (some (.ref f29))) (l29 : K.lookup f29 = some ⟨oc29, od29, .func (PySem.W.fnOf "_law_right" "_law_right" (defArgs s__law_right) (defBody s__law_right) (defScope s__law_right) .none kV29 dc29 pm29 an29 cd29 ct29), sl29⟩) (c29 : PySem.W.codeIn K cd29 "_law_right" = true) (k29 : PySem.W.keepIn K (.ref f29) = true)
    (a30 : PySem.W.nsIn K mainGlobals "law" = some (some (.ref f30))) (l30 : K.lookup f30 = some ⟨oc30, od30, .func (PySem.W.fnOf "law" "law" (defArgs s_law) (defBody s_law) (defScope s_law) .none kV30 dc30 pm30 an30 cd30 ct30), sl30⟩) (c30 : PySem.W.codeIn K cd30 "law" = true) (k30 : PySem.W.keepIn K (.ref f30) = true)
    {t_BELT_belts : Tok} (q_BELT_belts : PySem.W.nsIn K mainGlobals "BELT_belts" = some (some (.int 24 t_BELT_belts)))
    {t_BELT_relays : Tok} (q_BELT_relays : PySem.W.nsIn K mainGlobals "BELT_relays" = some (some (.int 24 t_BELT_relays)))
    {t_LETTERS : Tok} (q_LETTERS : PySem.W.nsIn K mainGlobals "LETTERS" = some (some (.str "abcd" t_LETTERS)))
    {t_LISTS : Tok} (q_LISTS : PySem.W.nsIn K mainGlobals "LISTS" = some (some (.int 4 t_LISTS)))
    {t_LONG : Tok} (q_LONG : PySem.W.nsIn K mainGlobals "LONG" = some (some (.int 4 t_LONG)))
    {t_SHORT : Tok} (q_SHORT : PySem.W.nsIn K mainGlobals "SHORT" = some (some (.int 2 t_SHORT)))
    {t_WORDS : Tok} (q_WORDS : PySem.W.nsIn K mainGlobals "WORDS" = some (some (.int 40 t_WORDS)))
    (z_abs : PySem.W.nsIn K mainGlobals "abs" = some none)
    (z_all : PySem.W.nsIn K mainGlobals "all" = some none)
    (z_bool : PySem.W.nsIn K mainGlobals "bool" = some none)
    (z_enumerate : PySem.W.nsIn K mainGlobals "enumerate" = some none)
    (z_int : PySem.W.nsIn K mainGlobals "int" = some none)
    (z_isinstance : PySem.W.nsIn K mainGlobals "isinstance" = some none)
    (z_len : PySem.W.nsIn K mainGlobals "len" = some none)
    (z_list : PySem.W.nsIn K mainGlobals "list" = some none)
    (z_range : PySem.W.nsIn K mainGlobals "range" = some none)
    (z_sorted : PySem.W.nsIn K mainGlobals "sorted" = some none)
    (z_str : PySem.W.nsIn K mainGlobals "str" = some none)
    (z_tuple : PySem.W.nsIn K mainGlobals "tuple" = some none)
    (z_zip : PySem.W.nsIn K mainGlobals "zip" = some none)
    : ∃ fd : FuncData, (∀ (s : Shared) (v : Value), BindsTo s fd ⟨[v], []⟩ [("script", v)]) ∧ ∀ base : Heap, K.In base → base.Ns mainGlobals mg → FnOk l.prog w K mg base CX0 9 fa fd ["script"] (spLaw K) := by
  have e := hfa.symm.trans (PySem.W.mg_of X G a30)
  cases e
  have F0 := fun_mk (st := s__law_cup) l0 c0 k0
  have F1 := fun_mk (st := s_is_tuple_of) l1 c1 k1
  have F2 := fun_mk (st := s_is_whole) l2 c2 k2
  have F3 := fun_mk (st := s_fits_row) l3 c3 k3
  have F4 := fun_mk (st := s_is_rising) l4 c4 k4
  have F5 := fun_mk (st := s_fits_list) l5 c5 k5
  have F6 := fun_mk (st := s_length_in) l6 c6 k6
  have F7 := fun_mk (st := s_fits_relay) l7 c7 k7
  have F8 := fun_mk (st := s_need_relay) l8 c8 k8
  have F9 := fun_mk (st := s_fits_belt) l9 c9 k9
  have F10 := fun_mk (st := s_need_belt) l10 c10 k10
  have F11 := fun_mk (st := s_are_in_turn) l11 c11 k11
  have F12 := fun_mk (st := s_pieces_in) l12 c12 k12
  have F13 := fun_mk (st := s_cuttings_in) l13 c13 k13
  have F14 := fun_mk (st := s_relay_cuttings) l14 c14 k14
  have F15 := fun_mk (st := s_relay_words) l15 c15 k15
  have F16 := fun_mk (st := s__law_same) l16 c16 k16
  have F17 := fun_mk (st := s_relay_belt) l17 c17 k17
  have F18 := fun_mk (st := s_relay_verdict) l18 c18 k18
  have F19 := fun_mk (st := s_turned_relay) l19 c19 k19
  have F20 := fun_mk (st := s_relay_list) l20 c20 k20
  have F21 := fun_mk (st := s_count_relay_rows) l21 c21 k21
  have F22 := fun_mk (st := s__law_roll) l22 c22 k22
  have F23 := fun_mk (st := s__law_some) l23 c23 k23
  have F24 := fun_mk (st := s__law_list) l24 c24 k24
  have F25 := fun_mk (st := s__law_relay) l25 c25 k25
  have F26 := fun_mk (st := s_is_relay) l26 c26 k26
  have F27 := fun_mk (st := s__law_places) l27 c27 k27
  have F28 := fun_mk (st := s__law_rounds) l28 c28 k28
  have F29 := fun_mk (st := s__law_right) l29 c29 k29
  have F30 := fun_mk (st := s_law) l30 c30 k30
  have B0 := F0.binds (ps := ["script"]) fun _ _ _ _ _ _ us hl => match us, hl with | [_], _ => rfl
  have B1 := F1.binds (ps := ["value", "low", "high"]) fun _ _ _ _ _ _ us hl => match us, hl with | [_, _, _], _ => rfl
  have B2 := F2.binds (ps := ["value", "low", "high"]) fun _ _ _ _ _ _ us hl => match us, hl with | [_, _, _], _ => rfl
  have B3 := F3.binds (ps := ["letters", "value", "low", "high"]) fun _ _ _ _ _ _ us hl => match us, hl with | [_, _, _, _], _ => rfl
  have B4 := F4.binds (ps := ["values"]) fun _ _ _ _ _ _ us hl => match us, hl with | [_], _ => rfl
  have B5 := F5.binds (ps := ["value"]) fun _ _ _ _ _ _ us hl => match us, hl with | [_], _ => rfl
  have B6 := F6.binds (ps := ["words"]) fun _ _ _ _ _ _ us hl => match us, hl with | [_], _ => rfl
  have B7 := F7.binds (ps := ["value"]) fun _ _ _ _ _ _ us hl => match us, hl with | [_], _ => rfl
  have B8 := F8.binds (ps := ["relay"]) fun _ _ _ _ _ _ us hl => match us, hl with | [_], _ => rfl
  have B9 := F9.binds (ps := ["letters", "value"]) fun _ _ _ _ _ _ us hl => match us, hl with | [_, _], _ => rfl
  have B10 := F10.binds (ps := ["relay", "belt"]) fun _ _ _ _ _ _ us hl => match us, hl with | [_, _], _ => rfl
  have B11 := F11.binds (ps := ["relay", "rows"]) fun _ _ _ _ _ _ us hl => match us, hl with | [_, _], _ => rfl
  have B12 := F12.binds (ps := ["relay", "belt", "first"]) fun _ _ _ _ _ _ us hl => match us, hl with | [_, _, _], _ => rfl
  have B13 := F13.binds (ps := ["relay", "belt"]) fun _ _ _ _ _ _ us hl => match us, hl with | [_, _], _ => rfl
  have B14 := F14.binds (ps := ["relay", "belt"]) fun _ _ _ _ _ _ us hl => match us, hl with | [_, _], _ => rfl
  have B15 := F15.binds (ps := ["relay", "belt", "first"]) fun _ _ _ _ _ _ us hl => match us, hl with | [_, _, _], _ => rfl
  have B16 := F16.binds (ps := ["told", "due"]) fun _ _ _ _ _ _ us hl => match us, hl with | [_, _], _ => rfl
  have B17 := F17.binds (ps := ["relay", "row"]) fun _ _ _ _ _ _ us hl => match us, hl with | [_, _], _ => rfl
  have B18 := F18.binds (ps := ["relay", "belt"]) fun _ _ _ _ _ _ us hl => match us, hl with | [_, _], _ => rfl
  have B19 := F19.binds (ps := ["relay", "by"]) fun _ _ _ _ _ _ us hl => match us, hl with | [_, _], _ => rfl
  have B20 := F20.binds (ps := ["relay"]) fun _ _ _ _ _ _ us hl => match us, hl with | [_], _ => rfl
  have B21 := F21.binds (ps := ["relay", "rounds"]) fun _ _ _ _ _ _ us hl => match us, hl with | [_, _], _ => rfl
  have B22 := F22.binds (ps := ["cup", "many"]) fun _ _ _ _ _ _ us hl => match us, hl with | [_, _], _ => rfl
  have B23 := F23.binds (ps := ["cup", "things"]) fun _ _ _ _ _ _ us hl => match us, hl with | [_, _], _ => rfl
  have B24 := F24.binds (ps := ["cup", "letters", "length", "many", "most"]) fun _ _ _ _ _ _ us hl => match us, hl with | [_, _, _, _, _], _ => rfl
  have B25 := F25.binds (ps := ["cup", "lists", "letters", "length", "size", "most"]) fun _ _ _ _ _ _ us hl => match us, hl with | [_, _, _, _, _, _], _ => rfl
  have B26 := F26.binds (ps := ["value"]) fun _ _ _ _ _ _ us hl => match us, hl with | [_], _ => rfl
  have B27 := F27.binds (ps := ["relay", "belt"]) fun _ _ _ _ _ _ us hl => match us, hl with | [_, _], _ => rfl
  have B28 := F28.binds (ps := ["relay"]) fun _ _ _ _ _ _ us hl => match us, hl with | [_], _ => rfl
  have B29 := F29.binds (ps := ["cup", "lists", "letters", "length", "size", "most"]) fun _ _ _ _ _ _ us hl => match us, hl with | [_, _, _, _, _, _], _ => rfl
  have B30 := F30.binds (ps := ["script"]) fun _ _ _ _ _ _ us hl => match us, hl with | [_], _ => rfl
  exact ⟨_, fun s v => .of_eq rfl, fun base _ _ => (ok_law (L := ⟨[], none⟩) ⟨f0, _, F0, B0, PySem.W.mg_of X G a0, f1, _, F1, B1, PySem.W.mg_of X G a1, f2, _, F2, B2, PySem.W.mg_of X G a2, f3, _, F3, B3, PySem.W.mg_of X G a3, f4, _, F4, B4, PySem.W.mg_of X G a4, f5, _, F5, B5, PySem.W.mg_of X G a5, f6, _, F6, B6, PySem.W.mg_of X G a6, f7, _, F7, B7, PySem.W.mg_of X G a7, f8, _, F8, B8, PySem.W.mg_of X G a8, f9, _, F9, B9, PySem.W.mg_of X G a9, f10, _, F10, B10, PySem.W.mg_of X G a10, f11, _, F11, B11, PySem.W.mg_of X G a11, f12, _, F12, B12, PySem.W.mg_of X G a12, f13, _, F13, B13, PySem.W.mg_of X G a13, f14, _, F14, B14, PySem.W.mg_of X G a14, f15, _, F15, B15, PySem.W.mg_of X G a15, f16, _, F16, B16, PySem.W.mg_of X G a16, f17, _, F17, B17, PySem.W.mg_of X G a17, f18, _, F18, B18, PySem.W.mg_of X G a18, f19, _, F19, B19, PySem.W.mg_of X G a19, f20, _, F20, B20, PySem.W.mg_of X G a20, f21, _, F21, B21, PySem.W.mg_of X G a21, f22, _, F22, B22, PySem.W.mg_of X G a22, f23, _, F23, B23, PySem.W.mg_of X G a23, f24, _, F24, B24, PySem.W.mg_of X G a24, f25, _, F25, B25, PySem.W.mg_of X G a25, f26, _, F26, B26, PySem.W.mg_of X G a26, f27, _, F27, B27, PySem.W.mg_of X G a27, f28, _, F28, B28, PySem.W.mg_of X G a28, f29, _, F29, B29, PySem.W.mg_of X G a29, fa, _, F30, B30, PySem.W.mg_of X G a30, ⟨_, PySem.W.mg_of X G q_BELT_belts, _, rfl⟩, ⟨_, PySem.W.mg_of X G q_BELT_relays, _, rfl⟩, ⟨_, PySem.W.mg_of X G q_LETTERS, _, rfl⟩, ⟨_, PySem.W.mg_of X G q_LISTS, _, rfl⟩, ⟨_, PySem.W.mg_of X G q_LONG, _, rfl⟩, ⟨_, PySem.W.mg_of X G q_SHORT, _, rfl⟩, ⟨_, PySem.W.mg_of X G q_WORDS, _, rfl⟩, PySem.W.mg_none_of X G z_abs, PySem.W.mg_none_of X G z_all, PySem.W.mg_none_of X G z_bool, PySem.W.mg_none_of X G z_enumerate, PySem.W.mg_none_of X G z_int, PySem.W.mg_none_of X G z_isinstance, PySem.W.mg_none_of X G z_len, PySem.W.mg_none_of X G z_list, PySem.W.mg_none_of X G z_range, PySem.W.mg_none_of X G z_sorted, PySem.W.mg_none_of X G z_str, PySem.W.mg_none_of X G z_tuple, PySem.W.mg_none_of X G z_zip⟩).imp (sp_law hc)⟩
end K81

open PySem PySem.W PyProof.Rows
set_option maxHeartbeats 0 in
theorem PySem.Challenge.cw_ringread_k81_whole_belts_cut_in_turn_holds : PySem.Challenge.rw_ringread_k81_whole_belts_cut_in_turn.Holds := by
  w_on; o_law; k_head; (case hw => w_witness2)
  k_fill
  refine L2.walk_of (l := PySem.Challenge.rw_ringread_k81_whole_belts_cut_in_turn) (n := 63) (k := 9) (x := "script") (CX := fun _ => L2.CX0) (sp := fun w => Eng.spLaw _) rfl (by decide) rfl ⟨rfl, by decide, by decide⟩ (fun w h Y => PySem.W.kIn_of Y) ?F (fun _ _ a ns hl _ hS => ⟨a, ns, rfl, hS, hl, fun _ => rfl⟩) (fun _ _ _ _ _ h => h)
  case F =>
    intro w mg fa h KX G hmg
    refine' K81.all_mk KX G hmg K81.law_true ?a0 ?l0 ?c0 ?k0 ?a1 ?l1 ?c1 ?k1 ?a2 ?l2 ?c2 ?k2 ?a3 ?l3 ?c3 ?k3 ?a4 ?l4 ?c4 ?k4 ?a5 ?l5 ?c5 ?k5 ?a6 ?l6 ?c6 ?k6 ?a7 ?l7 ?c7 ?k7 ?a8 ?l8 ?c8 ?k8 ?a9 ?l9 ?c9 ?k9 ?a10 ?l10 ?c10 ?k10 ?a11 ?l11 ?c11 ?k11 ?a12 ?l12 ?c12 ?k12 ?a13 ?l13 ?c13 ?k13 ?a14 ?l14 ?c14 ?k14 ?a15 ?l15 ?c15 ?k15 ?a16 ?l16 ?c16 ?k16 ?a17 ?l17 ?c17 ?k17 ?a18 ?l18 ?c18 ?k18 ?a19 ?l19 ?c19 ?k19 ?a20 ?l20 ?c20 ?k20 ?a21 ?l21 ?c21 ?k21 ?a22 ?l22 ?c22 ?k22 ?a23 ?l23 ?c23 ?k23 ?a24 ?l24 ?c24 ?k24 ?a25 ?l25 ?c25 ?k25 ?a26 ?l26 ?c26 ?k26 ?a27 ?l27 ?c27 ?k27 ?a28 ?l28 ?c28 ?k28 ?a29 ?l29 ?c29 ?k29 ?a30 ?l30 ?c30 ?k30 ?q_BELT_belts ?q_BELT_relays ?q_LETTERS ?q_LISTS ?q_LONG ?q_SHORT ?q_WORDS ?z_abs ?z_all ?z_bool ?z_enumerate ?z_int ?z_isinstance ?z_len ?z_list ?z_range ?z_sorted ?z_str ?z_tuple ?z_zip
    (case a0 => k_is); (case l0 => k_is); (case c0 => k_is); (case k0 => k_is); (case a1 => k_is); (case l1 => k_is); (case c1 => k_is); (case k1 => k_is)
    (case a2 => k_is); (case l2 => k_is); (case c2 => k_is); (case k2 => k_is); (case a3 => k_is); (case l3 => k_is); (case c3 => k_is); (case k3 => k_is)
    (case a4 => k_is); (case l4 => k_is); (case c4 => k_is); (case k4 => k_is); (case a5 => k_is); (case l5 => k_is); (case c5 => k_is); (case k5 => k_is)
    (case a6 => k_is); (case l6 => k_is); (case c6 => k_is); (case k6 => k_is); (case a7 => k_is); (case l7 => k_is); (case c7 => k_is); (case k7 => k_is)
    (case a8 => k_is); (case l8 => k_is); (case c8 => k_is); (case k8 => k_is); (case a9 => k_is); (case l9 => k_is); (case c9 => k_is); (case k9 => k_is)
    (case a10 => k_is); (case l10 => k_is); (case c10 => k_is); (case k10 => k_is); (case a11 => k_is); (case l11 => k_is); (case c11 => k_is); (case k11 => k_is)
    (case a12 => k_is); (case l12 => k_is); (case c12 => k_is); (case k12 => k_is); (case a13 => k_is); (case l13 => k_is); (case c13 => k_is); (case k13 => k_is)
    (case a14 => k_is); (case l14 => k_is); (case c14 => k_is); (case k14 => k_is); (case a15 => k_is); (case l15 => k_is); (case c15 => k_is); (case k15 => k_is)
    (case a16 => k_is); (case l16 => k_is); (case c16 => k_is); (case k16 => k_is); (case a17 => k_is); (case l17 => k_is); (case c17 => k_is); (case k17 => k_is)
    (case a18 => k_is); (case l18 => k_is); (case c18 => k_is); (case k18 => k_is); (case a19 => k_is); (case l19 => k_is); (case c19 => k_is); (case k19 => k_is)
    (case a20 => k_is); (case l20 => k_is); (case c20 => k_is); (case k20 => k_is); (case a21 => k_is); (case l21 => k_is); (case c21 => k_is); (case k21 => k_is)
    (case a22 => k_is); (case l22 => k_is); (case c22 => k_is); (case k22 => k_is); (case a23 => k_is); (case l23 => k_is); (case c23 => k_is); (case k23 => k_is)
    (case a24 => k_is); (case l24 => k_is); (case c24 => k_is); (case k24 => k_is); (case a25 => k_is); (case l25 => k_is); (case c25 => k_is); (case k25 => k_is)
    (case a26 => k_is); (case l26 => k_is); (case c26 => k_is); (case k26 => k_is); (case a27 => k_is); (case l27 => k_is); (case c27 => k_is); (case k27 => k_is)
    (case a28 => k_is); (case l28 => k_is); (case c28 => k_is); (case k28 => k_is); (case a29 => k_is); (case l29 => k_is); (case c29 => k_is); (case k29 => k_is)
    (case a30 => k_is); (case l30 => k_is); (case c30 => k_is); (case k30 => k_is); (case q_BELT_belts => k_is); (case q_BELT_relays => k_is); (case q_LETTERS => k_is); (case q_LISTS => k_is)
    (case q_LONG => k_is); (case q_SHORT => k_is); (case q_WORDS => k_is); (case z_abs => k_is); (case z_all => k_is); (case z_bool => k_is); (case z_enumerate => k_is); (case z_int => k_is)
    (case z_isinstance => k_is); (case z_len => k_is); (case z_list => k_is); (case z_range => k_is); (case z_sorted => k_is); (case z_str => k_is); (case z_tuple => k_is); (case z_zip => k_is)

