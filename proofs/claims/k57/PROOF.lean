import PyProof.Rows.All
import Wide.All
import OpenK.AllK
import Wide.FinOn
import HandS.ForMost
import HandS.ForExc
import HandS.Defaults
import HandS.CallSlots
import HandS.TryMany
import HandS.ExcInit
import HandS.ExcField
import HandS.ExcIs
import HandS.Deep
import HandS.More
import HandS.RaiseMore
import HandS.StrMore
import HandS.TupAny
import HandS.EndBits
import HandS.Comp
import HandS.IsInst
import KE.BitLaws
import PySem.Challenge.RW_farfacts_k57_disk_reads_and_flushes
set_option Elab.async false
set_option linter.all false
set_option maxRecDepth 100000
set_option maxHeartbeats 4000000
/-! DL0: data, worlds, what a state holds. -/
namespace DL
open PySem PySem.Spec PyProof.Rows L2

/-- data without addresses; obj n: the n-th object of the store -/
inductive D where
  | non | bl (b : Bool) | int (i : Int) | str (x : Str)
  | tup (l : List D) | lst (l : List D) | rol (l : List D)
  | dK (l : List (Key × D)) | dT (l : List (List Key × D))
  | ins (c : Str) (fs : List (Str × D)) | obj (n : Nat)

/-- an exception: its class, its fields (none: it keeps none of its own) -/
structure Xc where
  c : Str
  fs : Option (List (Str × D))

/-- what the store keeps -/
inductive Ob where
  | lst (l : List D) | dK (l : List (Key × D)) | dT (l : List (List Key × D)) | ins (c : Str) (fs : List (Str × D))
abbrev Sto := List Ob
/-- what a slot holds: nothing, data that nobody changes, a list (or dict) of its own, one that is locked, a parameter (its list may be looked at) -/
inductive Sl where
  | no | val (d : D) | own (d : D) | lk (d : D) | bo (d : D) | ex (x : Xc)
abbrev Rho := List Sl

/-- a tuple that stands in h, or a constant of the module -/
def TupQ (K : PySem.W.Frag) (h : Hp) (a : Addr) (vs : List V) : Prop := h a = some (.tup vs) ∨ SqT K (fun _ => none) a vs
/-- the heap at the entry; in an except suite: where the exception stands, its dict -/
structure Bs where
  h : Hp
  ex : Option (Addr × Value × Option Addr)
instance : Coe Bs Hp := ⟨Bs.h⟩
instance : CoeFun Bs fun _ => Addr → Option HO := ⟨Bs.h⟩
/-- names of the program's classes, by address -/
abbrev Ca := Str → Addr

mutual
inductive DV (K : PySem.W.Frag) (ca : Ca) (h : Hp) (ad : Nat → Option Addr) : V → D → Prop
  | non : DV K ca h ad .non .non
  | bl (b : Bool) : DV K ca h ad (.bl b) (.bl b)
  | int (i : Int) : DV K ca h ad (.int i) (.int i)
  | str (x : Str) : DV K ca h ad (.str x) (.str x)
  | tup {a : Addr} {vs : List V} {ds : List D} : TupQ K h a vs → DVs K ca h ad vs ds → DV K ca h ad (.ref a) (.tup ds)
  | lst {a : Addr} {vs : List V} {ds : List D} : h a = some (.lst vs) → DVs K ca h ad vs ds → DV K ca h ad (.ref a) (.lst ds)
  | rol {a : Addr} {vs : List V} {ds : List D} : SqL K h a vs → DVs K ca h ad vs ds → DV K ca h ad (.ref a) (.rol ds)
  | dK {a : Addr} {kvs : List (Key × V)} {es : List (Key × D)} : h a = some (.dK kvs) → DKs K ca h ad kvs es → DV K ca h ad (.ref a) (.dK es)
  | dT {a : Addr} {kvs : List (List Key × V)} {es : List (List Key × D)} : h a = some (.dT kvs) → DTs K ca h ad kvs es → DV K ca h ad (.ref a) (.dT es)
  | ins {x dx : Addr} {c : Str} {vfs : List (Str × V)} {fs : List (Str × D)} : h x = some (.ins (ca c) dx vfs) → DFs K ca h ad vfs fs → DV K ca h ad (.ref x) (.ins c fs)
  | obj {n : Nat} {a : Addr} : ad n = some a → DV K ca h ad (.ref a) (.obj n)
inductive DVs (K : PySem.W.Frag) (ca : Ca) (h : Hp) (ad : Nat → Option Addr) : List V → List D → Prop
  | nil : DVs K ca h ad [] []
  | cons {v : V} {vs : List V} {d : D} {ds : List D} : DV K ca h ad v d → DVs K ca h ad vs ds → DVs K ca h ad (v :: vs) (d :: ds)
inductive DKs (K : PySem.W.Frag) (ca : Ca) (h : Hp) (ad : Nat → Option Addr) : List (Key × V) → List (Key × D) → Prop
  | nil : DKs K ca h ad [] []
  | cons {k : Key} {v : V} {vs : List (Key × V)} {d : D} {ds : List (Key × D)} : DV K ca h ad v d → DKs K ca h ad vs ds → DKs K ca h ad ((k, v) :: vs) ((k, d) :: ds)
inductive DTs (K : PySem.W.Frag) (ca : Ca) (h : Hp) (ad : Nat → Option Addr) : List (List Key × V) → List (List Key × D) → Prop
  | nil : DTs K ca h ad [] []
  | cons {k : List Key} {v : V} {vs : List (List Key × V)} {d : D} {ds : List (List Key × D)} : DV K ca h ad v d → DTs K ca h ad vs ds → DTs K ca h ad ((k, v) :: vs) ((k, d) :: ds)
inductive DFs (K : PySem.W.Frag) (ca : Ca) (h : Hp) (ad : Nat → Option Addr) : List (Str × V) → List (Str × D) → Prop
  | nil : DFs K ca h ad [] []
  | cons {k : Str} {v : V} {vs : List (Str × V)} {d : D} {ds : List (Str × D)} : DV K ca h ad v d → DFs K ca h ad vs ds → DFs K ca h ad ((k, v) :: vs) ((k, d) :: ds)
end

section
variable {K : PySem.W.Frag} {ca : Ca} {h h' : Hp} {ad ad' : Nat → Option Addr}
theorem Same.rd {a : Addr} {u : HO} (s : Same h h') (r : Rd h a u) : Rd h' a u := by
  rcases r with r | ⟨o, r⟩
  · exact .inl (s _ _ r)
  · exact .inr ⟨o, s _ _ r⟩
theorem Same.tupq {a : Addr} {xs : List V} (s : Same h h') (r : SqT K h a xs) : SqT K h' a xs := by
  rcases r with r | r
  · exact .inl (Same.rd s r)
  · exact .inr r
theorem Same.lstq {a : Addr} {xs : List V} (s : Same h h') (r : SqL K h a xs) : SqL K h' a xs := by
  rcases r with r | r
  · exact .inl (Same.rd s r)
  · exact .inr r
theorem Same.tupQ {a : Addr} {xs : List V} (s : Same h h') (r : TupQ K h a xs) : TupQ K h' a xs := by
  rcases r with r | r
  · exact .inl (s _ _ r)
  · exact .inr r
theorem TupQ.sq {a : Addr} {xs : List V} (r : TupQ K h a xs) : SqT K h a xs := by
  rcases r with r | r
  · exact .inl (.inl r)
  · exact Same.tupq (fun _ _ e => by cases e) r
mutual
theorem DV.mono (s : Same h h') (m : ∀ n a, ad n = some a → ad' n = some a) : ∀ {v : V} {d : D}, DV K ca h ad v d → DV K ca h' ad' v d
  | _, _, .non => .non
  | _, _, .bl b => .bl b
  | _, _, .int i => .int i
  | _, _, .str x => .str x
  | _, _, .tup q r => .tup (Same.tupQ s q) (DVs.mono s m r)
  | _, _, .lst q r => .lst (s _ _ q) (DVs.mono s m r)
  | _, _, .rol q r => .rol (Same.lstq s q) (DVs.mono s m r)
  | _, _, .dK q r => .dK (s _ _ q) (DKs.mono s m r)
  | _, _, .dT q r => .dT (s _ _ q) (DTs.mono s m r)
  | _, _, .ins q r => .ins (s _ _ q) (DFs.mono s m r)
  | _, _, .obj q => .obj (m _ _ q)
theorem DVs.mono (s : Same h h') (m : ∀ n a, ad n = some a → ad' n = some a) : ∀ {vs : List V} {ds : List D}, DVs K ca h ad vs ds → DVs K ca h' ad' vs ds
  | _, _, .nil => .nil
  | _, _, .cons q r => .cons (DV.mono s m q) (DVs.mono s m r)
theorem DKs.mono (s : Same h h') (m : ∀ n a, ad n = some a → ad' n = some a) : ∀ {vs : List (Key × V)} {ds : List (Key × D)}, DKs K ca h ad vs ds → DKs K ca h' ad' vs ds
  | _, _, .nil => .nil
  | _, _, .cons q r => .cons (DV.mono s m q) (DKs.mono s m r)
theorem DTs.mono (s : Same h h') (m : ∀ n a, ad n = some a → ad' n = some a) : ∀ {vs : List (List Key × V)} {ds : List (List Key × D)}, DTs K ca h ad vs ds → DTs K ca h' ad' vs ds
  | _, _, .nil => .nil
  | _, _, .cons q r => .cons (DV.mono s m q) (DTs.mono s m r)
theorem DFs.mono (s : Same h h') (m : ∀ n a, ad n = some a → ad' n = some a) : ∀ {vs : List (Str × V)} {ds : List (Str × D)}, DFs K ca h ad vs ds → DFs K ca h' ad' vs ds
  | _, _, .nil => .nil
  | _, _, .cons q r => .cons (DV.mono s m q) (DFs.mono s m r)
end
theorem DVs.length : ∀ {vs : List V} {ds : List D}, DVs K ca h ad vs ds → vs.length = ds.length
  | _, _, .nil => rfl
  | _, _, .cons _ r => congrArg (· + 1) (DVs.length r)
theorem DVs.get : ∀ {vs : List V} {ds : List D} {i : Nat} {d : D}, DVs K ca h ad vs ds → ds[i]? = some d → ∃ v, vs[i]? = some v ∧ DV K ca h ad v d
  | _, _, i, d, .nil, e => by simp at e
  | _, _, 0, d, .cons q r, e => ⟨_, rfl, by simp at e; subst e; exact q⟩
  | _, _, i + 1, d, .cons q r, e => by
    obtain ⟨v, h1, h2⟩ := DVs.get (i := i) r (by simpa using e)
    exact ⟨v, by simpa using h1, h2⟩
theorem DVs.getV : ∀ {vs : List V} {ds : List D} {i : Nat} {v : V}, DVs K ca h ad vs ds → vs[i]? = some v → ∃ d, ds[i]? = some d ∧ DV K ca h ad v d
  | _, _, i, d, .nil, e => by simp at e
  | _, _, 0, d, .cons q r, e => ⟨_, rfl, by simp at e; subst e; exact q⟩
  | _, _, i + 1, d, .cons q r, e => by
    obtain ⟨v, h1, h2⟩ := DVs.getV (i := i) r (by simpa using e)
    exact ⟨v, by simpa using h1, h2⟩
theorem DVs.app : ∀ {vs ws : List V} {ds es : List D}, DVs K ca h ad vs ds → DVs K ca h ad ws es → DVs K ca h ad (vs ++ ws) (ds ++ es)
  | _, _, _, _, .nil, s => s
  | _, _, _, _, .cons q r, s => .cons q (DVs.app r s)
theorem DVs.take : ∀ {vs : List V} {ds : List D} (n : Nat), DVs K ca h ad vs ds → DVs K ca h ad (vs.take n) (ds.take n)
  | _, _, 0, _ => .nil
  | _, _, _ + 1, .nil => .nil
  | _, _, n + 1, .cons q r => .cons q (DVs.take n r)
theorem DVs.drop : ∀ {vs : List V} {ds : List D} (n : Nat), DVs K ca h ad vs ds → DVs K ca h ad (vs.drop n) (ds.drop n)
  | _, _, 0, r => r
  | _, _, _ + 1, .nil => .nil
  | _, _, n + 1, .cons _ r => DVs.drop n r
theorem DVs.set {v : V} {d : D} (q : DV K ca h ad v d) : ∀ {vs : List V} {ds : List D} (n : Nat), DVs K ca h ad vs ds → DVs K ca h ad (vs.set n v) (ds.set n d)
  | _, _, _, .nil => .nil
  | _, _, 0, .cons _ r => .cons q r
  | _, _, n + 1, .cons p r => .cons p (DVs.set q n r)
theorem DVs.erase : ∀ {vs : List V} {ds : List D} (n : Nat), DVs K ca h ad vs ds → DVs K ca h ad (vs.eraseIdx n) (ds.eraseIdx n)
  | _, _, _, .nil => .nil
  | _, _, 0, .cons _ r => r
  | _, _, n + 1, .cons p r => .cons p (DVs.erase n r)
theorem DVs.dropLast {vs : List V} {ds : List D} (q : DVs K ca h ad vs ds) : DVs K ca h ad vs.dropLast ds.dropLast := by
  rw [List.dropLast_eq_take, List.dropLast_eq_take, q.length]
  exact q.take _
theorem DVs.rep {vs : List V} {ds : List D} (q : DVs K ca h ad vs ds) : ∀ k : Nat, DVs K ca h ad (List.replicate k vs).flatten (List.replicate k ds).flatten
  | 0 => .nil
  | k + 1 => by
    rw [List.replicate_succ, List.replicate_succ, List.flatten_cons, List.flatten_cons]
    exact q.app (DVs.rep q k)
/-- facts of inversion -/
theorem DV.ofNon {v : V} (q : DV K ca h ad v .non) : v = .non := by cases q; rfl
theorem DV.ofBl {v : V} {b : Bool} (q : DV K ca h ad v (.bl b)) : v = .bl b := by cases q; rfl
theorem DV.ofInt {v : V} {i : Int} (q : DV K ca h ad v (.int i)) : v = .int i := by cases q; rfl
theorem DV.ofStr {v : V} {x : Str} (q : DV K ca h ad v (.str x)) : v = .str x := by cases q; rfl
theorem DV.ofTup {v : V} {ds : List D} (q : DV K ca h ad v (.tup ds)) : ∃ a vs, v = .ref a ∧ TupQ K h a vs ∧ DVs K ca h ad vs ds := by
  cases q with
  | tup q r => exact ⟨_, _, rfl, q, r⟩
theorem DV.ofLst {v : V} {ds : List D} (q : DV K ca h ad v (.lst ds)) : ∃ a vs, v = .ref a ∧ h a = some (.lst vs) ∧ DVs K ca h ad vs ds := by
  cases q with
  | lst q r => exact ⟨_, _, rfl, q, r⟩
theorem DV.ofRol {v : V} {ds : List D} (q : DV K ca h ad v (.rol ds)) : ∃ a vs, v = .ref a ∧ SqL K h a vs ∧ DVs K ca h ad vs ds := by
  cases q with
  | rol q r => exact ⟨_, _, rfl, q, r⟩
theorem DV.ofObj {v : V} {n : Nat} (q : DV K ca h ad v (.obj n)) : ∃ a, v = .ref a ∧ ad n = some a := by
  cases q with
  | obj q => exact ⟨_, rfl, q⟩
theorem DV.ofIns {v : V} {c : Str} {fs : List (Str × D)} (q : DV K ca h ad v (.ins c fs)) : ∃ x dx vfs, v = .ref x ∧ h x = some (.ins (ca c) dx vfs) ∧ DFs K ca h ad vfs fs := by
  cases q with
  | ins q r => exact ⟨_, _, _, rfl, q, r⟩
theorem DV.ofDK {v : V} {es : List (Key × D)} (q : DV K ca h ad v (.dK es)) : ∃ a kvs, v = .ref a ∧ h a = some (.dK kvs) ∧ DKs K ca h ad kvs es := by
  cases q with
  | dK q r => exact ⟨_, _, rfl, q, r⟩
theorem DV.ofDT {v : V} {es : List (List Key × D)} (q : DV K ca h ad v (.dT es)) : ∃ a kvs, v = .ref a ∧ h a = some (.dT kvs) ∧ DTs K ca h ad kvs es := by
  cases q with
  | dT q r => exact ⟨_, _, rfl, q, r⟩
theorem DVs.ints : ∀ (ns : List Int), DVs K ca h ad (ns.map V.int) (ns.map D.int)
  | [] => .nil
  | n :: r => .cons (.int n) (DVs.ints r)
end

/-! ### worlds -/
inductive Own where
  | slot (i : Nat) | lk (i : Nat) | ob (n : Nat)
  deriving DecidableEq
/-- hf: what is never changed any more; ow: who owns what; ad: where the objects of the store stand -/
structure Wd where
  hf : Hp
  ow : Addr → Option Own
  ad : Nat → Option Addr
/-- not an object's -/
def calmO : Option Own → Bool
  | some (.ob _) => false
  | _ => true
/-- neither an object's nor a slot's -/
def calmS : Option Own → Bool
  | some (.ob _) => false
  | some (.slot _) => false
  | _ => true
theorem calmS_O {o : Option Own} (h : calmS o = true) : calmO o = true := by
  cases o with
  | none => rfl
  | some p => cases p <;> first | rfl | cases h

structure WOk (W : Wd) (H : Hp) : Prop where
  sub : Same W.hf H
  tup : ∀ a xs, H a = some (.tup xs) → W.hf a = some (.tup xs)
  dis : ∀ a p, W.ow a = some p → W.hf a = none
  dom : ∀ a p, W.ow a = some p → ∃ o, H a = some o

section
variable (K : PySem.W.Frag) (ca : Ca)
/-- a list or a dict that stands at a as it is told -/
def Cont (W : Wd) (H : Hp) (a : Addr) : D → Prop
  | .lst ds => ∃ vs, H a = some (.lst vs) ∧ DVs K ca W.hf W.ad vs ds
  | .dK es => ∃ kvs, H a = some (.dK kvs) ∧ DKs K ca W.hf W.ad kvs es
  | .dT es => ∃ kvs, H a = some (.dT kvs) ∧ DTs K ca W.hf W.ad kvs es
  | _ => False
/-- what was handed in: it stood at the entry -/
def Bo (H0 : Hp) (W : Wd) (H : Hp) (v : V) : D → Prop
  | .lst ds => ∃ a vs, v = .ref a ∧ H a = some (.lst vs) ∧ calmS (W.ow a) = true ∧ (∃ o, H0 a = some o) ∧ DVs K ca W.hf W.ad vs ds
  | .dK es => ∃ a kvs, v = .ref a ∧ H a = some (.dK kvs) ∧ calmS (W.ow a) = true ∧ (∃ o, H0 a = some o) ∧ DKs K ca W.hf W.ad kvs es
  | .dT es => ∃ a kvs, v = .ref a ∧ H a = some (.dT kvs) ∧ calmS (W.ow a) = true ∧ (∃ o, H0 a = some o) ∧ DTs K ca W.hf W.ad kvs es
  | d => DV K ca W.hf W.ad v d
/-- the exception x: its class, its dict's address -/
def XV (W : Wd) (H : Hp) (cls : Value) (od : Option Addr) (x : Xc) : Prop :=
  cls = .ref (ca x.c) ∧ match x.fs with
    | none => od = none
    | some fs => ∃ d vfs, od = some d ∧ W.hf d = some (.xd vfs) ∧ DFs K ca W.hf W.ad vfs fs
def SlotOk (H0 : Bs) (W : Wd) (H : Hp) (i : Nat) (v : Option V) : Sl → Prop
  | .no => True
  | .val d => ∃ u, v = some u ∧ DV K ca W.hf W.ad u d
  | .own d => ∃ a, v = some (.ref a) ∧ W.ow a = some (.slot i) ∧ H0 a = none ∧ Cont K ca W H a d
  | .lk d => ∃ a, v = some (.ref a) ∧ W.ow a = some (.lk i) ∧ H0 a = none ∧ Cont K ca W H a d
  | .bo d => ∃ u, v = some u ∧ Bo K ca H0 W H u d
  | .ex x => ∃ a od cls, v = some (.ref a) ∧ H0.ex = some (a, cls, od) ∧ XV K ca W H cls od x
def ObOk (W : Wd) (H : Hp) (a : Addr) : Ob → Prop
  | .lst ds => ∃ vs, H a = some (.lst vs) ∧ DVs K ca W.hf W.ad vs ds
  | .dK es => ∃ kvs, H a = some (.dK kvs) ∧ DKs K ca W.hf W.ad kvs es
  | .dT es => ∃ kvs, H a = some (.dT kvs) ∧ DTs K ca W.hf W.ad kvs es
  | .ins c fs => ∃ dx vfs, H a = some (.ins (ca c) dx vfs) ∧ DFs K ca W.hf W.ad vfs fs
structure RepS (W : Wd) (H : Hp) (S : Sto) : Prop where
  at_ : ∀ n ob, S[n]? = some ob → ∃ a, W.ad n = some a ∧ W.ow a = some (.ob n) ∧ ObOk K ca W H a ob
  fin : ∀ n, S.length ≤ n → W.ad n = none
structure Rep (H0 : Bs) (W : Wd) (H : Hp) (σ : L2.St) (ρ : Rho) (S : Sto) : Prop where
  w : WOk W H
  s : RepS K ca W H S
  len : σ.length = ρ.length
  sl : ∀ i x, ρ[i]? = some x → ∃ v, σ[i]? = some v ∧ SlotOk K ca H0 W H i v x
  h0 : ∀ a o, H0 a = some o → ∃ o', H a = some o'
end

/-- what stays: of what is not owned by others (st); what is new among the frozen is new over Hn -/
structure FutG (st : Option Own → Bool) (Hn : Hp) (W : Wd) (H : Hp) (W' : Wd) (H' : Hp) : Prop where
  hf : Same W.hf W'.hf
  ad : ∀ n a, W.ad n = some a → W'.ad n = some a
  keep : ∀ a o, H a = some o → st (W.ow a) = true → H' a = some o ∧ W'.ow a = W.ow a
  new : ∀ a o, W'.hf a = some o → W.hf a = none → Hn a = none
  dom : ∀ a o, H a = some o → ∃ o', H' a = some o'
abbrev Fut (W : Wd) (H : Hp) (W' : Wd) (H' : Hp) : Prop := FutG calmO H W H W' H'
abbrev FutS (H0 : Bs) (W : Wd) (H : Hp) (W' : Wd) (H' : Hp) : Prop := FutG calmS H0.h W H W' H'
theorem FutG.refl {st : Option Own → Bool} {Hn : Hp} (W : Wd) (H : Hp) : FutG st Hn W H W H :=
  ⟨Same.refl _, fun _ _ h => h, fun _ _ h _ => ⟨h, rfl⟩, fun a o h1 h2 => (by rw [h1] at h2; cases h2), fun a o h => ⟨o, h⟩⟩
theorem FutG.trans {st : Option Own → Bool} {Hn : Hp} {W W1 W2 : Wd} {H H1 H2 : Hp} (a : FutG st Hn W H W1 H1) (b : FutG st Hn W1 H1 W2 H2) : FutG st Hn W H W2 H2 where
  hf := a.hf.trans b.hf
  ad := fun n x h => b.ad n x (a.ad n x h)
  keep := fun x o h hn => by
    obtain ⟨h1, e1⟩ := a.keep x o h hn
    obtain ⟨h2, e2⟩ := b.keep x o h1 (by rw [e1]; exact hn)
    exact ⟨h2, e2.trans e1⟩
  new := fun x o h hn => by
    cases e : W1.hf x with
    | some u => exact a.new x u e hn
    | none => exact b.new x o h e
  dom := fun x o h => by
    obtain ⟨o', e⟩ := a.dom x o h
    exact b.dom x o' e
theorem none_of_dom {H H1 : Hp} (d : ∀ a o, H a = some o → ∃ o', H1 a = some o') {a : Addr} (h : H1 a = none) : H a = none := by
  cases q : H a with
  | none => rfl
  | some o =>
    obtain ⟨o', e⟩ := d a o q
    rw [h] at e; cases e
/-- the base may be older -/
theorem FutG.old {st : Option Own → Bool} {Hn Hm : Hp} {W W' : Wd} {H H' : Hp} (f : FutG st Hn W H W' H') (d : ∀ a o, Hm a = some o → ∃ o', Hn a = some o') : FutG st Hm W H W' H' :=
  ⟨f.hf, f.ad, f.keep, fun a o h1 h2 => none_of_dom d (f.new a o h1 h2), f.dom⟩
theorem Fut.trans' {W W1 W2 : Wd} {H H1 H2 : Hp} (a : Fut W H W1 H1) (b : Fut W1 H1 W2 H2) : Fut W H W2 H2 := FutG.trans a (b.old a.dom)
theorem FutG.st {Hn : Hp} {W W' : Wd} {H H' : Hp} (f : FutG calmO Hn W H W' H') : FutG calmS Hn W H W' H' :=
  ⟨f.hf, f.ad, fun a o h1 h2 => f.keep a o h1 (calmS_O h2), f.new, f.dom⟩
theorem Fut.s {H0 : Bs} {W W' : Wd} {H H' : Hp} (f : Fut W H W' H') (d : ∀ a o, H0 a = some o → ∃ o', H a = some o') : FutS H0 W H W' H' := (FutG.old f d).st

section
variable {K : PySem.W.Frag} {ca : Ca} {H0 : Bs} {H H' : Hp} {W W' : Wd} {σ : L2.St} {ρ : Rho} {S : Sto} {a : Addr} {d : D} {o : HO}
theorem WOk.free (w : WOk W H) (h : H a = none) : W.hf a = none ∧ W.ow a = none := by
  constructor
  · cases e : W.hf a with
    | none => rfl
    | some o =>
      have := w.sub a o e
      rw [h] at this; cases this
  · cases e : W.ow a with
    | none => rfl
    | some p =>
      obtain ⟨o, e'⟩ := w.dom a p e
      rw [h] at e'; cases e'
theorem Cont.mono (c : Cont K ca W H a d) (e : ∀ o, H a = some o → H' a = some o) (f : Same W.hf W'.hf) (m : ∀ n x, W.ad n = some x → W'.ad n = some x) : Cont K ca W' H' a d := by
  cases d with
  | lst ds => obtain ⟨vs, h, q⟩ := c; exact ⟨vs, e _ h, q.mono f m⟩
  | dK ds => obtain ⟨vs, h, q⟩ := c; exact ⟨vs, e _ h, q.mono f m⟩
  | dT ds => obtain ⟨vs, h, q⟩ := c; exact ⟨vs, e _ h, q.mono f m⟩
  | _ => exact c
theorem ObOk.mono {ob : Ob} (c : ObOk K ca W H a ob) (e : ∀ o, H a = some o → H' a = some o) (f : Same W.hf W'.hf) (m : ∀ n x, W.ad n = some x → W'.ad n = some x) : ObOk K ca W' H' a ob := by
  cases ob with
  | lst ds => obtain ⟨vs, h, q⟩ := c; exact ⟨vs, e _ h, q.mono f m⟩
  | dK ds => obtain ⟨vs, h, q⟩ := c; exact ⟨vs, e _ h, q.mono f m⟩
  | dT ds => obtain ⟨vs, h, q⟩ := c; exact ⟨vs, e _ h, q.mono f m⟩
  | ins c' fs => obtain ⟨dx, vs, h, q⟩ := c; exact ⟨dx, vs, e _ h, q.mono f m⟩
theorem Cont.some (c : Cont K ca W H a d) : ∃ o, H a = some o := by
  cases d with
  | lst ds => obtain ⟨vs, h, q⟩ := c; exact ⟨_, h⟩
  | dK ds => obtain ⟨vs, h, q⟩ := c; exact ⟨_, h⟩
  | dT ds => obtain ⟨vs, h, q⟩ := c; exact ⟨_, h⟩
  | _ => exact c.elim
theorem XV.mono {cls : Value} {od : Option Addr} {x : Xc} (c : XV K ca W H cls od x) (f : Same W.hf W'.hf) (m : ∀ n y, W.ad n = some y → W'.ad n = some y) : XV K ca W' H' cls od x := by
  obtain ⟨h1, h2⟩ := c
  refine ⟨h1, ?_⟩
  cases e : x.fs with
  | none => rw [e] at h2; exact h2
  | some fs => rw [e] at h2; obtain ⟨d, vfs, h3, h4, h5⟩ := h2; exact ⟨d, vfs, h3, f _ _ h4, h5.mono f m⟩
theorem Bo.mono {H0 : Hp} {v : V} (c : Bo K ca H0 W H v d) (f : Same W.hf W'.hf) (m : ∀ n y, W.ad n = some y → W'.ad n = some y)
    (k : ∀ b o, H b = some o → calmS (W.ow b) = true → (∃ o, H0 b = some o) → H' b = some o ∧ W'.ow b = W.ow b) : Bo K ca H0 W' H' v d := by
  cases d with
  | lst l => obtain ⟨a, vs, e, h1, h2, h3, q⟩ := c; obtain ⟨k1, k2⟩ := k a _ h1 h2 h3; exact ⟨a, vs, e, k1, by rw [k2]; exact h2, h3, q.mono f m⟩
  | dK l => obtain ⟨a, vs, e, h1, h2, h3, q⟩ := c; obtain ⟨k1, k2⟩ := k a _ h1 h2 h3; exact ⟨a, vs, e, k1, by rw [k2]; exact h2, h3, q.mono f m⟩
  | dT l => obtain ⟨a, vs, e, h1, h2, h3, q⟩ := c; obtain ⟨k1, k2⟩ := k a _ h1 h2 h3; exact ⟨a, vs, e, k1, by rw [k2]; exact h2, h3, q.mono f m⟩
  | _ => exact DV.mono f m c
/-- a slot that no one else has touched -/
theorem SlotOk.mono {i : Nat} {v : Option V} {x : Sl} (c : SlotOk K ca H0 W H i v x) (f : Same W.hf W'.hf) (m : ∀ n y, W.ad n = some y → W'.ad n = some y)
    (k : ∀ b o, H b = some o → (W.ow b = some (.slot i) ∨ W.ow b = some (.lk i) ∨ (calmS (W.ow b) = true ∧ ∃ o, H0 b = some o)) → H' b = some o ∧ W'.ow b = W.ow b) : SlotOk K ca H0 W' H' i v x := by
  cases x with
  | no => trivial
  | val d => obtain ⟨u, e, q⟩ := c; exact ⟨u, e, q.mono f m⟩
  | own d =>
    obtain ⟨a, e, w, z, q⟩ := c
    obtain ⟨o, ho⟩ := q.some
    exact ⟨a, e, (k a o ho (.inl w)).2.trans w, z, q.mono (fun o h => (k a o h (.inl w)).1) f m⟩
  | lk d =>
    obtain ⟨a, e, w, z, q⟩ := c
    obtain ⟨o, ho⟩ := q.some
    exact ⟨a, e, (k a o ho (.inr (.inl w))).2.trans w, z, q.mono (fun o h => (k a o h (.inr (.inl w))).1) f m⟩
  | bo d => obtain ⟨u, e, q⟩ := c; exact ⟨u, e, q.mono f m fun b o h h1 h2 => k b o h (.inr (.inr ⟨h1, h2⟩))⟩
  | ex x => obtain ⟨a, od, cls, e, h, q⟩ := c; exact ⟨a, od, cls, e, h, q.mono f m⟩

/-- a new object at p, of no one's as yet -/
theorem Rep.laid {p : Addr} (R : Rep K ca H0 W H σ ρ S) (hp : H p = none) (ht : ∀ xs, o ≠ .tup xs) : Rep K ca H0 W (upd H p o) σ ρ S := by
  have s : Same H (upd H p o) := fun b x e => by rw [upd_ne (ne_of_none e hp)]; exact e
  obtain ⟨f1, f2⟩ := R.w.free hp
  refine ⟨⟨R.w.sub.trans s, fun a xs e => ?_, R.w.dis, fun a q e => ?_⟩, ⟨fun n ob e => ?_, R.s.fin⟩, R.len, fun i x e => ?_, fun a x e => ?_⟩
  · by_cases h : a = p
    · subst h; rw [upd_same] at e; cases e; exact absurd rfl (ht xs)
    · rw [upd_ne h] at e; exact R.w.tup a xs e
  · obtain ⟨o', h⟩ := R.w.dom a q e
    exact ⟨o', s _ _ h⟩
  · obtain ⟨a, h1, h2, h3⟩ := R.s.at_ n ob e
    exact ⟨a, h1, h2, h3.mono (fun _ h => s _ _ h) (Same.refl _) fun _ _ h => h⟩
  · obtain ⟨v, h1, h2⟩ := R.sl i x e
    exact ⟨v, h1, h2.mono (Same.refl _) (fun _ _ h => h) fun b o h _ => ⟨s _ _ h, rfl⟩⟩
  · obtain ⟨o', h⟩ := R.h0 a x e
    exact ⟨o', s _ _ h⟩
theorem Fut.laid {p : Addr} (w : WOk W H) (hp : H p = none) : Fut W H W (upd H p o) := by
  have s : Same H (upd H p o) := fun b x e => by rw [upd_ne (ne_of_none e hp)]; exact e
  exact ⟨Same.refl _, fun _ _ h => h, fun a o h _ => ⟨s _ _ h, rfl⟩, fun a o h1 h2 => (by rw [h1] at h2; cases h2), fun a o h => ⟨o, s _ _ h⟩⟩
/-- what stands at a, of no one's, is frozen -/
def Wd.fz (W : Wd) (a : Addr) (o : HO) : Wd := { W with hf := upd W.hf a o }
theorem same_upd {H : Hp} {p : Addr} {o : HO} (h : H p = none) : Same H (upd H p o) := fun b x e => by rw [upd_ne (ne_of_none e h)]; exact e
theorem Rep.fz (R : Rep K ca H0 W H σ ρ S) (ha : H a = some o) (hn : W.hf a = none) (ho : W.ow a = none) : Rep K ca H0 (W.fz a o) H σ ρ S := by
  have s : Same W.hf (upd W.hf a o) := same_upd hn
  refine ⟨⟨fun b x e => ?_, fun b xs e => ?_, fun b q e => ?_, R.w.dom⟩, ⟨fun n ob e => ?_, R.s.fin⟩, R.len, fun i x e => ?_, R.h0⟩
  · by_cases h : b = a
    · subst h
      have e' : upd W.hf b o b = some x := e
      rw [upd_same] at e'; cases e'; exact ha
    · have e' : upd W.hf a o b = some x := e
      rw [upd_ne h] at e'; exact R.w.sub b x e'
  · exact s _ _ (R.w.tup b xs e)
  · show upd W.hf a o b = none
    have hb : b ≠ a := fun h => by subst h; rw [show (W.fz b o).ow b = W.ow b from rfl, ho] at e; cases e
    rw [upd_ne hb]; exact R.w.dis b q e
  · obtain ⟨x, h1, h2, h3⟩ := R.s.at_ n ob e
    exact ⟨x, h1, h2, h3.mono (fun _ h => h) s fun _ _ h => h⟩
  · obtain ⟨v, h1, h2⟩ := R.sl i x e
    exact ⟨v, h1, h2.mono s (fun _ _ h => h) fun b o h _ => ⟨h, rfl⟩⟩
theorem FutG.fz {st : Option Own → Bool} {Hn : Hp} (hn : W.hf a = none) (hN : Hn a = none) : FutG st Hn W H (W.fz a o) H where
  hf := same_upd hn
  ad := fun _ _ h => h
  keep := fun _ _ h _ => ⟨h, rfl⟩
  new := fun b x h1 h2 => by
    by_cases h : b = a
    · rw [h]; exact hN
    · have h1' : upd W.hf a o b = some x := h1
      rw [upd_ne h] at h1'
      rw [h1'] at h2
      cases h2
  dom := fun a o h => ⟨o, h⟩
/-- a new object, frozen from the beginning (a tuple always) -/
theorem Rep.new {p : Addr} (R : Rep K ca H0 W H σ ρ S) (hp : H p = none) : Rep K ca H0 (W.fz p o) (upd H p o) σ ρ S := by
  have s : Same H (upd H p o) := same_upd hp
  obtain ⟨f1, f2⟩ := R.w.free hp
  have t : Same W.hf (upd W.hf p o) := same_upd f1
  refine ⟨⟨fun b x e => ?_, fun b xs e => ?_, fun b q e => ?_, fun b q e => ?_⟩, ⟨fun n ob e => ?_, R.s.fin⟩, R.len, fun i x e => ?_, fun a x e => ?_⟩
  · have e' : upd W.hf p o b = some x := e
    by_cases h : b = p
    · subst h; rw [upd_same] at e'; cases e'; exact upd_same
    · rw [upd_ne h] at e' ⊢; exact R.w.sub b x e'
  · show upd W.hf p o b = some (.tup xs)
    by_cases h : b = p
    · subst h; rw [upd_same] at e ⊢; exact e
    · rw [upd_ne h] at e ⊢; exact R.w.tup b xs e
  · show upd W.hf p o b = none
    have hb : b ≠ p := fun h => by subst h; rw [show (W.fz b o).ow b = W.ow b from rfl, f2] at e; cases e
    rw [upd_ne hb]; exact R.w.dis b q e
  · obtain ⟨o', h⟩ := R.w.dom b q e
    exact ⟨o', s _ _ h⟩
  · obtain ⟨x, h1, h2, h3⟩ := R.s.at_ n ob e
    exact ⟨x, h1, h2, h3.mono (fun _ h => s _ _ h) t fun _ _ h => h⟩
  · obtain ⟨v, h1, h2⟩ := R.sl i x e
    exact ⟨v, h1, h2.mono t (fun _ _ h => h) fun b o h _ => ⟨s _ _ h, rfl⟩⟩
  · obtain ⟨o', h⟩ := R.h0 a x e
    exact ⟨o', s _ _ h⟩
theorem Fut.new {p : Addr} (w : WOk W H) (hp : H p = none) : Fut W H (W.fz p o) (upd H p o) where
  hf := same_upd (w.free hp).1
  ad := fun _ _ h => h
  keep := fun a x h _ => ⟨same_upd hp a x h, rfl⟩
  new := fun b x h1 h2 => by
    by_cases h : b = p
    · rw [h]; exact hp
    · have h1' : upd W.hf p o b = some x := h1
      rw [upd_ne h] at h1'
      rw [h1'] at h2
      cases h2
  dom := fun a x h => ⟨x, same_upd hp a x h⟩
end
end DL

/-! DL1: outcomes, the judgements, simple expressions. -/
namespace DL
open PySem PySem.Spec PyProof.Rows L2

/-- a choice that the kernel never computes -/
noncomputable def cif {α : Type} (p : Prop) (a b : α) : α := @ite α p (Classical.propDecidable p) a b
theorem cif_pos {α : Type} {p : Prop} {a b : α} (h : p) : cif p a b = a := @if_pos p (Classical.propDecidable p) h α a b
theorem cif_neg {α : Type} {p : Prop} {a b : α} (h : ¬ p) : cif p a b = b := @if_neg p (Classical.propDecidable p) h α a b

noncomputable def cdec (p : Prop) : Bool := @decide p (Classical.propDecidable p)
theorem cdec_iff {p : Prop} : cdec p = true ↔ p := @decide_eq_true_iff p (Classical.propDecidable p)
theorem cdec_t {p : Prop} (h : p) : cdec p = true := cdec_iff.mpr h

abbrev Res (α : Type) := Option (Except Xc α × Sto)
abbrev M (α : Type) := Sto → Res α
def mp {α : Type} (a : α) : M α := fun S => some (.ok a, S)
def mf {α : Type} : M α := fun _ => none
def mo {α : Type} : Option α → M α
  | none => mf
  | some a => mp a
def mb {α β : Type} (x : M α) (k : α → M β) : M β := fun S => match x S with
  | none => none
  | some (.error e, S') => some (.error e, S')
  | some (.ok a, S') => k a S'
abbrev SE := Rho → M D
abbrev ST := Rho → M Bool
abbrev SA := Rho → M (List D)

/-- how far a value may be kept: for ever, while nothing is assigned, it is new -/
inductive Md where
  | frz | bor | fre | sta
  deriving DecidableEq

section
variable (K : PySem.W.Frag) (ca : Ca)
def DR (m : Md) (H : Hp) (W' : Wd) (H' : Hp) (v : V) (d : D) : Prop :=
  match m with
  | .frz => DV K ca W'.hf W'.ad v d
  | .bor => match d with
    | .lst ds => ∃ a vs, v = .ref a ∧ H' a = some (.lst vs) ∧ calmO (W'.ow a) = true ∧ DVs K ca W'.hf W'.ad vs ds
    | .dK es => ∃ a kvs, v = .ref a ∧ H' a = some (.dK kvs) ∧ calmO (W'.ow a) = true ∧ DKs K ca W'.hf W'.ad kvs es
    | .dT es => ∃ a kvs, v = .ref a ∧ H' a = some (.dT kvs) ∧ calmO (W'.ow a) = true ∧ DTs K ca W'.hf W'.ad kvs es
    | d => DV K ca W'.hf W'.ad v d
  | .sta => match d with
    | .lst ds => ∃ a vs, v = .ref a ∧ H' a = some (.lst vs) ∧ calmS (W'.ow a) = true ∧ DVs K ca W'.hf W'.ad vs ds
    | .dK es => ∃ a kvs, v = .ref a ∧ H' a = some (.dK kvs) ∧ calmS (W'.ow a) = true ∧ DKs K ca W'.hf W'.ad kvs es
    | .dT es => ∃ a kvs, v = .ref a ∧ H' a = some (.dT kvs) ∧ calmS (W'.ow a) = true ∧ DTs K ca W'.hf W'.ad kvs es
    | d => DV K ca W'.hf W'.ad v d
  | .fre => match d with
    | .lst ds => ∃ a vs, v = .ref a ∧ H a = none ∧ W'.hf a = none ∧ W'.ow a = none ∧ H' a = some (.lst vs) ∧ DVs K ca W'.hf W'.ad vs ds
    | .dK es => ∃ a kvs, v = .ref a ∧ H a = none ∧ W'.hf a = none ∧ W'.ow a = none ∧ H' a = some (.dK kvs) ∧ DKs K ca W'.hf W'.ad kvs es
    | .dT es => ∃ a kvs, v = .ref a ∧ H a = none ∧ W'.hf a = none ∧ W'.ow a = none ∧ H' a = some (.dT kvs) ∧ DTs K ca W'.hf W'.ad kvs es
    | d => DV K ca W'.hf W'.ad v d
/-- a value as it stands now: lists of the store are looked at -/
def CV (W : Wd) (H : Hp) (v : V) (d : D) : Prop :=
  match d with
  | .lst ds => ∃ a vs, v = .ref a ∧ H a = some (.lst vs) ∧ DVs K ca W.hf W.ad vs ds
  | .dK es => ∃ a kvs, v = .ref a ∧ H a = some (.dK kvs) ∧ DKs K ca W.hf W.ad kvs es
  | .dT es => ∃ a kvs, v = .ref a ∧ H a = some (.dT kvs) ∧ DTs K ca W.hf W.ad kvs es
  | .ins c fs => ∃ x dx vfs, v = .ref x ∧ H x = some (.ins (ca c) dx vfs) ∧ DFs K ca W.hf W.ad vfs fs
  | d => DV K ca W.hf W.ad v d
end
/-- the store's object in the place of its number -/
def dref (S : Sto) : D → D
  | .obj n => match S[n]? with
    | some (.lst l) => .lst l
    | some (.dK l) => .dK l
    | some (.dT l) => .dT l
    | some (.ins c fs) => .ins c fs
    | none => .obj n
  | d => d
/-- numbers, texts and the like -/
def isScal : D → Bool
  | .non => true
  | .bl _ => true
  | .int _ => true
  | .str _ => true
  | .tup _ => true
  | .obj _ => true
  | .ins _ _ => true
  | .rol _ => true
  | _ => false

section
variable {K : PySem.W.Frag} {ca : Ca} {H0 : Bs} {H H' H1 H2 : Hp} {W W' W1 W2 : Wd} {σ : L2.St} {ρ : Rho} {S : Sto} {v : V} {d : D} {m : Md}
theorem DR.scal (h : isScal d = true) (q : DV K ca W'.hf W'.ad v d) : DR K ca m H W' H' v d := by
  cases m <;> cases d <;> first | exact q | cases h
theorem DR.toSta (hm : m ≠ .bor) (w : WOk W' H') (q : DR K ca m H W' H' v d) : DR K ca .sta H1 W' H' v d := by
  have cal : ∀ {a : Addr} {o : HO}, W'.hf a = some o → calmS (W'.ow a) = true := fun {a o} h => by
    cases e : W'.ow a with
    | none => rfl
    | some p =>
      have z := w.dis a p e
      rw [h] at z; cases z
  cases m with
  | bor => exact absurd rfl hm
  | sta => cases d <;> exact q
  | frz =>
    cases d with
    | lst ds => obtain ⟨a, vs, e, h, r⟩ := DV.ofLst q; exact ⟨a, vs, e, w.sub _ _ h, cal h, r⟩
    | dK ds => obtain ⟨a, vs, e, h, r⟩ := DV.ofDK q; exact ⟨a, vs, e, w.sub _ _ h, cal h, r⟩
    | dT ds => obtain ⟨a, vs, e, h, r⟩ := DV.ofDT q; exact ⟨a, vs, e, w.sub _ _ h, cal h, r⟩
    | _ => exact q
  | fre =>
    cases d with
    | lst ds => obtain ⟨a, vs, e, h1, h2, h3, h4, r⟩ := q; exact ⟨a, vs, e, h4, by rw [h3]; rfl, r⟩
    | dK ds => obtain ⟨a, vs, e, h1, h2, h3, h4, r⟩ := q; exact ⟨a, vs, e, h4, by rw [h3]; rfl, r⟩
    | dT ds => obtain ⟨a, vs, e, h1, h2, h3, h4, r⟩ := q; exact ⟨a, vs, e, h4, by rw [h3]; rfl, r⟩
    | _ => exact q
theorem DR.toBor (w : WOk W' H') (q : DR K ca m H W' H' v d) : DR K ca .bor H1 W' H' v d := by
  have cal : ∀ {a : Addr} {o : HO}, W'.hf a = some o → calmO (W'.ow a) = true := fun {a o} h => by
    cases e : W'.ow a with
    | none => rfl
    | some p =>
      have z := w.dis a p e
      rw [h] at z; cases z
  cases m with
  | bor => cases d <;> exact q
  | sta =>
    cases d with
    | lst ds => obtain ⟨a, vs, e, h, c, r⟩ := q; exact ⟨a, vs, e, h, calmS_O c, r⟩
    | dK ds => obtain ⟨a, vs, e, h, c, r⟩ := q; exact ⟨a, vs, e, h, calmS_O c, r⟩
    | dT ds => obtain ⟨a, vs, e, h, c, r⟩ := q; exact ⟨a, vs, e, h, calmS_O c, r⟩
    | _ => exact q
  | frz =>
    cases d with
    | lst ds => obtain ⟨a, vs, e, h, r⟩ := DV.ofLst q; exact ⟨a, vs, e, w.sub _ _ h, cal h, r⟩
    | dK ds => obtain ⟨a, vs, e, h, r⟩ := DV.ofDK q; exact ⟨a, vs, e, w.sub _ _ h, cal h, r⟩
    | dT ds => obtain ⟨a, vs, e, h, r⟩ := DV.ofDT q; exact ⟨a, vs, e, w.sub _ _ h, cal h, r⟩
    | _ => exact q
  | fre =>
    cases d with
    | lst ds => obtain ⟨a, vs, e, h1, h2, h3, h4, r⟩ := q; exact ⟨a, vs, e, h4, by rw [h3]; rfl, r⟩
    | dK ds => obtain ⟨a, vs, e, h1, h2, h3, h4, r⟩ := q; exact ⟨a, vs, e, h4, by rw [h3]; rfl, r⟩
    | dT ds => obtain ⟨a, vs, e, h1, h2, h3, h4, r⟩ := q; exact ⟨a, vs, e, h4, by rw [h3]; rfl, r⟩
    | _ => exact q
/-- what is borrowed or frozen stays while expressions are evaluated -/
theorem DR.later (hm : m ≠ .fre) (f : Fut W1 H1 W2 H2) (q : DR K ca m H W1 H1 v d) : DR K ca m H W2 H2 v d := by
  cases m with
  | fre => exact absurd rfl hm
  | frz => exact DV.mono f.hf f.ad q
  | sta =>
    cases d with
    | lst ds =>
      obtain ⟨a, vs, e, h, c, r⟩ := q
      obtain ⟨k1, k2⟩ := f.keep a _ h (calmS_O c)
      exact ⟨a, vs, e, k1, by rw [k2]; exact c, r.mono f.hf f.ad⟩
    | dK ds =>
      obtain ⟨a, vs, e, h, c, r⟩ := q
      obtain ⟨k1, k2⟩ := f.keep a _ h (calmS_O c)
      exact ⟨a, vs, e, k1, by rw [k2]; exact c, r.mono f.hf f.ad⟩
    | dT ds =>
      obtain ⟨a, vs, e, h, c, r⟩ := q
      obtain ⟨k1, k2⟩ := f.keep a _ h (calmS_O c)
      exact ⟨a, vs, e, k1, by rw [k2]; exact c, r.mono f.hf f.ad⟩
    | _ => exact DV.mono f.hf f.ad q
  | bor =>
    cases d with
    | lst ds =>
      obtain ⟨a, vs, e, h, c, r⟩ := q
      obtain ⟨k1, k2⟩ := f.keep a _ h c
      exact ⟨a, vs, e, k1, by rw [k2]; exact c, r.mono f.hf f.ad⟩
    | dK ds =>
      obtain ⟨a, vs, e, h, c, r⟩ := q
      obtain ⟨k1, k2⟩ := f.keep a _ h c
      exact ⟨a, vs, e, k1, by rw [k2]; exact c, r.mono f.hf f.ad⟩
    | dT ds =>
      obtain ⟨a, vs, e, h, c, r⟩ := q
      obtain ⟨k1, k2⟩ := f.keep a _ h c
      exact ⟨a, vs, e, k1, by rw [k2]; exact c, r.mono f.hf f.ad⟩
    | _ => exact DV.mono f.hf f.ad q
theorem DR.older (dm : ∀ a o, H a = some o → ∃ o', H1 a = some o') (q : DR K ca m H1 W' H' v d) : DR K ca m H W' H' v d := by
  cases m with
  | frz => exact q
  | bor => cases d <;> exact q
  | sta => cases d <;> exact q
  | fre =>
    cases d with
    | lst ds => obtain ⟨a, vs, e, h1, r⟩ := q; exact ⟨a, vs, e, none_of_dom dm h1, r⟩
    | dK ds => obtain ⟨a, vs, e, h1, r⟩ := q; exact ⟨a, vs, e, none_of_dom dm h1, r⟩
    | dT ds => obtain ⟨a, vs, e, h1, r⟩ := q; exact ⟨a, vs, e, none_of_dom dm h1, r⟩
    | _ => exact q
theorem CV.ofDV (w : WOk W H) (q : DV K ca W.hf W.ad v d) : CV K ca W H v d := by
  cases d with
  | lst ds => obtain ⟨a, vs, e, h, r⟩ := DV.ofLst q; exact ⟨a, vs, e, w.sub _ _ h, r⟩
  | dK ds => obtain ⟨a, vs, e, h, r⟩ := DV.ofDK q; exact ⟨a, vs, e, w.sub _ _ h, r⟩
  | dT ds => obtain ⟨a, vs, e, h, r⟩ := DV.ofDT q; exact ⟨a, vs, e, w.sub _ _ h, r⟩
  | ins c fs => obtain ⟨x, dx, vs, e, h, r⟩ := DV.ofIns q; exact ⟨x, dx, vs, e, w.sub _ _ h, r⟩
  | _ => exact q
theorem DR.view (w : WOk W H') (s : RepS K ca W H' S) (q : DR K ca m H W H' v d) : CV K ca W H' v (dref S d) := by
  have q := DR.toBor (H1 := H) w q
  cases d with
  | obj n =>
    obtain ⟨a, e, h⟩ := DV.ofObj q
    cases x : S[n]? with
    | none => simp only [dref, x]; exact q
    | some ob =>
      obtain ⟨b, h1, h2, h3⟩ := s.at_ n ob x
      have hb : b = a := by rw [h] at h1; exact (Option.some.inj h1).symm
      subst hb
      cases ob with
      | lst l => simp only [dref, x]; obtain ⟨vs, h4, h5⟩ := h3; exact ⟨b, vs, e, h4, h5⟩
      | dK l => simp only [dref, x]; obtain ⟨vs, h4, h5⟩ := h3; exact ⟨b, vs, e, h4, h5⟩
      | dT l => simp only [dref, x]; obtain ⟨vs, h4, h5⟩ := h3; exact ⟨b, vs, e, h4, h5⟩
      | ins c l => simp only [dref, x]; obtain ⟨dx, vs, h4, h5⟩ := h3; exact ⟨b, dx, vs, e, h4, h5⟩
  | lst ds => obtain ⟨a, vs, e, h, c, r⟩ := q; exact ⟨a, vs, e, h, r⟩
  | dK ds => obtain ⟨a, vs, e, h, c, r⟩ := q; exact ⟨a, vs, e, h, r⟩
  | dT ds => obtain ⟨a, vs, e, h, c, r⟩ := q; exact ⟨a, vs, e, h, r⟩
  | ins c fs => exact CV.ofDV (d := .ins c fs) w q
  | _ => exact q
end

/-! ### exceptions; what comes of a piece of code -/
section
variable (K : PySem.W.Frag) (ca : Ca) (H0 : Bs) (Wx : WX)
def OutM {α : Type} (W : Wd) (ρ : Rho) (σ : L2.St) (H : Hp) (r : Res α) (P : α → Sto → Wd → Hp → Prop) : Prop :=
  match r with
  | none => False
  | some (.ok a, S') => ∀ W' H', Fut W H W' H' → Rep K ca H0 W' H' σ ρ S' → P a S' W' H'
  | some (.error x, S') => ∀ W' H' cls od, Fut W H W' H' → Rep K ca H0 W' H' σ ρ S' → XV K ca W' H' cls od x → Wx cls od σ H'
def tE (m : Md) (f : SE) : TE := fun σ H Q => ∃ W ρ S, Rep K ca H0 W H σ ρ S ∧ OutM K ca H0 Wx W ρ σ H (f ρ S) fun d _ W' H' => ∀ v, DR K ca m H W' H' v d → Q v H'
def tT (f : ST) : TT := fun σ H Q => ∃ W ρ S, Rep K ca H0 W H σ ρ S ∧ OutM K ca H0 Wx W ρ σ H (f ρ S) fun b _ _ H' => Q b H'
inductive DRs (m : Md) (H : Hp) (W : Wd) (H' : Hp) : List V → List D → Prop
  | nil : DRs m H W H' [] []
  | cons {v : V} {vs : List V} {d : D} {ds : List D} : DR K ca m H W H' v d → DRs m H W H' vs ds → DRs m H W H' (v :: vs) (d :: ds)
def tA (m : Md) (f : SA) : TA := fun σ H Q => ∃ W ρ S, Rep K ca H0 W H σ ρ S ∧ OutM K ca H0 Wx W ρ σ H (f ρ S) fun ds _ W' H' => ∀ vs, DRs K ca m H W' H' vs ds → Q vs H'
end
section
variable {K : PySem.W.Frag} {ca : Ca} {H0 : Bs} {Wx : WX} {W : Wd} {ρ : Rho} {σ : L2.St} {H : Hp} {S : Sto} {α β : Type}
theorem OutM.imp {r : Res α} {P P' : α → Sto → Wd → Hp → Prop} (h : OutM K ca H0 Wx W ρ σ H r P)
    (i : ∀ a S' W' H', Fut W H W' H' → Rep K ca H0 W' H' σ ρ S' → P a S' W' H' → P' a S' W' H') : OutM K ca H0 Wx W ρ σ H r P' := by
  match r, h with
  | some (.ok a, S'), h => exact fun W' H' f R => i a S' W' H' f R (h W' H' f R)
  | some (.error x, S'), h => exact h
theorem OutM.impW {r : Res α} {P P' : α → Sto → Wd → Hp → Prop} (h : OutM K ca H0 Wx W ρ σ H r P)
    (i : ∀ a S' W' H', Fut W H W' H' → Rep K ca H0 W' H' σ ρ S' → (∀ W2 H2, Fut W H W2 H2 → Rep K ca H0 W2 H2 σ ρ S' → P a S' W2 H2) → P' a S' W' H') : OutM K ca H0 Wx W ρ σ H r P' := by
  match r, h with
  | some (.ok a, S'), h => exact fun W' H' f R => i a S' W' H' f R h
  | some (.error x, S'), h => exact h
theorem OutM.later {r : Res α} {P : α → Sto → Wd → Hp → Prop} {W1 : Wd} {H1 : Hp} (f : Fut W H W1 H1) (h : OutM K ca H0 Wx W ρ σ H r P) : OutM K ca H0 Wx W1 ρ σ H1 r P := by
  match r, h with
  | some (.ok a, S'), h => exact fun W' H' g R => h W' H' (Fut.trans' f g) R
  | some (.error x, S'), h => exact fun W' H' cls od g R => h W' H' cls od (Fut.trans' f g) R
theorem OutM.bind {x : M α} {k : α → M β} {P : β → Sto → Wd → Hp → Prop} (h : OutM K ca H0 Wx W ρ σ H (mb x k S) P) :
    OutM K ca H0 Wx W ρ σ H (x S) fun a S1 W1 H1 => OutM K ca H0 Wx W1 ρ σ H1 (k a S1) P := by
  unfold mb at h
  match e : x S with
  | none => rw [e] at h; exact h
  | some (.error z, S') => rw [e] at h; exact h
  | some (.ok a, S') =>
    rw [e] at h
    exact fun W1 H1 f R => OutM.later f h
end
theorem PE.imp {X : Cx} {e : Expr} {t t' : TE} (h : PE X e t) (i : ∀ σ H Q, t' σ H Q → t σ H Q) : PE X e t' := ⟨fun pins s σ H Q I q => h.run pins s σ H Q I (i σ H Q q)⟩
theorem PT.imp {X : Cx} {e : Expr} {t t' : TT} (h : PT X e t) (i : ∀ σ H Q, t' σ H Q → t σ H Q) : PT X e t' := ⟨fun pins s σ H Q I q => h.run pins s σ H Q I (i σ H Q q)⟩
theorem PA.imp {X : Cx} {e : List Expr} {t t' : TA} (h : PA X e t) (i : ∀ σ H Q, t' σ H Q → t σ H Q) : PA X e t' := ⟨fun pos pins s σ H Q I q => h.run pos pins s σ H Q I (i σ H Q q)⟩
theorem PS.imp {X : Cx} {e : Stmt} {t t' : TS} (h : PS X e t) (i : ∀ D σ H, t' D σ H → t D σ H) : PS X e t' := ⟨fun pins s σ H D I q => h.run pins s σ H D I (i D σ H q)⟩
theorem PSs.imp {X : Cx} {e : List Stmt} {t t' : TS} (h : PSs X e t) (i : ∀ D σ H, t' D σ H → t D σ H) : PSs X e t' := ⟨fun pins s σ H D I q => h.run pins s σ H D I (i D σ H q)⟩

abbrev DE (X : Cx) (ca : Ca) (H0 : Bs) (Wx : WX) (m : Md) (e : Expr) (f : SE) : Prop := PE X e (tE X.K ca H0 Wx m f)
abbrev DT (X : Cx) (ca : Ca) (H0 : Bs) (Wx : WX) (e : Expr) (f : ST) : Prop := PT X e (tT X.K ca H0 Wx f)
abbrev DW (X : Cx) (ca : Ca) (H0 : Bs) (Wx : WX) (e : Expr) (f : ST) : Prop := PW X e (tT X.K ca H0 Wx f)
abbrev DA (X : Cx) (ca : Ca) (H0 : Bs) (Wx : WX) (m : Md) (es : List Expr) (f : SA) : Prop := PA X es (tA X.K ca H0 Wx m f)

section
variable {X : Cx} {ca : Ca} {H0 : Bs} {Wx : WX} {m : Md}
/-! ### constants, names -/
theorem de_tC {e : Expr} {v : V} {d : D} (h : PE X e (tC v)) (q : ∀ hf ad, DV X.K ca hf ad v d) (i : isScal d = true := by rfl) : DE X ca H0 Wx m e (fun _ => mp d) :=
  PE.imp h fun σ H Q ⟨W, ρ, S, R, o⟩ => o W H (FutG.refl _ _) R v (DR.scal i (q _ _))
theorem de_int {i : Int} {j pos} : DE X ca H0 Wx m (.Constant (.int i) j pos) (fun _ => mp (.int i)) := de_tC pe_int fun _ _ => .int i
theorem de_bl {b j pos} : DE X ca H0 Wx m (.Constant (.bool b) j pos) (fun _ => mp (.bl b)) := de_tC pe_bl fun _ _ => .bl b
theorem de_non {j pos} : DE X ca H0 Wx m (.Constant .none j pos) (fun _ => mp .non) := de_tC pe_non fun _ _ => .non
theorem de_str {x j pos} : DE X ca H0 Wx m (.Constant (.str x) j pos) (fun _ => mp (.str x)) := de_tC pe_str fun _ _ => .str x
/-- a constant of the module -/
theorem de_glob {x : Str} {v : V} {u : Value} {pos : Pos} {d : D} (hg : Gl X x) (hm : X.mg x = some u) (r : RelV v u) (q : DV X.K ca (fun _ => none) (fun _ => none) v d) (hd : (x == ("__debug__" : Str)) = false := by decide) (i : isScal d = true := by rfl) :
    DE X ca H0 Wx m (.Name x pos) (fun _ => mp d) := de_tC (pe_glob hg hm r hd) (fun _ _ => DV.mono (fun _ _ h => by cases h) (fun _ _ h => by cases h) q) i
/-- a slot's data -/
def sVar (i : Nat) : SE := fun ρ => match ρ[i]? with
  | some (.val d) => mp d
  | some (.bo d) => if isScal d = true then mp d else mf
  | _ => mf
/-- .. or its own list, for a look -/
def sVarB (i : Nat) : SE := fun ρ => match ρ[i]? with
  | some (.val d) => mp d
  | some (.own d) => mp d
  | some (.lk d) => mp d
  | some (.bo d) => mp d
  | _ => mf
theorem de_var {i : Nat} {x : Str} {pos : Pos} (h : PE X (.Name x pos) (tVar i)) : DE X ca H0 Wx .frz (.Name x pos) (sVar i) := by
  refine PE.imp h fun σ H Q ⟨W, ρ, S, R, o⟩ => ?_
  unfold sVar at o
  cases e : ρ[i]? with
  | none => rw [e] at o; exact False.elim o
  | some sl =>
    rw [e] at o
    cases sl with
    | val d =>
      obtain ⟨v, h1, u, h2, h3⟩ := R.sl i _ e
      subst h2
      exact ⟨u, h1, o W H (FutG.refl _ _) R u h3⟩
    | bo d =>
      obtain ⟨v, h1, u, h2, h3⟩ := R.sl i _ e
      subst h2
      by_cases hs : isScal d = true
      · have o' := (show OutM X.K ca H0 Wx W ρ σ H ((if isScal d = true then mp d else mf) S) _ from o)
        rw [if_pos hs] at o'
        refine ⟨u, h1, o' W H (FutG.refl _ _) R u ?_⟩
        cases d <;> first | exact h3 | cases hs
      · have o' := (show OutM X.K ca H0 Wx W ρ σ H ((if isScal d = true then mp d else mf) S) _ from o)
        rw [if_neg hs] at o'
        exact False.elim o'
    | _ => exact False.elim o
theorem de_varB {i : Nat} {x : Str} {pos : Pos} (h : PE X (.Name x pos) (tVar i)) : DE X ca H0 Wx .bor (.Name x pos) (sVarB i) := by
  refine PE.imp h fun σ H Q ⟨W, ρ, S, R, o⟩ => ?_
  unfold sVarB at o
  have own : ∀ {d : D} {a : Addr} {p : Own}, W.ow a = some p → calmO (some p) = true → Cont X.K ca W H a d → DR X.K ca .bor H W H (.ref a) d := fun {d a p} h1 h2 h3 => by
    have hc : calmO (W.ow a) = true := by rw [h1]; exact h2
    cases d with
    | lst l => obtain ⟨vs, k, r⟩ := h3; exact ⟨a, vs, rfl, k, hc, r⟩
    | dK l => obtain ⟨vs, k, r⟩ := h3; exact ⟨a, vs, rfl, k, hc, r⟩
    | dT l => obtain ⟨vs, k, r⟩ := h3; exact ⟨a, vs, rfl, k, hc, r⟩
    | _ => exact h3.elim
  cases e : ρ[i]? with
  | none => rw [e] at o; exact False.elim o
  | some sl =>
    rw [e] at o
    cases sl with
    | no => exact False.elim o
    | ex x => exact False.elim o
    | val d =>
      obtain ⟨v, h1, u, h2, h3⟩ := R.sl i _ e
      subst h2
      exact ⟨u, h1, o W H (FutG.refl _ _) R u (DR.toBor (m := .frz) (H := H) R.w h3)⟩
    | own d =>
      obtain ⟨v, h1, a, h2, h3, _, h4⟩ := R.sl i _ e
      subst h2
      exact ⟨_, h1, o W H (FutG.refl _ _) R _ (own h3 rfl h4)⟩
    | lk d =>
      obtain ⟨v, h1, a, h2, h3, _, h4⟩ := R.sl i _ e
      subst h2
      exact ⟨_, h1, o W H (FutG.refl _ _) R _ (own h3 rfl h4)⟩
    | bo d =>
      obtain ⟨v, h1, u, h2, h3⟩ := R.sl i _ e
      subst h2
      refine ⟨u, h1, o W H (FutG.refl _ _) R u ?_⟩
      cases d with
      | lst l => obtain ⟨a, vs, e, k1, k2, _, q⟩ := h3; exact ⟨a, vs, e, k1, calmS_O k2, q⟩
      | dK l => obtain ⟨a, vs, e, k1, k2, _, q⟩ := h3; exact ⟨a, vs, e, k1, calmS_O k2, q⟩
      | dT l => obtain ⟨a, vs, e, k1, k2, _, q⟩ := h3; exact ⟨a, vs, e, k1, calmS_O k2, q⟩
      | _ => exact h3
/-- a new list frozen -/
theorem de_frz {e : Expr} {f : SE} (h : DE X ca H0 Wx .fre e f) : DE X ca H0 Wx .frz e f := by
  refine PE.imp h fun σ H Q ⟨W, ρ, S, R, o⟩ => ⟨W, ρ, S, R, o.impW fun d S' W' H' F R' q v r => ?_⟩
  have go : ∀ {a : Addr} {u : HO}, H a = none → W'.hf a = none → W'.ow a = none → H' a = some u → DV X.K ca (W'.fz a u).hf W'.ad v d → Q v H' := fun {a u} h1 h2 h3 h4 h5 =>
    q (W'.fz a u) H' (FutG.trans F (FutG.fz h2 h1)) (R'.fz h4 h2 h3) v h5
  cases d with
  | lst ds =>
    obtain ⟨a, vs, e, h1, h2, h3, h4, r⟩ := r
    subst e
    exact go h1 h2 h3 h4 (.lst upd_same (r.mono (same_upd h2) fun _ _ h => h))
  | dK ds =>
    obtain ⟨a, vs, e, h1, h2, h3, h4, r⟩ := r
    subst e
    exact go h1 h2 h3 h4 (.dK upd_same (r.mono (same_upd h2) fun _ _ h => h))
  | dT ds =>
    obtain ⟨a, vs, e, h1, h2, h3, h4, r⟩ := r
    subst e
    exact go h1 h2 h3 h4 (.dT upd_same (r.mono (same_upd h2) fun _ _ h => h))
  | _ => exact q W' H' F R' v r
theorem de_bor {e : Expr} {f : SE} {m : Md} (h : DE X ca H0 Wx m e f) : DE X ca H0 Wx .bor e f :=
  PE.imp h fun σ H Q ⟨W, ρ, S, R, o⟩ => ⟨W, ρ, S, R, o.imp fun d S' W' H' F R' q v r => q v (DR.toBor R'.w r)⟩
theorem de_sta {e : Expr} {f : SE} {m : Md} (h : DE X ca H0 Wx m e f) (hm : m ≠ .bor := by decide) : DE X ca H0 Wx .sta e f :=
  PE.imp h fun σ H Q ⟨W, ρ, S, R, o⟩ => ⟨W, ρ, S, R, o.imp fun d S' W' H' F R' q v r => q v (DR.toSta hm R'.w r)⟩
/-- a slot's data, a parameter's list, a locked list -/
def sVarS (i : Nat) : SE := fun ρ => match ρ[i]? with
  | some (.val d) => mp d
  | some (.lk d) => mp d
  | some (.bo d) => mp d
  | _ => mf
theorem de_varS {i : Nat} {x : Str} {pos : Pos} (h : PE X (.Name x pos) (tVar i)) : DE X ca H0 Wx .sta (.Name x pos) (sVarS i) := by
  refine PE.imp h fun σ H Q ⟨W, ρ, S, R, o⟩ => ?_
  unfold sVarS at o
  cases e : ρ[i]? with
  | none => rw [e] at o; exact False.elim o
  | some sl =>
    rw [e] at o
    cases sl with
    | val d =>
      obtain ⟨v, h1, u, h2, h3⟩ := R.sl i _ e
      subst h2
      exact ⟨u, h1, o W H (FutG.refl _ _) R u (DR.toSta (m := .frz) (H := H) (by decide) R.w h3)⟩
    | lk d =>
      obtain ⟨v, h1, a, h2, h3, _, h4⟩ := R.sl i _ e
      subst h2
      refine ⟨_, h1, o W H (FutG.refl _ _) R _ ?_⟩
      have hc : calmS (W.ow a) = true := by rw [h3]; rfl
      cases d with
      | lst l => obtain ⟨vs, k, r⟩ := h4; exact ⟨a, vs, rfl, k, hc, r⟩
      | dK l => obtain ⟨vs, k, r⟩ := h4; exact ⟨a, vs, rfl, k, hc, r⟩
      | dT l => obtain ⟨vs, k, r⟩ := h4; exact ⟨a, vs, rfl, k, hc, r⟩
      | _ => exact h4.elim
    | bo d =>
      obtain ⟨v, h1, u, h2, h3⟩ := R.sl i _ e
      subst h2
      refine ⟨u, h1, o W H (FutG.refl _ _) R u ?_⟩
      cases d with
      | lst l => obtain ⟨a, vs, e, k1, k2, _, q⟩ := h3; exact ⟨a, vs, e, k1, k2, q⟩
      | dK l => obtain ⟨a, vs, e, k1, k2, _, q⟩ := h3; exact ⟨a, vs, e, k1, k2, q⟩
      | dT l => obtain ⟨a, vs, e, k1, k2, _, q⟩ := h3; exact ⟨a, vs, e, k1, k2, q⟩
      | _ => exact h3
    | _ => exact False.elim o
end
end DL

/-! DL2: operators, comparisons, tests, displays. -/
namespace DL
open PySem PySem.Spec PyProof.Rows L2

/-! ### what an operation hands back -/
def FinR (K : PySem.W.Frag) (ca : Ca) (H0 : Bs) (m : Md) (W : Wd) (H : Hp) (S : Sto) (d : D) (Q : VK) : Prop :=
  ∀ W' H' v, Fut W H W' H' → (∀ σ ρ, Rep K ca H0 W H σ ρ S → Rep K ca H0 W' H' σ ρ S) → DR K ca m H W' H' v d → Q v H'
section
variable {K : PySem.W.Frag} {ca : Ca} {H0 : Bs} {H : Hp} {m : Md} {W : Wd} {S : Sto} {d : D} {Q : VK} {v : V}
theorem FinR.scal (f : FinR K ca H0 m W H S d Q) (i : isScal d = true) (q : DV K ca W.hf W.ad v d) : Q v H := f W H v (FutG.refl _ _) (fun _ _ R => R) (DR.scal i q)
theorem FinR.tup {ds : List D} {vs : List V} (f : FinR K ca H0 m W H S (.tup ds) Q) (w : WOk W H) (q : DVs K ca W.hf W.ad vs ds) : ∀ p, H p = none → Q (.ref p) (upd H p (.tup vs)) := fun p hp =>
  f (W.fz p (.tup vs)) _ _ (Fut.new w hp) (fun _ _ R => R.new hp) (DR.scal rfl (.tup (.inl upd_same) (q.mono (same_upd (w.free hp).1) fun _ _ h => h)))
theorem FinR.lst {ds : List D} {vs : List V} (f : FinR K ca H0 m W H S (.lst ds) Q) (w : WOk W H) (q : DVs K ca W.hf W.ad vs ds) : ∀ p, H p = none → Q (.ref p) (upd H p (.lst vs)) := fun p hp => by
  obtain ⟨f1, f2⟩ := w.free hp
  cases m with
  | frz => exact f (W.fz p (.lst vs)) _ _ (Fut.new w hp) (fun _ _ R => R.new hp) (DV.lst upd_same (q.mono (same_upd f1) fun _ _ h => h))
  | bor => exact f W _ _ (Fut.laid w hp) (fun _ _ R => R.laid hp fun _ z => by cases z) ⟨p, vs, rfl, upd_same, by rw [f2]; rfl, q⟩
  | sta => exact f W _ _ (Fut.laid w hp) (fun _ _ R => R.laid hp fun _ z => by cases z) ⟨p, vs, rfl, upd_same, by rw [f2]; rfl, q⟩
  | fre => exact f W _ _ (Fut.laid w hp) (fun _ _ R => R.laid hp fun _ z => by cases z) ⟨p, vs, rfl, hp, f1, f2, upd_same, q⟩
theorem FinR.dK {ds : List (Key × D)} {vs : List (Key × V)} (f : FinR K ca H0 m W H S (.dK ds) Q) (w : WOk W H) (q : DKs K ca W.hf W.ad vs ds) : ∀ p, H p = none → Q (.ref p) (upd H p (.dK vs)) := fun p hp => by
  obtain ⟨f1, f2⟩ := w.free hp
  cases m with
  | frz => exact f (W.fz p (.dK vs)) _ _ (Fut.new w hp) (fun _ _ R => R.new hp) (DV.dK upd_same (q.mono (same_upd f1) fun _ _ h => h))
  | bor => exact f W _ _ (Fut.laid w hp) (fun _ _ R => R.laid hp fun _ z => by cases z) ⟨p, vs, rfl, upd_same, by rw [f2]; rfl, q⟩
  | sta => exact f W _ _ (Fut.laid w hp) (fun _ _ R => R.laid hp fun _ z => by cases z) ⟨p, vs, rfl, upd_same, by rw [f2]; rfl, q⟩
  | fre => exact f W _ _ (Fut.laid w hp) (fun _ _ R => R.laid hp fun _ z => by cases z) ⟨p, vs, rfl, hp, f1, f2, upd_same, q⟩
theorem FinR.dT {ds : List (List Key × D)} {vs : List (List Key × V)} (f : FinR K ca H0 m W H S (.dT ds) Q) (w : WOk W H) (q : DTs K ca W.hf W.ad vs ds) : ∀ p, H p = none → Q (.ref p) (upd H p (.dT vs)) := fun p hp => by
  obtain ⟨f1, f2⟩ := w.free hp
  cases m with
  | frz => exact f (W.fz p (.dT vs)) _ _ (Fut.new w hp) (fun _ _ R => R.new hp) (DV.dT upd_same (q.mono (same_upd f1) fun _ _ h => h))
  | bor => exact f W _ _ (Fut.laid w hp) (fun _ _ R => R.laid hp fun _ z => by cases z) ⟨p, vs, rfl, upd_same, by rw [f2]; rfl, q⟩
  | sta => exact f W _ _ (Fut.laid w hp) (fun _ _ R => R.laid hp fun _ z => by cases z) ⟨p, vs, rfl, upd_same, by rw [f2]; rfl, q⟩
  | fre => exact f W _ _ (Fut.laid w hp) (fun _ _ R => R.laid hp fun _ z => by cases z) ⟨p, vs, rfl, hp, f1, f2, upd_same, q⟩
end

/-! ### two operands -/
def OpD (X : Cx) (ca : Ca) (H0 : Bs) (m : Md) (f : Value → Value → Sem Value) (o : D → D → Option D) : Prop :=
  ∃ r : R2, OpR X f r ∧ ∀ W H S x y dx dy d Q, WOk W H → RepS X.K ca W H S → CV X.K ca W H x dx → CV X.K ca W H y dy → o dx dy = some d → FinR X.K ca H0 m W H S d Q → r x y H Q
theorem OpD.or {X : Cx} {ca : Ca} {H0 : Bs} {m : Md} {f : Value → Value → Sem Value} {o o' o'' : D → D → Option D} (a : OpD X ca H0 m f o) (b : OpD X ca H0 m f o')
    (h : ∀ x y d, o'' x y = some d → o x y = some d ∨ o' x y = some d) : OpD X ca H0 m f o'' := by
  obtain ⟨r, h1, h2⟩ := a
  obtain ⟨r', h1', h2'⟩ := b
  refine ⟨_, OpR.or h1 h1', fun W H S x y dx dy d Q w s cx cy e F => ?_⟩
  rcases h dx dy d e with e | e
  · exact .inl (h2 W H S x y dx dy d Q w s cx cy e F)
  · exact .inr (h2' W H S x y dx dy d Q w s cx cy e F)
def sBin (o : D → D → Option D) (fa fb : SE) : SE := fun ρ => mb (fa ρ) fun x => mb (fb ρ) fun y S => mo (o (dref S x) (dref S y)) S
section
variable {X : Cx} {ca : Ca} {H0 : Bs} {Wx : WX} {m : Md}
theorem two_of {r : R2} {o : D → D → Option D} {fa fb : SE} {m : Md}
    (h2 : ∀ W H S x y dx dy d Q, WOk W H → RepS X.K ca W H S → CV X.K ca W H x dx → CV X.K ca W H y dy → o dx dy = some d → FinR X.K ca H0 m W H S d Q → r x y H Q) {σ : L2.St} {H : Hp} {Q : VK}
    (h : tE X.K ca H0 Wx m (sBin o fa fb) σ H Q) : tE X.K ca H0 Wx .bor fa σ H fun x H1 => tE X.K ca H0 Wx .bor fb σ H1 fun y H2 => r x y H2 Q := by
  obtain ⟨W, ρ, S, R, h⟩ := h
  refine ⟨W, ρ, S, R, (OutM.bind h).imp fun dx S1 W1 H1 F1 R1 h1 x D1 => ⟨W1, ρ, S1, R1, (OutM.bind h1).imp fun dy S2 W2 H2 F2 R2 h3 y D2 => ?_⟩⟩
  have D1' := DR.later (by decide) F2 D1
  have c1 := DR.view R2.w R2.s D1'
  have c2 := DR.view R2.w R2.s D2
  cases e : o (dref S2 dx) (dref S2 dy) with
  | none => rw [e] at h3; exact False.elim h3
  | some d =>
    rw [e] at h3
    exact h2 W2 H2 S2 x y _ _ d Q R2.w R2.s c1 c2 e fun W' H' v F k r => h3 W' H' F (k _ _ R2) v (DR.older (fun a o ha => (Fut.trans' F1 F2).dom a o ha) r)
theorem de_bin {op : Operator} {o : D → D → Option D} {a b : Expr} {fa fb : SE} {pos : Pos} (ho : OpD X ca H0 m (binaryOp op) o) (ha : DE X ca H0 Wx .bor a fa) (hb : DE X ca H0 Wx .bor b fb) : DE X ca H0 Wx m (.BinOp a op b pos) (sBin o fa fb) := by
  obtain ⟨r, h1, h2⟩ := ho
  exact PE.imp (pe_op h1 ha hb) fun σ H Q h => two_of h2 h
theorem de_cmp {op : CmpOp} {o : D → D → Option D} {a b : Expr} {fa fb : SE} {pos : Pos} (ho : OpD X ca H0 m (compareOp op) o) (ha : DE X ca H0 Wx .bor a fa) (hb : DE X ca H0 Wx .bor b fb) (hm : behindInMarks op b = false) : DE X ca H0 Wx m (.Compare a [op] [b] pos) (sBin o fa fb) := by
  obtain ⟨r, h1, h2⟩ := ho
  exact PE.imp (pe_cmpR h1 ha hb hm) fun σ H Q h => two_of h2 h
def dBl : D → Option Bool
  | .bl b => some b
  | _ => none
def sBl (f : SE) : ST := fun ρ => mb (f ρ) fun d => mo (dBl d)
theorem test_of {f : SE} {σ : L2.St} {H : Hp} {Q : Bool → Hp → Prop} (h : tT X.K ca H0 Wx (sBl f) σ H Q) : tE X.K ca H0 Wx .frz f σ H fun x H' => ∃ k, x = .bl k ∧ Q k H' := by
  obtain ⟨W, ρ, S, R, h⟩ := h
  refine ⟨W, ρ, S, R, (OutM.bind h).imp fun d S1 W1 H1 F1 R1 h1 x D1 => ?_⟩
  cases d with
  | bl b => exact ⟨b, DV.ofBl D1, h1 W1 H1 (FutG.refl _ _) R1⟩
  | _ => exact False.elim h1
theorem dt_cmp {op : CmpOp} {o : D → D → Option D} {a b : Expr} {fa fb : SE} {pos : Pos} (ho : OpD X ca H0 .frz (compareOp op) o) (ha : DE X ca H0 Wx .bor a fa) (hb : DE X ca H0 Wx .bor b fb) (hm : behindInMarks op b = false) : DT X ca H0 Wx (.Compare a [op] [b] pos) (sBl (sBin o fa fb)) := by
  obtain ⟨r, h1, h2⟩ := ho
  refine PT.imp (pt_cmpR h1 ha hb hm) fun σ H Q h => ?_
  exact two_of h2 (test_of h)
/-! ### a chain of two comparisons -/
def sChain (o o' : D → D → Option D) (fa fb fc : SE) : SE := fun ρ => mb (fa ρ) fun x => mb (fb ρ) fun y => mb (fun S => mo (o (dref S x) (dref S y)) S) fun z => mb (mo (dBl z)) fun k =>
  if k = true then mb (fc ρ) fun w S => mo (o' (dref S y) (dref S w)) S else mp (.bl false)
theorem chain_of {r r' : R2} {o o' : D → D → Option D} {fa fb fc : SE} {m : Md}
    (h2 : ∀ W H S x y dx dy d Q, WOk W H → RepS X.K ca W H S → CV X.K ca W H x dx → CV X.K ca W H y dy → o dx dy = some d → FinR X.K ca H0 .frz W H S d Q → r x y H Q)
    (h2' : ∀ W H S x y dx dy d Q, WOk W H → RepS X.K ca W H S → CV X.K ca W H x dx → CV X.K ca W H y dy → o' dx dy = some d → FinR X.K ca H0 m W H S d Q → r' x y H Q) {σ : L2.St} {H : Hp} {Q : VK}
    (h : tE X.K ca H0 Wx m (sChain o o' fa fb fc) σ H Q) : tChain r r' (tE X.K ca H0 Wx .bor fa) (tE X.K ca H0 Wx .bor fb) (tE X.K ca H0 Wx .bor fc) σ H Q := by
  obtain ⟨W, ρ, S, R, h⟩ := h
  refine ⟨W, ρ, S, R, (OutM.bind h).imp fun dx S1 W1 H1 F1 R1 h1 x D1 => ⟨W1, ρ, S1, R1, (OutM.bind h1).imp fun dy S2 W2 H2 F2 R2 h3 y D2 => ?_⟩⟩
  have D1' := DR.later (by decide) F2 D1
  have c1 := DR.view R2.w R2.s D1'
  have c2 := DR.view R2.w R2.s D2
  have h4 := OutM.bind h3
  cases e : o (dref S2 dx) (dref S2 dy) with
  | none => rw [e] at h4; exact False.elim h4
  | some d =>
    rw [e] at h4
    refine h2 W2 H2 S2 x y _ _ d _ R2.w R2.s c1 c2 e fun W3 H3 v F3 k3 r3 => ?_
    have R3 := k3 _ _ R2
    have h5 := OutM.bind (h4 W3 H3 F3 R3)
    cases d with
    | bl b =>
      refine ⟨b, DV.ofBl r3, ?_⟩
      have h6 := h5 W3 H3 (FutG.refl _ _) R3
      cases b with
      | false => exact iteF (h6 W3 H3 (FutG.refl _ _) R3 _ (DR.scal rfl (.bl false)))
      | true =>
        refine iteT ⟨W3, ρ, S2, R3, (OutM.bind h6).imp fun dw S4 W4 H4 F4 R4 h7 w' D4 => ?_⟩
        have D2' := DR.later (by decide) (Fut.trans' F3 F4) D2
        have c3 := DR.view R4.w R4.s D2'
        have c4 := DR.view R4.w R4.s D4
        cases e' : o' (dref S4 dy) (dref S4 dw) with
        | none => rw [e'] at h7; exact False.elim h7
        | some d' =>
          rw [e'] at h7
          exact h2' W4 H4 S4 y w' _ _ d' Q R4.w R4.s c3 c4 e' fun W' H' v F k r => h7 W' H' F (k _ _ R4) v (DR.older (fun a o ha => (Fut.trans' (Fut.trans' F1 F2) (Fut.trans' F3 F4)).dom a o ha) r)
    | _ => exact False.elim h5
theorem de_chain {op op' : CmpOp} {o o' : D → D → Option D} {a b c : Expr} {fa fb fc : SE} {pos : Pos} (ho : OpD X ca H0 .frz (compareOp op) o) (ho' : OpD X ca H0 m (compareOp op') o') (ha : DE X ca H0 Wx .bor a fa) (hb : DE X ca H0 Wx .bor b fb) (hc : DE X ca H0 Wx .bor c fc)
    (hm : lastMarks [op, op'] [b, c] = false := by with_unfolding_all rfl) : DE X ca H0 Wx m (.Compare a [op, op'] [b, c] pos) (sChain o o' fa fb fc) := by
  obtain ⟨r, h1, h2⟩ := ho
  obtain ⟨r', h1', h2'⟩ := ho'
  exact PE.imp (pe_chain h1 h1' ha hb hc hm) fun σ H Q h => chain_of h2 h2' h
theorem dt_chain {op op' : CmpOp} {o o' : D → D → Option D} {a b c : Expr} {fa fb fc : SE} {pos : Pos} (ho : OpD X ca H0 .frz (compareOp op) o) (ho' : OpD X ca H0 .frz (compareOp op') o') (ha : DE X ca H0 Wx .bor a fa) (hb : DE X ca H0 Wx .bor b fb) (hc : DE X ca H0 Wx .bor c fc)
    (hm : lastMarks [op, op'] [b, c] = false := by with_unfolding_all rfl) : DT X ca H0 Wx (.Compare a [op, op'] [b, c] pos) (sBl (sChain o o' fa fb fc)) := by
  obtain ⟨r, h1, h2⟩ := ho
  obtain ⟨r', h1', h2'⟩ := ho'
  exact PT.imp (pt_chain h1 h1' ha hb hc hm) fun σ H Q h => chain_of h2 h2' (test_of h)
/-! ### truth, and, or, not -/
def dTru : D → Option Bool
  | .non => some false
  | .bl b => some b
  | .int i => some (i != 0)
  | .str y => if y.length ≤ sizeLine then some ((y.length : Int) != 0) else none
  | .lst l => some (!l.isEmpty)
  | .tup l => some (!l.isEmpty)
  | .rol l => some (!l.isEmpty)
  | .dK l => some (!l.isEmpty)
  | _ => none
def sTru (f : SE) : ST := fun ρ => mb (f ρ) fun d S => mo (dTru (dref S d)) S
theorem DVs.emp {K : PySem.W.Frag} {h : Hp} {ad : Nat → Option Addr} {vs : List V} {ds : List D} (r : DVs K ca h ad vs ds) : (!ds.isEmpty) = !vs.isEmpty := by cases r <;> rfl
theorem DKs.emp {K : PySem.W.Frag} {h : Hp} {ad : Nat → Option Addr} {vs : List (Key × V)} {ds : List (Key × D)} (r : DKs K ca h ad vs ds) : (!ds.isEmpty) = !vs.isEmpty := by cases r <;> rfl
theorem tru_of {K : PySem.W.Frag} {W : Wd} {H : Hp} {v : V} {d : D} {k : Bool} (w : WOk W H) (c : CV K ca W H v d) (e : dTru d = some k) : TruV K v H k := by
  cases d with
  | non => obtain rfl := DV.ofNon c; cases e; rfl
  | bl b => obtain rfl := DV.ofBl c; cases e; rfl
  | int i => obtain rfl := DV.ofInt c; cases e; rfl
  | str y =>
    obtain rfl := DV.ofStr c
    have e' : (if y.length ≤ sizeLine then some ((y.length : Int) != 0) else none) = some k := e
    by_cases h : y.length ≤ sizeLine
    · rw [if_pos h] at e'; cases e'; exact ⟨h, rfl⟩
    · rw [if_neg h] at e'; cases e'
  | lst l => obtain ⟨a, vs, rfl, h, r⟩ := c; cases e; exact .inl ⟨vs, SqL.of h, r.emp⟩
  | tup l => obtain ⟨a, vs, rfl, h, r⟩ := DV.ofTup c; cases e; exact .inr (.inl ⟨vs, Same.tupq w.sub h.sq, r.emp⟩)
  | rol l => obtain ⟨a, vs, rfl, h, r⟩ := DV.ofRol c; cases e; exact .inl ⟨vs, Same.lstq w.sub h, r.emp⟩
  | dK l => obtain ⟨a, vs, rfl, h, r⟩ := c; cases e; exact .inr (.inr ⟨vs, h, r.emp⟩)
  | _ => cases e
theorem dt_val {e : Expr} {f : SE} (h : DE X ca H0 Wx .bor e f) (he : ∀ whole, isTrue e X.env whole = (do let v ← whole; standAt e.pos; holding [v] (truthy v)) := by intro _; rfl) : DT X ca H0 Wx e (sTru f) := by
  refine PT.imp (pt_truth h he) fun σ H Q ⟨W, ρ, S, R, o⟩ => ⟨W, ρ, S, R, (OutM.bind o).imp fun d S1 W1 H1 F1 R1 h1 x D1 => ?_⟩
  cases e : dTru (dref S1 d) with
  | none => rw [e] at h1; exact False.elim h1
  | some k =>
    rw [e] at h1
    exact ⟨k, tru_of R1.w (DR.view R1.w R1.s D1) e, h1 W1 H1 (FutG.refl _ _) R1⟩
def sAnd (fa fb : ST) : ST := fun ρ => mb (fa ρ) fun k => if k = true then fb ρ else mp false
def sOr (fa fb : ST) : ST := fun ρ => mb (fa ρ) fun k => if k = true then mp true else fb ρ
def sNot (fa : ST) : ST := fun ρ => mb (fa ρ) fun k => mp (!k)
theorem OutM.re {α : Type} {K : PySem.W.Frag} {W : Wd} {ρ : Rho} {σ : L2.St} {H : Hp} {S : Sto} {a : α} {P : α → Sto → Wd → Hp → Prop} (R : Rep K ca H0 W H σ ρ S) (h : OutM K ca H0 Wx W ρ σ H (mp a S) P) : P a S W H := h W H (FutG.refl _ _) R
theorem dw_one {op : BoolOp} {a : Expr} {fa : ST} {pos : Pos} (ha : DT X ca H0 Wx a fa) : DW X ca H0 Wx (.BoolOp op [a] pos) fa := by
  cases op with
  | And => exact pw_and1 ha
  | Or => exact pw_or1 ha
theorem PW.imp {X : Cx} {e : Expr} {t t' : TT} (h : PW X e t) (i : ∀ σ H Q, t' σ H Q → t σ H Q) : PW X e t' := ⟨fun wh pins s σ H Q I q => h.run wh pins s σ H Q I (i σ H Q q)⟩
theorem dw_and {a b : Expr} {rest : List Expr} {fa fb : ST} {pos : Pos} (ha : DT X ca H0 Wx a fa) (hb : DW X ca H0 Wx (.BoolOp .And (b :: rest) pos) fb) : DW X ca H0 Wx (.BoolOp .And (a :: b :: rest) pos) (sAnd fa fb) := by
  refine PW.imp (pw_and ha hb) fun σ H Q ⟨W, ρ, S, R, o⟩ => ⟨W, ρ, S, R, (OutM.bind o).imp fun k S1 W1 H1 F1 R1 h1 => ?_⟩
  cases k with
  | true => exact iteT ⟨W1, ρ, S1, R1, h1⟩
  | false => exact iteF (OutM.re R1 h1)
theorem dw_or {a b : Expr} {rest : List Expr} {fa fb : ST} {pos : Pos} (ha : DT X ca H0 Wx a fa) (hb : DW X ca H0 Wx (.BoolOp .Or (b :: rest) pos) fb) : DW X ca H0 Wx (.BoolOp .Or (a :: b :: rest) pos) (sOr fa fb) := by
  refine PW.imp (pw_or ha hb) fun σ H Q ⟨W, ρ, S, R, o⟩ => ⟨W, ρ, S, R, (OutM.bind o).imp fun k S1 W1 H1 F1 R1 h1 => ?_⟩
  cases k with
  | true => exact iteT (OutM.re R1 h1)
  | false => exact iteF ⟨W1, ρ, S1, R1, h1⟩
theorem dt_not {a : Expr} {fa : ST} {pos : Pos} (ha : DT X ca H0 Wx a fa) : DT X ca H0 Wx (.UnaryOp .Not a pos) (sNot fa) :=
  PT.imp (pt_not ha) fun σ H Q ⟨W, ρ, S, R, o⟩ => ⟨W, ρ, S, R, (OutM.bind o).imp fun k S1 W1 H1 F1 R1 h1 => OutM.re R1 h1⟩
/-- as values, of bools -/
def sNotV (fa : SE) : SE := fun ρ => mb (fa ρ) fun d => mb (mo (dBl d)) fun k => mp (.bl (!k))
def sAndV (fa fb : SE) : SE := fun ρ => mb (fa ρ) fun d => mb (mo (dBl d)) fun k => if k = true then fb ρ else mp (.bl false)
def sOrV (fa fb : SE) : SE := fun ρ => mb (fa ρ) fun d => mb (mo (dBl d)) fun k => if k = true then mp (.bl true) else fb ρ
def sIf (ft : ST) (fa fb : SE) : SE := fun ρ => mb (ft ρ) fun k => if k = true then fa ρ else fb ρ
theorem de_not {a : Expr} {fa : SE} {pos : Pos} (ha : DE X ca H0 Wx .frz a fa) : DE X ca H0 Wx m (.UnaryOp .Not a pos) (sNotV fa) := by
  refine PE.imp (pe_not ha) fun σ H Q ⟨W, ρ, S, R, o⟩ => ⟨W, ρ, S, R, (OutM.bind o).imp fun d S1 W1 H1 F1 R1 h1 x D1 => ?_⟩
  cases d with
  | bl b => exact ⟨b, DV.ofBl D1, OutM.re R1 (OutM.re R1 (OutM.bind h1)) _ (DR.scal rfl (.bl _))⟩
  | _ => exact False.elim h1
theorem de_one {op : BoolOp} {a : Expr} {fa : SE} {pos : Pos} (ha : DE X ca H0 Wx m a fa) : DE X ca H0 Wx m (.BoolOp op [a] pos) fa := pe_one ha
theorem de_and {a b : Expr} {rest : List Expr} {fa fb : SE} {pos : Pos} (ha : DE X ca H0 Wx .frz a fa) (hb : DE X ca H0 Wx m (.BoolOp .And (b :: rest) pos) fb) : DE X ca H0 Wx m (.BoolOp .And (a :: b :: rest) pos) (sAndV fa fb) := by
  refine PE.imp (pe_and ha hb) fun σ H Q ⟨W, ρ, S, R, o⟩ => ⟨W, ρ, S, R, (OutM.bind o).imp fun d S1 W1 H1 F1 R1 h1 x D1 => ?_⟩
  cases d with
  | bl b =>
    refine ⟨b, DV.ofBl D1, ?_⟩
    have h2 := OutM.re R1 (OutM.bind h1)
    cases b with
    | true => exact iteT ⟨W1, ρ, S1, R1, h2.imp fun d S2 W2 H2 F2 R2 q v r => q v (DR.older (fun a o h => F1.dom a o h) r)⟩
    | false => exact iteF (OutM.re R1 h2 _ (DR.scal rfl (.bl _)))
  | _ => exact False.elim h1
theorem de_or {a b : Expr} {rest : List Expr} {fa fb : SE} {pos : Pos} (ha : DE X ca H0 Wx .frz a fa) (hb : DE X ca H0 Wx m (.BoolOp .Or (b :: rest) pos) fb) : DE X ca H0 Wx m (.BoolOp .Or (a :: b :: rest) pos) (sOrV fa fb) := by
  refine PE.imp (pe_or ha hb) fun σ H Q ⟨W, ρ, S, R, o⟩ => ⟨W, ρ, S, R, (OutM.bind o).imp fun d S1 W1 H1 F1 R1 h1 x D1 => ?_⟩
  cases d with
  | bl b =>
    refine ⟨b, DV.ofBl D1, ?_⟩
    have h2 := OutM.re R1 (OutM.bind h1)
    cases b with
    | false => exact iteF ⟨W1, ρ, S1, R1, h2.imp fun d S2 W2 H2 F2 R2 q v r => q v (DR.older (fun a o h => F1.dom a o h) r)⟩
    | true => exact iteT (OutM.re R1 h2 _ (DR.scal rfl (.bl _)))
  | _ => exact False.elim h1
theorem de_if {c a b : Expr} {fc : ST} {fa fb : SE} {pos : Pos} (hc : DT X ca H0 Wx c fc) (ha : DE X ca H0 Wx m a fa) (hb : DE X ca H0 Wx m b fb) : DE X ca H0 Wx m (.IfExp c a b pos) (sIf fc fa fb) := by
  refine PE.imp (pe_ifExp hc ha hb) fun σ H Q ⟨W, ρ, S, R, o⟩ => ⟨W, ρ, S, R, (OutM.bind o).imp fun k S1 W1 H1 F1 R1 h1 => ?_⟩
  have go : ∀ {f : SE}, OutM X.K ca H0 Wx W1 ρ σ H1 (f ρ S1) (fun d x W' H' => ∀ (v : V), DR X.K ca m H W' H' v d → Q v H') → tE X.K ca H0 Wx m f σ H1 Q := fun {f} h =>
    ⟨W1, ρ, S1, R1, h.imp fun d S2 W2 H2 F2 R2 q v r => q v (DR.older (fun a o h => F1.dom a o h) r)⟩
  cases k with
  | true => exact iteT (go h1)
  | false => exact iteF (go h1)
/-! ### lists of expressions, displays -/
def sNil : SA := fun _ => mp []
def sCons (fa : SE) (fr : SA) : SA := fun ρ => mb (fa ρ) fun d => mb (fr ρ) fun ds => mp (d :: ds)
theorem DRs.later {K : PySem.W.Frag} {H H1 H2 : Hp} {W1 W2 : Wd} (hm : m ≠ .fre) (f : Fut W1 H1 W2 H2) : ∀ {vs : List V} {ds : List D}, DRs K ca m H W1 H1 vs ds → DRs K ca m H W2 H2 vs ds
  | _, _, .nil => .nil
  | _, _, .cons q r => .cons (DR.later hm f q) (DRs.later hm f r)
theorem DRs.dv {K : PySem.W.Frag} {H H1 : Hp} {W1 : Wd} : ∀ {vs : List V} {ds : List D}, DRs K ca .frz H W1 H1 vs ds → DVs K ca W1.hf W1.ad vs ds
  | _, _, .nil => .nil
  | _, _, .cons q r => .cons q (DRs.dv r)
theorem DRs.older {K : PySem.W.Frag} {H H1 H2 : Hp} {W1 : Wd} (dm : ∀ a o, H a = some o → ∃ o', H1 a = some o') : ∀ {vs : List V} {ds : List D}, DRs K ca m H1 W1 H2 vs ds → DRs K ca m H W1 H2 vs ds
  | _, _, .nil => .nil
  | _, _, .cons q r => .cons (DR.older dm q) (DRs.older dm r)
theorem da_nil : DA X ca H0 Wx m [] sNil := PA.imp pa_nil fun σ H Q ⟨W, ρ, S, R, o⟩ => OutM.re R o [] .nil
theorem da_cons {e : Expr} {es : List Expr} {fe : SE} {fr : SA} (hm : m ≠ .fre) (he : DE X ca H0 Wx m e fe) (hr : DA X ca H0 Wx m es fr) (hs : starEach (e :: es) X.env = (false, eval e X.env) :: starEach es X.env := by rfl) : DA X ca H0 Wx m (e :: es) (sCons fe fr) := by
  refine PA.imp (pa_cons he hr hs) fun σ H Q ⟨W, ρ, S, R, o⟩ => ⟨W, ρ, S, R, (OutM.bind o).imp fun d S1 W1 H1 F1 R1 h1 x D1 => ⟨W1, ρ, S1, R1, (OutM.bind h1).imp fun ds S2 W2 H2 F2 R2 h2 xs D2 => ?_⟩⟩
  exact OutM.re R2 h2 (x :: xs) (.cons (DR.later hm F2 D1) (DRs.older F1.dom D2))
def sTup (f : SA) : SE := fun ρ => mb (f ρ) fun ds => if ds.length ≤ sizeLine then mp (.tup ds) else mf
def sLst (f : SA) : SE := fun ρ => mb (f ρ) fun ds => if ds.length ≤ sizeLine then mp (.lst ds) else mf
theorem de_tup {es : List Expr} {f : SA} {k pos} (h : DA X ca H0 Wx .frz es f) : DE X ca H0 Wx m (.Tuple es k pos) (sTup f) := by
  refine PE.imp (pe_tup h) fun σ H Q ⟨W, ρ, S, R, o⟩ => ⟨W, ρ, S, R, (OutM.bind o).imp fun ds S1 W1 H1 F1 R1 h1 xs D1 => ?_⟩
  by_cases hz : ds.length ≤ sizeLine
  · rw [if_pos hz] at h1
    have hl := D1.dv.length
    exact ⟨by omega, FinR.tup (S := S1) (fun W' H' v F k r => h1 W' H' F (k _ _ R1) v (DR.older F1.dom r)) R1.w D1.dv⟩
  · rw [if_neg hz] at h1; exact False.elim h1
theorem de_lst {es : List Expr} {f : SA} {pos} (h : DA X ca H0 Wx .frz es f) : DE X ca H0 Wx m (.List es pos) (sLst f) := by
  refine PE.imp (pe_lst h) fun σ H Q ⟨W, ρ, S, R, o⟩ => ⟨W, ρ, S, R, (OutM.bind o).imp fun ds S1 W1 H1 F1 R1 h1 xs D1 => ?_⟩
  by_cases hz : ds.length ≤ sizeLine
  · rw [if_pos hz] at h1
    have hl := D1.dv.length
    exact ⟨by omega, FinR.lst (S := S1) (fun W' H' v F k r => h1 W' H' F (k _ _ R1) v (DR.older F1.dom r)) R1.w D1.dv⟩
  · rw [if_neg hz] at h1; exact False.elim h1
end
end DL

/-! DL3: the operators by their data. -/
namespace DL
open PySem PySem.Spec PyProof.Rows L2

mutual
def py : D → PyData
  | .non => .none
  | .bl b => .bool b
  | .int i => .int i
  | .str x => .str x
  | .tup l => .tuple (pys l)
  | .lst l => .list (pys l)
  | .rol l => .list (pys l)
  | _ => .none
def pys : List D → List PyData
  | [] => []
  | d :: r => py d :: pys r
end
mutual
def pyOk : D → Bool
  | .non => true
  | .bl _ => true
  | .int _ => true
  | .str _ => true
  | .tup l => pyOks l
  | .lst l => pyOks l
  | .rol l => pyOks l
  | _ => false
def pyOks : List D → Bool
  | [] => true
  | d :: r => pyOk d && pyOks r
end
section
variable {K : PySem.W.Frag} {ca : Ca} {h H : Hp} {ad : Nat → Option Addr}
mutual
theorem dp_of (s : Same h H) : ∀ {v : V} {d : D}, DV K ca h ad v d → pyOk d = true → Dp K H v (py d)
  | _, _, .non, _ => .non
  | _, _, .bl b, _ => .bl b
  | _, _, .int i, _ => .int i
  | _, _, .str x, _ => .str x
  | _, _, .tup q r, e => .tup (Same.tupq s q.sq) (dps_of s r e)
  | _, _, .lst q r, e => .lst (SqL.of (s _ _ q)) (dps_of s r e)
  | _, _, .rol q r, e => .lst (Same.lstq s q) (dps_of s r e)
theorem dps_of (s : Same h H) : ∀ {vs : List V} {ds : List D}, DVs K ca h ad vs ds → pyOks ds = true → DpAll K H vs (pys ds)
  | _, _, .nil, _ => .nil
  | _, _, .cons q r, e => .cons (dp_of s q (Bool.and_eq_true_iff.mp e).1) (dps_of s r (Bool.and_eq_true_iff.mp e).2)
end
theorem CV.dp {W : Wd} {v : V} {d : D} (w : WOk W H) (c : CV K ca W H v d) (e : pyOk d = true) : Dp K H v (py d) := by
  cases d with
  | lst l => obtain ⟨a, vs, rfl, q, r⟩ := c; exact .lst (SqL.of q) (dps_of w.sub r e)
  | tup l => exact dp_of w.sub (show DV K ca W.hf W.ad v (.tup l) from c) e
  | rol l => exact dp_of w.sub (show DV K ca W.hf W.ad v (.rol l) from c) e
  | non => exact dp_of w.sub (show DV K ca W.hf W.ad v .non from c) e
  | bl b => exact dp_of w.sub (show DV K ca W.hf W.ad v (.bl b) from c) e
  | int b => exact dp_of w.sub (show DV K ca W.hf W.ad v (.int b) from c) e
  | str b => exact dp_of w.sub (show DV K ca W.hf W.ad v (.str b) from c) e
  | _ => cases e
end
/-- data that == tells apart by the library's rule -/
def eqOk (d : D) : Bool := pyOk d && SeqAt.shaped (py d)
def eqD (a b : D) : Bool := PyData.eqv (py a) (py b)
def dEq : D → D → Option D
  | .str a, .str b => some (.bl (decide (a = b)))
  | .int a, .int b => some (.bl (decide (a = b)))
  | a, b => if (eqOk a && eqOk b) = true then some (.bl (eqD a b)) else none
def dNe : D → D → Option D
  | .str a, .str b => some (.bl (!decide (a = b)))
  | .int a, .int b => some (.bl (!decide (a = b)))
  | a, b => if (eqOk a && eqOk b) = true then some (.bl (!eqD a b)) else none
section
variable {X : Cx} {ca : Ca} {H0 : Bs} {m : Md}
/-- an operation that hands back a bool -/
theorem OpD.bl {f : Value → Value → Sem Value} {r : R2} {o : D → D → Option D} (h : OpR X f r)
    (g : ∀ W H S x y dx dy d (Q : VK), WOk W H → RepS X.K ca W H S → CV X.K ca W H x dx → CV X.K ca W H y dy → o dx dy = some d → ∃ k, d = .bl k ∧ (Q (.bl k) H → r x y H Q)) : OpD X ca H0 m f o :=
  ⟨r, h, fun W H S x y dx dy d Q w s cx cy e F => by
    obtain ⟨k, rfl, q⟩ := g W H S x y dx dy d Q w s cx cy e
    exact q (F.scal rfl (.bl k))⟩
theorem OpD.int {f : Value → Value → Sem Value} {r : R2} {o : D → D → Option D} (h : OpR X f r)
    (g : ∀ W H S x y dx dy d (Q : VK), WOk W H → RepS X.K ca W H S → CV X.K ca W H x dx → CV X.K ca W H y dy → o dx dy = some d → ∃ k, d = .int k ∧ (Q (.int k) H → r x y H Q)) : OpD X ca H0 m f o :=
  ⟨r, h, fun W H S x y dx dy d Q w s cx cy e F => by
    obtain ⟨k, rfl, q⟩ := g W H S x y dx dy d Q w s cx cy e
    exact q (F.scal rfl (.int k))⟩
theorem OpD.str {f : Value → Value → Sem Value} {r : R2} {o : D → D → Option D} (h : OpR X f r)
    (g : ∀ W H S x y dx dy d (Q : VK), WOk W H → RepS X.K ca W H S → CV X.K ca W H x dx → CV X.K ca W H y dy → o dx dy = some d → ∃ k, d = .str k ∧ (Q (.str k) H → r x y H Q)) : OpD X ca H0 m f o :=
  ⟨r, h, fun W H S x y dx dy d Q w s cx cy e F => by
    obtain ⟨k, rfl, q⟩ := g W H S x y dx dy d Q w s cx cy e
    exact q (F.scal rfl (.str k))⟩
/-- two ints -/
def o2I (C : Int → Int → Bool) (g : Int → Int → Int) : D → D → Option D
  | .int i, .int j => if C i j = true then some (.int (g i j)) else none
  | _, _ => none
def o2B (g : Int → Int → Bool) : D → D → Option D
  | .int i, .int j => some (.bl (g i j))
  | _, _ => none
theorem od_int {f : Value → Value → Sem Value} {C : Int → Int → Prop} {Cb : Int → Int → Bool} {g : Int → Int → Int} (h : OpR X f (rI C fun i j => .int (g i j))) (hc : ∀ i j, Cb i j = true → C i j) : OpD X ca H0 m f (o2I Cb g) :=
  OpD.int h fun W H S x y dx dy d Q w s cx cy e => by
    cases dx with
    | int i =>
      cases dy with
      | int j =>
        by_cases hb : Cb i j = true
        · have e' : (if Cb i j = true then some (D.int (g i j)) else none) = some d := e
          rw [if_pos hb] at e'; cases e'
          exact ⟨_, rfl, fun q => ⟨i, j, DV.ofInt cx, DV.ofInt cy, hc i j hb, q⟩⟩
        · have e' : (if Cb i j = true then some (D.int (g i j)) else none) = some d := e
          rw [if_neg hb] at e'; cases e'
      | _ => cases e
    | _ => cases e
theorem od_int0 {f : Value → Value → Sem Value} {g : Int → Int → Int} (h : OpR X f (rI0 fun i j => .int (g i j))) : OpD X ca H0 m f (o2I (fun _ _ => true) g) :=
  OpD.int h fun W H S x y dx dy d Q w s cx cy e => by
    cases dx with
    | int i =>
      cases dy with
      | int j =>
        have e' : (if true = true then some (D.int (g i j)) else none) = some d := e
        rw [if_pos rfl] at e'; cases e'
        exact ⟨_, rfl, fun q => ⟨i, j, DV.ofInt cx, DV.ofInt cy, q⟩⟩
      | _ => cases e
    | _ => cases e
theorem od_bl0 {f : Value → Value → Sem Value} {g : Int → Int → Bool} (h : OpR X f (rI0 fun i j => .bl (g i j))) : OpD X ca H0 m f (o2B g) :=
  OpD.bl h fun W H S x y dx dy d Q w s cx cy e => by
    cases dx with
    | int i =>
      cases dy with
      | int j => cases e; exact ⟨_, rfl, fun q => ⟨i, j, DV.ofInt cx, DV.ofInt cy, q⟩⟩
      | _ => cases e
    | _ => cases e
def o2S (g : Str → Str → Bool) : D → D → Option D
  | .str i, .str j => some (.bl (g i j))
  | _, _ => none
theorem od_str0 {f : Value → Value → Sem Value} {g : Str → Str → Bool} (h : OpR X f (fun x y H Q => ∃ i j, x = .str i ∧ y = .str j ∧ Q (.bl (g i j)) H)) : OpD X ca H0 m f (o2S g) :=
  OpD.bl h fun W H S x y dx dy d Q w s cx cy e => by
    cases dx with
    | str i =>
      cases dy with
      | str j => cases e; exact ⟨_, rfl, fun q => ⟨i, j, DV.ofStr cx, DV.ofStr cy, q⟩⟩
      | _ => cases e
    | _ => cases e
/-! ### + - * // % & -/
def oAddS : D → D → Option D
  | .str i, .str j => if i.length + j.length ≤ sizeLine then some (.str (i ++ j)) else none
  | _, _ => none
def oAddL : D → D → Option D
  | .lst i, .lst j => if i.length + j.length ≤ sizeLine then some (.lst (i ++ j)) else none
  | _, _ => none
def oAddT : D → D → Option D
  | .tup i, .tup j => if i.isEmpty = false ∧ i.length + j.length ≤ sizeLine then some (.tup (i ++ j)) else none
  | _, _ => none
theorem od_addS : OpD X ca H0 m (binaryOp .Add) oAddS := OpD.str op_add_str fun W H S x y dx dy d Q w s cx cy e => by
  cases dx with
  | str i =>
    cases dy with
    | str j =>
      have e' : (if i.length + j.length ≤ sizeLine then some (D.str (i ++ j)) else none) = some d := e
      by_cases h : i.length + j.length ≤ sizeLine
      · rw [if_pos h] at e'; cases e'; exact ⟨_, rfl, fun q => ⟨i, j, DV.ofStr cx, DV.ofStr cy, h, q⟩⟩
      · rw [if_neg h] at e'; cases e'
    | _ => cases e
  | _ => cases e
theorem od_addL : OpD X ca H0 m (binaryOp .Add) oAddL := ⟨rCat, op_cat, fun W H S x y dx dy d Q w s cx cy e F => by
  cases dx with
  | lst i =>
    cases dy with
    | lst j =>
      have e' : (if i.length + j.length ≤ sizeLine then some (D.lst (i ++ j)) else none) = some d := e
      by_cases h : i.length + j.length ≤ sizeLine
      · rw [if_pos h] at e'; cases e'
        obtain ⟨a, vs, rfl, h1, r1⟩ := cx
        obtain ⟨b, ws, rfl, h2, r2⟩ := cy
        exact ⟨a, b, vs, ws, rfl, rfl, h1, h2, by rw [r1.length, r2.length]; exact h, FinR.lst F w (r1.app r2)⟩
      · rw [if_neg h] at e'; cases e'
    | _ => cases e
  | _ => cases e⟩
theorem od_addT : OpD X ca H0 m (binaryOp .Add) oAddT := ⟨rCatT X.K, op_catT, fun W H S x y dx dy d Q w s cx cy e F => by
  cases dx with
  | tup i =>
    cases dy with
    | tup j =>
      have e' : (if i.isEmpty = false ∧ i.length + j.length ≤ sizeLine then some (D.tup (i ++ j)) else none) = some d := e
      by_cases h : i.isEmpty = false ∧ i.length + j.length ≤ sizeLine
      · rw [if_pos h] at e'; cases e'
        obtain ⟨a, vs, rfl, h1, r1⟩ := DV.ofTup cx
        obtain ⟨b, ws, rfl, h2, r2⟩ := DV.ofTup cy
        have hne : vs ≠ [] := fun z => by
          subst z
          cases r1
          exact absurd h.1 (by simp)
        refine ⟨a, b, vs, ws, rfl, rfl, Same.tupq w.sub h1.sq, Same.tupq w.sub h2.sq, hne, by rw [r1.length, r2.length]; exact h.2, ?_⟩
        refine ⟨fun z => ?_, fun _ => FinR.tup F w (r1.app r2)⟩
        subst z
        cases r2
        rw [List.append_nil] at F
        exact F.scal rfl (DV.tup h1 r1)
      · rw [if_neg h] at e'; cases e'
    | _ => cases e
  | _ => cases e⟩
def oAdd (a b : D) : Option D := match a with
  | .int _ => o2I (fun _ _ => true) (fun i j => i + j) a b
  | .str _ => oAddS a b
  | .lst _ => oAddL a b
  | .tup _ => oAddT a b
  | _ => none
theorem od_add : OpD X ca H0 m (binaryOp .Add) oAdd := by
  refine OpD.or (o := fun a b => match a with | .int _ => o2I (fun _ _ => true) (fun i j => i + j) a b | .str _ => oAddS a b | _ => none) (o' := fun a b => match a with | .lst _ => oAddL a b | .tup _ => oAddT a b | _ => none) ?_ ?_ ?_
  · refine OpD.or (od_int0 op_add) od_addS fun x y d e => ?_
    cases x with
    | int i => exact .inl e
    | str i => exact .inr e
    | _ => cases e
  · refine OpD.or od_addL od_addT fun x y d e => ?_
    cases x with
    | lst i => exact .inl e
    | tup i => exact .inr e
    | _ => cases e
  · intro x y d e
    cases x with
    | int i => exact .inl e
    | str i => exact .inl e
    | lst i => exact .inr e
    | tup i => exact .inr e
    | _ => cases e
def oSub : D → D → Option D := o2I (fun _ _ => true) fun i j => i - j
theorem od_sub : OpD X ca H0 m (binaryOp .Sub) oSub := od_int0 op_sub
noncomputable def cMul (i j : Int) : Bool := cdec (-(2 ^ 64) < i ∧ i < 2 ^ 64) || cdec (-(2 ^ 64) < j ∧ j < 2 ^ 64)
noncomputable def oMulS : D → D → Option D
  | .str x, .int n => cif (-1000000 ≤ n ∧ n ≤ 1000000 ∧ x.length * n.toNat ≤ 1000000) (some (.str (Txt.mul x n))) none
  | _, _ => none
noncomputable def oMulL : D → D → Option D
  | .lst l, .int n => cif (-1000000 ≤ n ∧ n ≤ 1000000 ∧ l.length * n.toNat ≤ sizeLine) (some (.lst (List.replicate n.toNat l).flatten)) none
  | _, _ => none
theorem mulOk_of {x : Str} {n : Int} (h0 : -1000000 ≤ n) (h1 : n ≤ 1000000) (h2 : x.length * n.toNat ≤ 1000000) : MulOk x n := by
  refine ⟨?_, fun hn hx => ?_, fun hn hx => ?_⟩
  · rw [Bool.or_eq_false_iff]
    exact ⟨decide_eq_false (by omega), decide_eq_false (by omega)⟩
  · have hp : 0 < n := by omega
    have e : (n.toNat : Int) = n := Int.toNat_of_nonneg (by omega)
    have h3 : (x.length : Int) * n ≤ 1000000 := by
      have h5 : ((x.length * n.toNat : Nat) : Int) ≤ 1000000 := by omega
      rw [Int.natCast_mul, e] at h5
      exact h5
    have h4 : (x.length : Int) ≤ (2 ^ 63 - 1) / n := by
      refine (Int.le_ediv_iff_mul_le hp).mpr ?_
      omega
    omega
  · show decide (x.length * n.toNat > sizeLine) = false
    rw [sizeLine_eq]
    exact decide_eq_false (by omega)
theorem op_mul_str {X : Cx} : OpR X (binaryOp .Mult) (fun x y H Q => ∃ z n, x = .str z ∧ y = .int n ∧ -1000000 ≤ n ∧ n ≤ 1000000 ∧ z.length * n.toNat ≤ 1000000 ∧ Q (.str (Txt.mul z n)) H) := by
  intro pins s σ H x y v u Q I rx ry h
  obtain ⟨z, n, rfl, rfl, h0, h1, h2, q⟩ := h
  obtain ⟨t, rfl⟩ := rx
  obtain ⟨t', rfl⟩ := ry
  exact SB.mul (mulOk_of h0 h1 h2) fun t' k => ⟨.str _, H, I.tok _, ⟨_, rfl⟩, q⟩
theorem od_mulS : OpD X ca H0 m (binaryOp .Mult) oMulS := OpD.str op_mul_str fun W H S x y dx dy d Q w s cx cy e => by
  cases dx with
  | str i =>
    cases dy with
    | int j =>
      have e' : (cif (-1000000 ≤ j ∧ j ≤ 1000000 ∧ i.length * j.toNat ≤ 1000000) (some (D.str (Txt.mul i j))) none) = some d := e
      by_cases h : -1000000 ≤ j ∧ j ≤ 1000000 ∧ i.length * j.toNat ≤ 1000000
      · rw [cif_pos h] at e'; cases e'; exact ⟨_, rfl, fun q => ⟨i, j, DV.ofStr cx, DV.ofInt cy, h.1, h.2.1, h.2.2, q⟩⟩
      · rw [cif_neg h] at e'; cases e'
    | _ => cases e
  | _ => cases e
theorem od_mulL : OpD X ca H0 m (binaryOp .Mult) oMulL := ⟨rRep, op_rep, fun W H S x y dx dy d Q w s cx cy e F => by
  cases dx with
  | lst i =>
    cases dy with
    | int j =>
      have e' : (cif (-1000000 ≤ j ∧ j ≤ 1000000 ∧ i.length * j.toNat ≤ sizeLine) (some (D.lst (List.replicate j.toNat i).flatten)) none) = some d := e
      by_cases h : -1000000 ≤ j ∧ j ≤ 1000000 ∧ i.length * j.toNat ≤ sizeLine
      · rw [cif_pos h] at e'; cases e'
        obtain ⟨a, vs, rfl, h1, r1⟩ := cx
        refine ⟨a, j, vs, rfl, DV.ofInt cy, h1, by omega, by omega, by rw [r1.length]; exact h.2.2, FinR.lst F w (r1.rep _)⟩
      · rw [cif_neg h] at e'; cases e'
    | _ => cases e
  | _ => cases e⟩
noncomputable def oMul (a b : D) : Option D := match a with
  | .int _ => o2I cMul (fun i j => i * j) a b
  | .str _ => oMulS a b
  | .lst _ => oMulL a b
  | _ => none
theorem od_mul : OpD X ca H0 m (binaryOp .Mult) oMul := by
  refine OpD.or (o := fun a b => match a with | .int _ => o2I cMul (fun i j => i * j) a b | .str _ => oMulS a b | _ => none) (o' := oMulL) ?_ od_mulL ?_
  · refine OpD.or (od_int (Cb := cMul) op_mul fun i j h => ?_) od_mulS fun x y d e => ?_
    · unfold cMul at h
      rw [Bool.or_eq_true, cdec_iff, cdec_iff] at h
      exact h
    · cases x with
      | int i => exact .inl e
      | str i => exact .inr e
      | _ => cases e
  · intro x y d e
    cases x with
    | int i => exact .inl e
    | str i => exact .inl e
    | lst i => exact .inr e
    | _ => cases e
noncomputable def cDiv (_ j : Int) : Bool := cdec (0 < j ∧ j < 1073741824)
noncomputable def oDiv : D → D → Option D := o2I cDiv fun i j => i / j
theorem od_div : OpD X ca H0 m (binaryOp .FloorDiv) oDiv := od_int op_fdiv fun i j h => (show 0 < j ∧ j < 1073741824 from cdec_iff.mp h)
def cMod (_ j : Int) : Bool := decide (0 < j)
def oMod : D → D → Option D := o2I cMod fun i j => i % j
theorem od_mod : OpD X ca H0 m (binaryOp .Mod) oMod := od_int op_mod fun i j h => (show 0 < j from of_decide_eq_true h)
def oBand : D → D → Option D := o2I (fun _ _ => true) Builtin.bitAnd
theorem od_band : OpD X ca H0 m (binaryOp .BitAnd) oBand := od_int0 op_and
/-! ### order -/
def oCmp (g : Int → Int → Bool) (gs : Str → Str → Bool) (a b : D) : Option D := match a with
  | .int _ => o2B g a b
  | .str _ => o2S gs a b
  | _ => none
theorem od_cmp {f : Value → Value → Sem Value} {g : Int → Int → Bool} {gs : Str → Str → Bool} (h : OpR X f (rI0 fun i j => .bl (g i j))) (h' : OpR X f (fun x y H Q => ∃ i j, x = .str i ∧ y = .str j ∧ Q (.bl (gs i j)) H)) : OpD X ca H0 m f (oCmp g gs) :=
  OpD.or (od_bl0 h) (od_str0 h') fun x y d e => by
    cases x with
    | int i => exact .inl e
    | str i => exact .inr e
    | _ => cases e
def oLt := oCmp (fun i j => decide (i < j)) fun i j => decide (i.cps.toList < j.cps.toList)
def oLe := oCmp (fun i j => decide (i ≤ j)) fun i j => !decide (j.cps.toList < i.cps.toList)
def oGt := oCmp (fun i j => decide (j < i)) fun i j => decide (j.cps.toList < i.cps.toList)
def oGe := oCmp (fun i j => decide (j ≤ i)) fun i j => !decide (i.cps.toList < j.cps.toList)
theorem od_lt : OpD X ca H0 m (compareOp .Lt) oLt := od_cmp op_lt op_lt_str
theorem od_le : OpD X ca H0 m (compareOp .LtE) oLe := od_cmp op_le op_le_str
theorem od_gt : OpD X ca H0 m (compareOp .Gt) oGt := od_cmp op_gt op_gt_str
theorem od_ge : OpD X ca H0 m (compareOp .GtE) oGe := od_cmp op_ge op_ge_str
/-! ### ==, != -/
def oEqS : D → D → Option D
  | .str a, .str b => some (.bl (decide (a = b)))
  | .int a, .int b => some (.bl (decide (a = b)))
  | _, _ => none
def oEqD (a b : D) : Option D := if (eqOk a && eqOk b) = true then some (.bl (eqD a b)) else none
def oNeS : D → D → Option D
  | .str a, .str b => some (.bl (!decide (a = b)))
  | .int a, .int b => some (.bl (!decide (a = b)))
  | _, _ => none
def oNeD (a b : D) : Option D := if (eqOk a && eqOk b) = true then some (.bl (!eqD a b)) else none
theorem dec_vi {i j : Int} : decide (V.int i = V.int j) = decide (i = j) := by simp
theorem dec_vs {i j : Str} : decide (V.str i = V.str j) = decide (i = j) := by simp
theorem od_eqS : OpD X ca H0 m (compareOp .Eq) oEqS := OpD.bl op_eq fun W H S x y dx dy d Q w s cx cy e => by
  cases dx with
  | int i =>
    cases dy with
    | int j => cases e; obtain rfl := DV.ofInt cx; obtain rfl := DV.ofInt cy; exact ⟨_, rfl, fun q => ⟨rfl, by rw [dec_vi]; exact q⟩⟩
    | _ => cases e
  | str i =>
    cases dy with
    | str j => cases e; obtain rfl := DV.ofStr cx; obtain rfl := DV.ofStr cy; exact ⟨_, rfl, fun q => ⟨rfl, by rw [dec_vs]; exact q⟩⟩
    | _ => cases e
  | _ => cases e
theorem od_neS : OpD X ca H0 m (compareOp .NotEq) oNeS := OpD.bl op_ne fun W H S x y dx dy d Q w s cx cy e => by
  cases dx with
  | int i =>
    cases dy with
    | int j => cases e; obtain rfl := DV.ofInt cx; obtain rfl := DV.ofInt cy; exact ⟨_, rfl, fun q => ⟨rfl, by rw [dec_vi]; exact q⟩⟩
    | _ => cases e
  | str i =>
    cases dy with
    | str j => cases e; obtain rfl := DV.ofStr cx; obtain rfl := DV.ofStr cy; exact ⟨_, rfl, fun q => ⟨rfl, by rw [dec_vs]; exact q⟩⟩
    | _ => cases e
  | _ => cases e
theorem od_eqD (hu : X.A.units + 64 < cLine) : OpD X ca H0 m (compareOp .Eq) oEqD := OpD.bl (op_eqD hu) fun W H S x y dx dy d Q w s cx cy e => by
  unfold oEqD at e
  by_cases h : (eqOk dx && eqOk dy) = true
  · rw [if_pos h] at e; cases e
    obtain ⟨h1, h2⟩ := Bool.and_eq_true_iff.mp h
    obtain ⟨p1, p2⟩ := Bool.and_eq_true_iff.mp h1
    obtain ⟨q1, q2⟩ := Bool.and_eq_true_iff.mp h2
    exact ⟨_, rfl, fun q => ⟨py dx, py dy, cx.dp w p1, cy.dp w q1, p2, q2, q⟩⟩
  · rw [if_neg h] at e; cases e
theorem od_neD (hu : X.A.units + 64 < cLine) : OpD X ca H0 m (compareOp .NotEq) oNeD := OpD.bl (op_neD hu) fun W H S x y dx dy d Q w s cx cy e => by
  unfold oNeD at e
  by_cases h : (eqOk dx && eqOk dy) = true
  · rw [if_pos h] at e; cases e
    obtain ⟨h1, h2⟩ := Bool.and_eq_true_iff.mp h
    obtain ⟨p1, p2⟩ := Bool.and_eq_true_iff.mp h1
    obtain ⟨q1, q2⟩ := Bool.and_eq_true_iff.mp h2
    exact ⟨_, rfl, fun q => ⟨py dx, py dy, cx.dp w p1, cy.dp w q1, p2, q2, q⟩⟩
  · rw [if_neg h] at e; cases e
theorem od_eq (hu : X.A.units + 64 < cLine) : OpD X ca H0 m (compareOp .Eq) dEq := OpD.or od_eqS (od_eqD hu) fun x y d e => by
  unfold dEq at e
  split at e
  · exact .inl e
  · exact .inl e
  · exact .inr e
theorem od_ne (hu : X.A.units + 64 < cLine) : OpD X ca H0 m (compareOp .NotEq) dNe := OpD.or od_neS (od_neD hu) fun x y d e => by
  unfold dNe at e
  split at e
  · exact .inl e
  · exact .inl e
  · exact .inr e
/-! ### in, not in -/
def flatD : D → Bool
  | .non => true
  | .bl _ => true
  | .int _ => true
  | .str _ => true
  | _ => false
def eqF : D → D → Bool
  | .non, .non => true
  | .bl a, .bl b => a == b
  | .bl a, .int b => (if a then 1 else 0) == b
  | .int a, .bl b => a == (if b then 1 else 0)
  | .int a, .int b => a == b
  | .str a, .str b => a == b
  | _, _ => false
theorem flat_of {K : PySem.W.Frag} {h : Hp} {ad : Nat → Option Addr} {v : V} {d : D} (q : DV K ca h ad v d) (f : flatD d = true) : flatV v = true := by
  cases q <;> first | rfl | cases f
theorem flats_of {K : PySem.W.Frag} {h : Hp} {ad : Nat → Option Addr} : ∀ {vs : List V} {ds : List D}, DVs K ca h ad vs ds → ds.all flatD = true → vs.all flatV = true
  | _, _, .nil, _ => rfl
  | _, _, .cons q r, f => by
    rw [List.all_cons, Bool.and_eq_true] at f ⊢
    exact ⟨flat_of q f.1, flats_of r f.2⟩
theorem eqF_of {K : PySem.W.Frag} {h : Hp} {ad : Nat → Option Addr} {v w : V} {d e : D} (q : DV K ca h ad v d) (f : flatD d = true) (q' : DV K ca h ad w e) (f' : flatD e = true) : eqV v w = eqF d e := by
  cases q <;> first | (cases q' <;> first | rfl | (cases f'; done)) | (cases f; done)
theorem inV_of {K : PySem.W.Frag} {h : Hp} {ad : Nat → Option Addr} {v : V} {d : D} (q : DV K ca h ad v d) (f : flatD d = true) : ∀ {vs : List V} {ds : List D}, DVs K ca h ad vs ds → ds.all flatD = true → inV v vs = ds.any fun e => eqF e d
  | _, _, .nil, _ => rfl
  | _, _, .cons p r, fs => by
    rw [List.all_cons, Bool.and_eq_true] at fs
    have ih := inV_of q f r fs.2
    unfold inV at ih ⊢
    rw [List.any_cons, List.any_cons, eqF_of p fs.1 q f, ih]
def oInF (neg : Bool) (x y : D) : Option D := match y with
  | .lst l => if (flatD x && l.all flatD) = true then some (.bl (if neg then !(l.any fun e => eqF e x) else l.any fun e => eqF e x)) else none
  | .tup l => if (flatD x && l.all flatD) = true then some (.bl (if neg then !(l.any fun e => eqF e x) else l.any fun e => eqF e x)) else none
  | _ => none
theorem od_inF {op : CmpOp} {neg : Bool} (h : OpR X (compareOp op) (rIn X.K neg)) : OpD X ca H0 m (compareOp op) (oInF neg) := OpD.bl h fun W H S x y dx dy d Q w s cx cy e => by
  have hx : flatD dx = true → DV X.K ca W.hf W.ad x dx := fun f => by
    cases dx <;> first | exact cx | cases f
  cases dy with
  | lst l =>
    have e' : (if (flatD dx && l.all flatD) = true then some (D.bl (if neg then !(l.any fun e => eqF e dx) else l.any fun e => eqF e dx)) else none) = some d := e
    by_cases hf : (flatD dx && l.all flatD) = true
    · rw [if_pos hf] at e'; cases e'
      obtain ⟨f1, f2⟩ := Bool.and_eq_true_iff.mp hf
      obtain ⟨a, vs, rfl, h1, r1⟩ := cy
      refine ⟨_, rfl, fun q => ⟨a, vs, rfl, .inl (SqL.of h1), flat_of (hx f1) f1, flats_of r1 f2, ?_⟩⟩
      rw [inV_of (hx f1) f1 r1 f2]; exact q
    · rw [if_neg hf] at e'; cases e'
  | tup l =>
    have e' : (if (flatD dx && l.all flatD) = true then some (D.bl (if neg then !(l.any fun e => eqF e dx) else l.any fun e => eqF e dx)) else none) = some d := e
    by_cases hf : (flatD dx && l.all flatD) = true
    · rw [if_pos hf] at e'; cases e'
      obtain ⟨f1, f2⟩ := Bool.and_eq_true_iff.mp hf
      obtain ⟨a, vs, rfl, h1, r1⟩ := DV.ofTup cy
      refine ⟨_, rfl, fun q => ⟨a, vs, rfl, .inr (Same.tupq w.sub h1.sq), flat_of (hx f1) f1, flats_of r1 f2, ?_⟩⟩
      rw [inV_of (hx f1) f1 r1 f2]; exact q
    · rw [if_neg hf] at e'; cases e'
  | _ => cases e
/-- a sign in a text -/
def oInS (neg : Bool) : D → D → Option D
  | .str x, .str z => match x.cps with
    | ⟨[c]⟩ => some (.bl (if neg then !decide (c ∈ z.cps.toList) else decide (c ∈ z.cps.toList)))
    | _ => none
  | _, _ => none
theorem od_inS {op : CmpOp} {neg : Bool} (h : OpR X (compareOp op) (fun x y H Q => ∃ (c : Nat) (z : Str), x = .str ⟨#[c]⟩ ∧ y = .str z ∧ Q (.bl (if neg then !decide (c ∈ z.cps.toList) else decide (c ∈ z.cps.toList))) H)) : OpD X ca H0 m (compareOp op) (oInS neg) :=
  OpD.bl h fun W H S x y dx dy d Q w s cx cy e => by
    cases dx with
    | str i =>
      cases dy with
      | str z =>
        obtain ⟨⟨l⟩⟩ := i
        cases l with
        | nil => cases e
        | cons c r =>
          cases r with
          | nil => cases e; exact ⟨_, rfl, fun q => ⟨c, z, DV.ofStr cx, DV.ofStr cy, q⟩⟩
          | cons _ _ => cases e
      | _ => cases e
    | _ => cases e
/-- data of any depth in a list -/
def oInD (neg : Bool) (x y : D) : Option D := match y with
  | .lst l => if (eqOk x && eqOk (.lst l)) = true then some (.bl (if neg then !(l.any fun e => eqD e x) else l.any fun e => eqD e x)) else none
  | _ => none
theorem pys_any (g : PyData → Bool) : ∀ l : List D, (pys l).any g = l.any fun e => g (py e)
  | [] => rfl
  | d :: r => by
    show (g (py d) || (pys r).any g) = _
    rw [pys_any g r]; rfl
theorem od_inD {op : CmpOp} {neg : Bool} (h : OpR X (compareOp op) (fun x y H Q => ∃ d ds, Dp X.K H x d ∧ Dp X.K H y (.list ds) ∧ SeqAt.shaped d = true ∧ SeqAt.shaped (.list ds) = true ∧ Q (.bl (if neg then !ds.any fun z => PyData.eqv z d else ds.any fun z => PyData.eqv z d)) H)) : OpD X ca H0 m (compareOp op) (oInD neg) :=
  OpD.bl h fun W H S x y dx dy d Q w s cx cy e => by
    cases dy with
    | lst l =>
      have e' : (if (eqOk dx && eqOk (.lst l)) = true then some (D.bl (if neg then !(l.any fun e => eqD e dx) else l.any fun e => eqD e dx)) else none) = some d := e
      by_cases hf : (eqOk dx && eqOk (.lst l)) = true
      · rw [if_pos hf] at e'; cases e'
        obtain ⟨h1, h2⟩ := Bool.and_eq_true_iff.mp hf
        obtain ⟨p1, p2⟩ := Bool.and_eq_true_iff.mp h1
        obtain ⟨q1, q2⟩ := Bool.and_eq_true_iff.mp h2
        refine ⟨_, rfl, fun q => ⟨py dx, pys l, cx.dp w p1, cy.dp w q1, p2, q2, ?_⟩⟩
        rw [pys_any]; exact q
      · rw [if_neg hf] at e'; cases e'
    | _ => cases e
/-- in: a sign in a text; flat things in a list or a tuple; data in a list -/
def oIn (neg : Bool) (x y : D) : Option D := match y with
  | .str _ => oInS neg x y
  | .tup _ => oInF neg x y
  | .lst _ => if flatD x = true then oInF neg x y else oInD neg x y
  | _ => none
theorem od_in (hu : X.A.units + 65 < cLine) : OpD X ca H0 m (compareOp .In) (oIn false) := by
  refine OpD.or (OpD.or (o'' := fun x y => match y with | .str _ => oInS false x y | _ => oInF false x y) (od_inS (neg := false) op_in_sign) (od_inF (neg := false) op_in_seq) fun x y d e => ?_) (od_inD (neg := false) (op_inD hu)) fun x y d e => ?_
  · cases y with
    | str z => exact .inl e
    | _ => exact .inr e
  · cases y with
    | str z => exact .inl e
    | tup z => exact .inl e
    | lst z =>
      have e' : (if flatD x = true then oInF false x (.lst z) else oInD false x (.lst z)) = some d := e
      by_cases h : flatD x = true
      · rw [if_pos h] at e'; exact .inl e'
      · rw [if_neg h] at e'; exact .inr e'
    | _ => cases e
theorem od_notIn (hu : X.A.units + 65 < cLine) : OpD X ca H0 m (compareOp .NotIn) (oIn true) := by
  refine OpD.or (OpD.or (o'' := fun x y => match y with | .str _ => oInS true x y | _ => oInF true x y) (od_inS (neg := true) op_notIn_sign) (od_inF (neg := true) op_notIn_seq) fun x y d e => ?_) (od_inD (neg := true) (op_notInD hu)) fun x y d e => ?_
  · cases y with
    | str z => exact .inl e
    | _ => exact .inr e
  · cases y with
    | str z => exact .inl e
    | tup z => exact .inl e
    | lst z =>
      have e' : (if flatD x = true then oInF true x (.lst z) else oInD true x (.lst z)) = some d := e
      by_cases h : flatD x = true
      · rw [if_pos h] at e'; exact .inl e'
      · rw [if_neg h] at e'; exact .inr e'
    | _ => cases e
/-! ### is None -/
def isN : D → Bool
  | .non => true
  | _ => false
def sIsN (neg : Bool) (f : SE) : SE := fun ρ => mb (f ρ) fun d => mp (.bl (if neg then !isN d else isN d))
theorem isN_of {K : PySem.W.Frag} {h : Hp} {ad : Nat → Option Addr} {v : V} {d : D} (q : DV K ca h ad v d) : decide (v = .non) = isN d := by
  cases q <;> rfl
theorem bor_non {K : PySem.W.Frag} {H H' : Hp} {W' : Wd} {v : V} {d : D} (q : DR K ca .bor H W' H' v d) : decide (v = .non) = isN d := by
  cases d with
  | lst l => obtain ⟨a, vs, rfl, _⟩ := q; rfl
  | dK l => obtain ⟨a, vs, rfl, _⟩ := q; rfl
  | dT l => obtain ⟨a, vs, rfl, _⟩ := q; rfl
  | non => exact isN_of (show DV K ca W'.hf W'.ad v .non from q)
  | bl b => exact isN_of (show DV K ca W'.hf W'.ad v (.bl b) from q)
  | int b => exact isN_of (show DV K ca W'.hf W'.ad v (.int b) from q)
  | str b => exact isN_of (show DV K ca W'.hf W'.ad v (.str b) from q)
  | tup b => exact isN_of (show DV K ca W'.hf W'.ad v (.tup b) from q)
  | rol b => exact isN_of (show DV K ca W'.hf W'.ad v (.rol b) from q)
  | obj b => exact isN_of (show DV K ca W'.hf W'.ad v (.obj b) from q)
  | ins b c => exact isN_of (show DV K ca W'.hf W'.ad v (.ins b c) from q)
theorem de_isN {Wx : WX} {a : Expr} {fa : SE} {pos : Pos} {j pos'} (ha : DE X ca H0 Wx .bor a fa) : DE X ca H0 Wx m (.Compare a [.Is] [.Constant .none j pos'] pos) (sIsN false fa) := by
  refine PE.imp (pe_cmp (pc_isN ha)) fun σ H Q ⟨W, ρ, S, R, o⟩ => ⟨W, ρ, S, R, (OutM.bind o).imp fun d S1 W1 H1 F1 R1 h1 x D1 => ?_⟩
  show Q (.bl (decide (x = .non))) H1
  rw [bor_non D1]
  exact OutM.re R1 h1 _ (DR.scal rfl (.bl _))
theorem de_notN {Wx : WX} {a : Expr} {fa : SE} {pos : Pos} {j pos'} (ha : DE X ca H0 Wx .bor a fa) : DE X ca H0 Wx m (.Compare a [.IsNot] [.Constant .none j pos'] pos) (sIsN true fa) := by
  refine PE.imp (pe_cmp (pc_notN ha)) fun σ H Q ⟨W, ρ, S, R, o⟩ => ⟨W, ρ, S, R, (OutM.bind o).imp fun d S1 W1 H1 F1 R1 h1 x D1 => ?_⟩
  show Q (.bl (!decide (x = .non))) H1
  rw [bor_non D1]
  exact OutM.re R1 h1 _ (DR.scal rfl (.bl _))
theorem dt_pe {Wx : WX} {e : Expr} {f : SE} (h : DE X ca H0 Wx .frz e f) (he : ∀ whole, isTrue e X.env whole = (do let v ← whole; standAt e.pos; holding [v] (truthy v)) := by intro _; rfl) : DT X ca H0 Wx e (sBl f) :=
  PT.imp (pt_val h he) fun σ H Q h => test_of h
end
end DL

/-! DL4: subscripts, slices, calls of built-ins and of their methods. -/
namespace DL
open PySem PySem.Spec PyProof.Rows L2

section
variable {K : PySem.W.Frag} {ca : Ca} {h : Hp} {ad : Nat → Option Addr}
theorem DVs.at_ {vs : List V} {ds : List D} {i : Int} {d : D} (q : DVs K ca h ad vs ds) (e : atI ds i = some d) : ∃ v, atI vs i = some v ∧ DV K ca h ad v d := by
  unfold atI at e ⊢
  rw [q.length]
  cases hi : ixN ds.length i with
  | none => rw [hi] at e; cases e
  | some j =>
    rw [hi] at e
    exact q.get e
theorem DVs.cut {vs : List V} {ds : List D} (q : DVs K ca h ad vs ds) (lo hi : Option Int) : DVs K ca h ad (cutV vs lo hi) ((ds.drop (HT.sIx ds.length 0 lo)).take (HT.sIx ds.length ds.length hi - HT.sIx ds.length 0 lo)) := by
  unfold cutV
  rw [q.length]
  exact (q.drop _).take _
/-- lists of values as they stand -/
inductive CVs (K : PySem.W.Frag) (ca : Ca) (W : Wd) (H : Hp) : List V → List D → Prop
  | nil : CVs K ca W H [] []
  | cons {v : V} {vs : List V} {d : D} {ds : List D} : CV K ca W H v d → CVs K ca W H vs ds → CVs K ca W H (v :: vs) (d :: ds)
theorem DRs.view {m : Md} {W : Wd} {H H' : Hp} {S : Sto} (w : WOk W H') (s : RepS K ca W H' S) : ∀ {vs : List V} {ds : List D}, DRs K ca m H W H' vs ds → CVs K ca W H' vs (ds.map (dref S))
  | _, _, .nil => .nil
  | _, _, .cons q r => .cons (DR.view w s q) (DRs.view w s r)
theorem CVs.one {W : Wd} {H : Hp} {vs : List V} {d : D} (q : CVs K ca W H vs [d]) : ∃ v, vs = [v] ∧ CV K ca W H v d := by
  cases q with
  | cons c r => cases r; exact ⟨_, rfl, c⟩
theorem CVs.two {W : Wd} {H : Hp} {vs : List V} {d e : D} (q : CVs K ca W H vs [d, e]) : ∃ v w, vs = [v, w] ∧ CV K ca W H v d ∧ CV K ca W H w e := by
  cases q with
  | cons c r =>
    cases r with
    | cons c' r => cases r; exact ⟨_, _, rfl, c, c'⟩
end
/-- xs[lo:hi] of data -/
def cutD (ds : List D) (lo hi : Option Int) : List D := (ds.drop (HT.sIx ds.length 0 lo)).take (HT.sIx ds.length ds.length hi - HT.sIx ds.length 0 lo)

/-! ### subscripts -/
def oIx : D → D → Option D
  | .lst l, .int i => atI l i
  | .rol l, .int i => atI l i
  | .tup l, .int i => atI l i
  | .str z, .int i => if z.length ≤ sizeLine then (atI z.cps.toList i).map fun c => .str ⟨#[c]⟩ else none
  | _, _ => none
section
variable {X : Cx} {ca : Ca} {H0 : Bs} {Wx : WX} {m : Md}
theorem FinR.dv {K : PySem.W.Frag} {W : Wd} {H : Hp} {S : Sto} {d : D} {Q : VK} {v : V} (hm : m ≠ .fre) (f : FinR K ca H0 m W H S d Q) (w : WOk W H) (q : DV K ca W.hf W.ad v d) : Q v H := by
  refine f W H v (FutG.refl _ _) (fun _ _ R => R) ?_
  cases m with
  | frz => exact q
  | bor => exact DR.toBor (m := .frz) (H := H) w q
  | sta => exact DR.toSta (m := .frz) (H := H) (by decide) w q
  | fre => exact absurd rfl hm
theorem ix_of (hm : m ≠ .fre) {W : Wd} {H : Hp} {S : Sto} {x y : V} {dx dy d : D} {Q : VK} (w : WOk W H) (cx : CV X.K ca W H x dx) (cy : CV X.K ca W H y dy) (e : oIx dx dy = some d) (F : FinR X.K ca H0 m W H S d Q) : rIx X.K x y H Q := by
  cases dx with
  | lst l =>
    cases dy with
    | int i =>
      obtain ⟨a, vs, rfl, h1, r⟩ := cx
      obtain ⟨v, h2, q⟩ := r.at_ (show atI l i = some d from e)
      exact .inl ⟨a, vs, i, v, rfl, DV.ofInt cy, SqL.of h1, h2, F.dv hm w q⟩
    | _ => cases e
  | rol l =>
    cases dy with
    | int i =>
      obtain ⟨a, vs, rfl, h1, r⟩ := DV.ofRol cx
      obtain ⟨v, h2, q⟩ := r.at_ (show atI l i = some d from e)
      exact .inl ⟨a, vs, i, v, rfl, DV.ofInt cy, Same.lstq w.sub h1, h2, F.dv hm w q⟩
    | _ => cases e
  | tup l =>
    cases dy with
    | int i =>
      obtain ⟨a, vs, rfl, h1, r⟩ := DV.ofTup cx
      obtain ⟨v, h2, q⟩ := r.at_ (show atI l i = some d from e)
      exact .inr (.inl ⟨a, vs, i, v, rfl, DV.ofInt cy, Same.tupq w.sub h1.sq, h2, F.dv hm w q⟩)
    | _ => cases e
  | str z =>
    cases dy with
    | int i =>
      have e' : (if z.length ≤ sizeLine then (atI z.cps.toList i).map fun c => D.str ⟨#[c]⟩ else none) = some d := e
      by_cases hz : z.length ≤ sizeLine
      · rw [if_pos hz] at e'
        obtain ⟨c, h1, h2⟩ := Option.map_eq_some_iff.mp e'
        subst h2
        exact .inr (.inr ⟨z, i, c, DV.ofStr cx, DV.ofInt cy, hz, h1, F.scal rfl (.str _)⟩)
      · rw [if_neg hz] at e'; cases e'
    | _ => cases e
  | _ => cases e
theorem de_ix {a b : Expr} {fa fb : SE} {pos : Pos} (hm : m ≠ .fre) (ha : DE X ca H0 Wx .bor a fa) (hb : DE X ca H0 Wx .bor b fb) (hs : PlainIx b := by intro _ _; rfl) : DE X ca H0 Wx m (.Subscript a b pos) (sBin oIx fa fb) :=
  PE.imp (pe_ix ix_seq ha hb hs) fun σ H Q h => two_of (fun W H S x y dx dy d Q w s cx cy e F => ix_of hm w cx cy e F) h
/-! ### slices -/
abbrev SO := Rho → M (Option Int)
def tO (K : PySem.W.Frag) (ca : Ca) (H0 : Bs) (Wx : WX) (f : SO) : TO := fun σ H Q => ∃ W ρ S, Rep K ca H0 W H σ ρ S ∧ OutM K ca H0 Wx W ρ σ H (f ρ S) fun i _ _ H' => Q i H'
abbrev DO (X : Cx) (ca : Ca) (H0 : Bs) (Wx : WX) (e : Option Expr) (f : SO) : Prop := PO X e (tO X.K ca H0 Wx f)
theorem PO.imp {X : Cx} {e : Option Expr} {t t' : TO} (h : PO X e t) (i : ∀ σ H Q, t' σ H Q → t σ H Q) : PO X e t' :=
  ⟨fun pins s σ H Q I q => h.run pins s σ H Q I (i σ H Q q)⟩
def sNo : SO := fun _ => mp none
def dInt : D → Option Int
  | .int i => some i
  | _ => none
def sPart (f : SE) : SO := fun ρ => mb (f ρ) fun d => mo ((dInt d).map some)
theorem do_none : DO X ca H0 Wx none sNo := PO.imp po_none fun σ H Q ⟨W, ρ, S, R, o⟩ => OutM.re R o
theorem do_some {e : Expr} {f : SE} (h : DE X ca H0 Wx .frz e f) : DO X ca H0 Wx (some e) (sPart f) := PO.imp (po_some h) fun σ H Q ⟨W, ρ, S, R, o⟩ => ⟨W, ρ, S, R, (OutM.bind o).imp fun d S1 W1 H1 F1 R1 h1 x D1 => by
  cases d with
  | int i => exact ⟨i, DV.ofInt D1, OutM.re R1 h1⟩
  | _ => exact False.elim h1⟩
def oSl (d : D) (lo hi : Option Int) : Option D := match d with
  | .lst l => some (.lst (cutD l lo hi))
  | .str z => if z.length ≤ sizeLine then some (.str (cutS z lo hi)) else none
  | .tup l => some (.tup (cutD l lo hi))
  | _ => none
def sSl (fe : SE) (fl fh : SO) : SE := fun ρ => mb (fe ρ) fun d => mb (fl ρ) fun lo => mb (fh ρ) fun hi S => mo (oSl (dref S d) lo hi) S
theorem de_slice {e : Expr} {lo hi : Option Expr} {fe : SE} {fl fh : SO} {p2 pos : Pos} (he : DE X ca H0 Wx .bor e fe) (hl : DO X ca H0 Wx lo fl) (hh : DO X ca H0 Wx hi fh) : DE X ca H0 Wx m (.Subscript e (.Slice lo hi none p2) pos) (sSl fe fl fh) := by
  refine PE.imp (pe_slice (SlR.or sl_list (SlR.or sl_str sl_tupA)) he hl hh) fun σ H Q ⟨W, ρ, S, R, o⟩ => ⟨W, ρ, S, R, (OutM.bind o).imp fun d S1 W1 H1 F1 R1 h1 x D1 => ⟨W1, ρ, S1, R1, (OutM.bind h1).imp fun l S2 W2 H2 F2 R2 h2 => ⟨W2, ρ, S2, R2, (OutM.bind h2).imp fun u S3 W3 H3 F3 R3 h3 => ?_⟩⟩⟩
  have c := DR.view R3.w R3.s (DR.later (by decide) (Fut.trans' F2 F3) D1)
  have go : ∀ {z : D}, oSl (dref S3 d) l u = some z → FinR X.K ca H0 m W3 H3 S3 z Q := fun {z} e W' H' v F k r => by
    rw [e] at h3
    exact h3 W' H' F (k _ _ R3) v (DR.older (fun a o ha => (Fut.trans' F1 (Fut.trans' F2 F3)).dom a o ha) r)
  cases e : dref S3 d with
  | lst ds =>
    rw [e] at c
    obtain ⟨a, vs, rfl, k1, r⟩ := c
    exact .inl ⟨a, vs, rfl, SqL.of k1, FinR.lst (go (by rw [e]; rfl)) R3.w (r.cut l u)⟩
  | str z =>
    rw [e] at c
    obtain rfl := DV.ofStr c
    by_cases hz : z.length ≤ sizeLine
    · exact .inr (.inl ⟨z, rfl, hz, FinR.scal (go (by rw [e]; exact if_pos hz)) rfl (.str _)⟩)
    · rw [e, show oSl (.str z) l u = none from if_neg hz] at h3; exact False.elim h3
  | tup ds =>
    rw [e] at c
    obtain ⟨a, vs, rfl, k1, r⟩ := DV.ofTup c
    have hg := go (z := .tup (cutD ds l u)) (by rw [e]; rfl)
    refine .inr (.inr ⟨a, vs, rfl, Same.tupq R3.w.sub k1.sq, fun hw => ?_, fun _ => FinR.tup hg R3.w (r.cut l u)⟩)
    have ew : cutD ds l u = ds := by
      rw [r.length] at hw
      unfold cutD
      rw [hw.1, hw.2, List.drop_zero, Nat.sub_zero, List.take_length]
    rw [ew] at hg
    exact hg.scal rfl (.tup k1 r)
  | _ => rw [e] at h3; exact False.elim h3
/-! ### built-ins by their data -/
def CallD (X : Cx) (ca : Ca) (H0 : Bs) (m : Md) (f : Value) (o : List D → Option D) : Prop :=
  ∃ r, CallR X f r ∧ ∀ W H S xs ds d Q, WOk W H → RepS X.K ca W H S → CVs X.K ca W H xs ds → o ds = some d → FinR X.K ca H0 m W H S d Q → r xs H Q
theorem CallD.or {f : Value} {o o' o'' : List D → Option D} (a : CallD X ca H0 m f o) (b : CallD X ca H0 m f o') (h : ∀ x d, o'' x = some d → o x = some d ∨ o' x = some d) : CallD X ca H0 m f o'' := by
  obtain ⟨r, h1, h2⟩ := a
  obtain ⟨r', h1', h2'⟩ := b
  refine ⟨_, CallR.or h1 h1', fun W H S xs ds d Q w s c e F => ?_⟩
  rcases h ds d e with e | e
  · exact .inl (h2 W H S xs ds d Q w s c e F)
  · exact .inr (h2' W H S xs ds d Q w s c e F)
def sCall (o : List D → Option D) (fa : SA) : SE := fun ρ => mb (fa ρ) fun ds S => mo (o (ds.map (dref S))) S
theorem call_of {r : List V → Hp → VK → Prop} {o : List D → Option D} {fa : SA}
    (h2 : ∀ W H S xs ds d Q, WOk W H → RepS X.K ca W H S → CVs X.K ca W H xs ds → o ds = some d → FinR X.K ca H0 m W H S d Q → r xs H Q) {σ : L2.St} {H : Hp} {Q : VK}
    (h : tE X.K ca H0 Wx m (sCall o fa) σ H Q) : tA X.K ca H0 Wx .bor fa σ H fun xs H1 => r xs H1 Q := by
  obtain ⟨W, ρ, S, R, h⟩ := h
  refine ⟨W, ρ, S, R, (OutM.bind h).imp fun ds S1 W1 H1 F1 R1 h1 xs D1 => ?_⟩
  have c := DRs.view R1.w R1.s D1
  cases e : o (ds.map (dref S1)) with
  | none => rw [e] at h1; exact False.elim h1
  | some d =>
    rw [e] at h1
    exact h2 W1 H1 S1 xs _ d Q R1.w R1.s c e fun W' H' v F k r => h1 W' H' F (k _ _ R1) v (DR.older F1.dom r)
theorem de_callB {x : Str} {id : String} {o : List D → Option D} {e : Expr} {es : List Expr} {fa : SA} {p pos : Pos} (hc : CallD X ca H0 m (.builtin id) o) (hg : Gl X x) (hm : X.mg x = none) (hv : bootBuiltins x = some (.builtin id)) (ha : DA X ca H0 Wx .bor (e :: es) fa)
    (hn : x ≠ "__name__" := by decide) (hdb : (x == ("__debug__" : Str)) = false := by decide) (he : starEach (e :: es) X.env = (false, eval e X.env) :: starEach es X.env := by rfl) (hpl : (backTo pos (starEach es X.env)).any (·.1) = false := by rfl) :
    DE X ca H0 Wx m (.Call (.Name x p) (e :: es) [] pos) (sCall o fa) := by
  obtain ⟨r, h1, h2⟩ := hc
  exact PE.imp (pe_callB h1 hg hm hv ha hn hdb he hpl) fun σ H Q h => call_of h2 h
theorem de_callTy {x : Str} {T : String} {o : List D → Option D} {e : Expr} {es : List Expr} {fa : SA} {p pos : Pos} (hc : CallD X ca H0 m (.type T) o) (hg : Gl X x) (hm : X.mg x = none) (hv : bootBuiltins x = some (.type T)) (ha : DA X ca H0 Wx .bor (e :: es) fa)
    (hn : x ≠ "__name__" := by decide) (hdb : (x == ("__debug__" : Str)) = false := by decide) (he : starEach (e :: es) X.env = (false, eval e X.env) :: starEach es X.env := by rfl) (hpl : (backTo pos (starEach es X.env)).any (·.1) = false := by rfl) :
    DE X ca H0 Wx m (.Call (.Name x p) (e :: es) [] pos) (sCall o fa) := by
  obtain ⟨r, h1, h2⟩ := hc
  exact PE.imp (pe_callTy h1 hg hm hv ha hn hdb he hpl) fun σ H Q h => call_of h2 h
def oLen : List D → Option D
  | [.str z] => if z.length ≤ sizeLine then some (.int z.length) else none
  | [.lst l] => some (.int l.length)
  | [.rol l] => some (.int l.length)
  | [.tup l] => some (.int l.length)
  | _ => none
theorem cd_len : CallD X ca H0 m (.builtin "len") oLen := ⟨_, call_len, fun W H S xs ds d Q w s c e F => by
  match ds, c, e with
  | [.str z], c, e =>
    obtain ⟨v, rfl, c1⟩ := c.one
    obtain rfl := DV.ofStr c1
    have e' : (if z.length ≤ sizeLine then some (D.int z.length) else none) = some d := e
    by_cases hz : z.length ≤ sizeLine
    · rw [if_pos hz] at e'; cases e'; exact ⟨_, _, rfl, ⟨hz, rfl⟩, F.scal rfl (.int _)⟩
    · rw [if_neg hz] at e'; cases e'
  | [.lst l], c, e =>
    obtain ⟨v, rfl, a, vs, rfl, h1, r⟩ := c.one
    cases e
    exact ⟨_, _, rfl, .inl ⟨vs, SqL.of h1, r.length.symm⟩, F.scal rfl (.int _)⟩
  | [.rol l], c, e =>
    obtain ⟨v, rfl, c1⟩ := c.one
    obtain ⟨a, vs, rfl, h1, r⟩ := DV.ofRol c1
    cases e
    exact ⟨_, _, rfl, .inl ⟨vs, Same.lstq w.sub h1, r.length.symm⟩, F.scal rfl (.int _)⟩
  | [.tup l], c, e =>
    obtain ⟨v, rfl, c1⟩ := c.one
    obtain ⟨a, vs, rfl, h1, r⟩ := DV.ofTup c1
    cases e
    exact ⟨_, _, rfl, .inr ⟨vs, Same.tupq w.sub h1.sq, r.length.symm⟩, F.scal rfl (.int _)⟩⟩
def oMax : List D → Option D
  | [.int i, .int j] => some (.int (if j > i then j else i))
  | _ => none
def oMin : List D → Option D
  | [.int i, .int j] => some (.int (if j < i then j else i))
  | _ => none
theorem cd_max (hc : X.calm = true) : CallD X ca H0 m (.builtin "max") oMax := ⟨_, call_max2 hc, fun W H S xs ds d Q w s c e F => by
  match ds, c, e with
  | [.int i, .int j], c, e =>
    obtain ⟨v, u, rfl, c1, c2⟩ := c.two
    obtain rfl := DV.ofInt c1
    obtain rfl := DV.ofInt c2
    cases e
    exact ⟨i, j, rfl, F.scal rfl (.int _)⟩⟩
theorem cd_min (hc : X.calm = true) : CallD X ca H0 m (.builtin "min") oMin := ⟨_, call_min2 hc, fun W H S xs ds d Q w s c e F => by
  match ds, c, e with
  | [.int i, .int j], c, e =>
    obtain ⟨v, u, rfl, c1, c2⟩ := c.two
    obtain rfl := DV.ofInt c1
    obtain rfl := DV.ofInt c2
    cases e
    exact ⟨i, j, rfl, F.scal rfl (.int _)⟩⟩
def oOrd : List D → Option D
  | [.str z] => if z.length = 1 then some (.int (z.cps.getD 0 0 : Nat)) else none
  | _ => none
theorem cd_ord : CallD X ca H0 m (.builtin "ord") oOrd := ⟨_, call_ord, fun W H S xs ds d Q w s c e F => by
  match ds, c, e with
  | [.str z], c, e =>
    obtain ⟨v, rfl, c1⟩ := c.one
    obtain rfl := DV.ofStr c1
    have e' : (if z.length = 1 then some (D.int (z.cps.getD 0 0 : Nat)) else none) = some d := e
    by_cases hz : z.length = 1
    · rw [if_pos hz] at e'; cases e'; exact ⟨_, rfl, hz, F.scal rfl (.int _)⟩
    · rw [if_neg hz] at e'; cases e'⟩
def oInt : List D → Option D
  | [.int i] => some (.int i)
  | [.bl k] => some (.int (if k then 1 else 0))
  | [.str z] => if z.length ≤ 640 then (PySem.intText? z).map .int else none
  | _ => none
theorem cd_int : CallD X ca H0 m (.type "int") oInt := ⟨_, CallR.or call_int1 call_int_str, fun W H S xs ds d Q w s c e F => by
  match ds, c, e with
  | [.int i], c, e =>
    obtain ⟨v, rfl, c1⟩ := c.one
    obtain rfl := DV.ofInt c1
    cases e
    exact .inl (.inl ⟨i, rfl, F.scal rfl (.int _)⟩)
  | [.bl k], c, e =>
    obtain ⟨v, rfl, c1⟩ := c.one
    obtain rfl := DV.ofBl c1
    cases e
    exact .inl (.inr ⟨k, rfl, F.scal rfl (.int _)⟩)
  | [.str z], c, e =>
    obtain ⟨v, rfl, c1⟩ := c.one
    obtain rfl := DV.ofStr c1
    have e' : (if z.length ≤ 640 then (PySem.intText? z).map D.int else none) = some d := e
    by_cases hz : z.length ≤ 640
    · rw [if_pos hz] at e'
      obtain ⟨n, h1, h2⟩ := Option.map_eq_some_iff.mp e'
      subst h2
      exact .inr ⟨z, n, rfl, h1, hz, F.scal rfl (.int _)⟩
    · rw [if_neg hz] at e'; cases e'⟩
def oStr : List D → Option D
  | [.int i] => if i.natAbs.log2 < 1920 then some (.str (toString i)) else none
  | [.str z] => some (.str z)
  | _ => none
theorem cd_str : CallD X ca H0 m (.type "str") oStr := ⟨_, CallR.or call_str_int SkE.call_str_str, fun W H S xs ds d Q w s c e F => by
  match ds, c, e with
  | [.int i], c, e =>
    obtain ⟨v, rfl, c1⟩ := c.one
    obtain rfl := DV.ofInt c1
    have e' : (if i.natAbs.log2 < 1920 then some (D.str (toString i)) else none) = some d := e
    by_cases hz : i.natAbs.log2 < 1920
    · rw [if_pos hz] at e'; cases e'; exact .inl ⟨i, rfl, hz, F.scal rfl (.str _)⟩
    · rw [if_neg hz] at e'; cases e'
  | [.str z], c, e =>
    obtain ⟨v, rfl, c1⟩ := c.one
    obtain rfl := DV.ofStr c1
    cases e
    exact .inr ⟨z, rfl, F.scal rfl (.str _)⟩⟩
def oList : List D → Option D
  | [.lst l] => some (.lst l)
  | [.rol l] => some (.lst l)
  | [.tup l] => some (.lst l)
  | _ => none
theorem cd_list : CallD X ca H0 m (.type "list") oList := ⟨_, call_list_of, fun W H S xs ds d Q w s c e F => by
  match ds, c, e with
  | [.lst l], c, e =>
    obtain ⟨v, rfl, a, vs, rfl, h1, r⟩ := c.one
    cases e
    exact ⟨a, vs, rfl, .inl (SqL.of h1), F.lst w r⟩
  | [.rol l], c, e =>
    obtain ⟨v, rfl, c1⟩ := c.one
    obtain ⟨a, vs, rfl, h1, r⟩ := DV.ofRol c1
    cases e
    exact ⟨a, vs, rfl, .inl (Same.lstq w.sub h1), F.lst w r⟩
  | [.tup l], c, e =>
    obtain ⟨v, rfl, c1⟩ := c.one
    obtain ⟨a, vs, rfl, h1, r⟩ := DV.ofTup c1
    cases e
    exact ⟨a, vs, rfl, .inr (Same.tupq w.sub h1.sq), F.lst w r⟩⟩
def oTuple : List D → Option D
  | [.lst l] => some (.tup l)
  | [.tup l] => some (.tup l)
  | _ => none
theorem cd_tuple : CallD X ca H0 m (.type "tuple") oTuple := ⟨_, call_tuple_of, fun W H S xs ds d Q w s c e F => by
  match ds, c, e with
  | [.lst l], c, e =>
    obtain ⟨v, rfl, a, vs, rfl, h1, r⟩ := c.one
    cases e
    exact ⟨a, vs, rfl, .inl ⟨SqL.of h1, F.tup w r⟩⟩
  | [.tup l], c, e =>
    obtain ⟨v, rfl, c1⟩ := c.one
    obtain ⟨a, vs, rfl, h1, r⟩ := DV.ofTup c1
    cases e
    exact ⟨a, vs, rfl, .inr ⟨Same.tupq w.sub h1.sq, F.scal rfl (.tup h1 r)⟩⟩⟩
theorem bls_of {K : PySem.W.Frag} {h : Hp} {ad : Nat → Option Addr} : ∀ {vs : List V} {bs : List Bool}, DVs K ca h ad vs (bs.map D.bl) → vs = bs.map V.bl
  | _, [], .nil => rfl
  | _, _ :: _, .cons q r => by rw [DV.ofBl q, bls_of r]; rfl
def dBls : List D → Option (List Bool)
  | [] => some []
  | .bl b :: r => (dBls r).map (b :: ·)
  | _ :: _ => none
theorem dBls_eq : ∀ {l : List D} {bs : List Bool}, dBls l = some bs → l = bs.map D.bl
  | [], bs, e => by cases e; rfl
  | .bl b :: r, bs, e => by
    obtain ⟨cs, h1, h2⟩ := Option.map_eq_some_iff.mp (show (dBls r).map (b :: ·) = some bs from e)
    subst h2
    rw [dBls_eq h1]; rfl
def oAny : List D → Option D
  | [.lst l] => (dBls l).map fun bs => .bl (bs.any id)
  | _ => none
def oAll : List D → Option D
  | [.lst l] => (dBls l).map fun bs => .bl (bs.all id)
  | _ => none
theorem cd_any (hc : X.calm = true) : CallD X ca H0 m (.builtin "any") oAny := ⟨_, cr_any hc, fun W H S xs ds d Q w s c e F => by
  match ds, c, e with
  | [.lst l], c, e =>
    obtain ⟨v, rfl, a, vs, rfl, h1, r⟩ := c.one
    obtain ⟨bs, e1, e2⟩ := Option.map_eq_some_iff.mp (show (dBls l).map (fun bs => D.bl (bs.any id)) = some d from e)
    subst e2
    rw [dBls_eq e1] at r
    rw [bls_of r] at h1
    exact ⟨a, bs, rfl, SqL.of h1, F.scal rfl (.bl _)⟩⟩
theorem cd_all (hc : X.calm = true) : CallD X ca H0 m (.builtin "all") oAll := ⟨_, cr_all hc, fun W H S xs ds d Q w s c e F => by
  match ds, c, e with
  | [.lst l], c, e =>
    obtain ⟨v, rfl, a, vs, rfl, h1, r⟩ := c.one
    obtain ⟨bs, e1, e2⟩ := Option.map_eq_some_iff.mp (show (dBls l).map (fun bs => D.bl (bs.all id)) = some d from e)
    subst e2
    rw [dBls_eq e1] at r
    rw [bls_of r] at h1
    exact ⟨a, bs, rfl, SqL.of h1, F.scal rfl (.bl _)⟩⟩
/-- repr of a bool -/
theorem call_repr_bl : CallR X (.builtin "repr") (fun xs H Q => ∃ b, xs = [.bl b] ∧ Q (.str (if b then "True" else "False")) H) := by
  intro pins s σ H xs us Q I r h
  obtain ⟨b, rfl, q⟩ := h
  obtain ⟨u, rfl, rfl⟩ := vals1 r
  exact PySem.P.repr_of_bool ⟨.str _, H, I.tok _, ⟨_, rfl⟩, q⟩
def oRepr : List D → Option D
  | [.bl b] => some (.str (if b then "True" else "False"))
  | _ => none
theorem cd_repr : CallD X ca H0 m (.builtin "repr") oRepr := ⟨_, call_repr_bl, fun W H S xs ds d Q w s c e F => by
  match ds, c, e with
  | [.bl b], c, e =>
    obtain ⟨v, rfl, c1⟩ := c.one
    obtain rfl := DV.ofBl c1
    cases e
    exact ⟨b, rfl, F.scal rfl (.str _)⟩⟩
/-! ### methods of texts with one argument -/
def M1D (X : Cx) (ca : Ca) (H0 : Bs) (m : Md) (id : String) (o : Str → D → Option D) : Prop :=
  ∃ r, MtR X id r ∧ ∀ W H S z y dy d Q, WOk W H → RepS X.K ca W H S → CV X.K ca W H y dy → o z dy = some d → FinR X.K ca H0 m W H S d Q → r (.str z) [y] H Q
def sM1 (o : Str → D → Option D) (fa fb : SE) : SE := fun ρ => mb (fa ρ) fun x => match x with
  | .str z => mb (fb ρ) fun y S => mo (o z (dref S y)) S
  | _ => mf
theorem de_m1 {id : String} {name : Str} {apos pos : Pos} {o : Str → D → Option D} {a b : Expr} {fa fb : SE} (slot : Slot "str" name id) (ty : typeOf (.builtin id) = pure (.type "method_descriptor")) (rule : M1D X ca H0 m id o) (ha : DE X ca H0 Wx .frz a fa) (hb : DE X ca H0 Wx .bor b fb)
    (hs : starEach [b] X.env = [(false, eval b X.env)] := by rfl) (hbase : attributeBase a name X.env (eval a X.env) = eval a X.env := by rfl) (hline : (apos.endLine == pos.line) = true := by rfl) :
    DE X ca H0 Wx m (.Call (.Attribute a name apos) [b] [] pos) (sM1 o fa fb) := by
  obtain ⟨r, h1, h2⟩ := rule
  refine PE.imp (pe_m1 slot ty h1 ha hb hs hbase hline) fun σ H Q ⟨W, ρ, S, R, o'⟩ => ⟨W, ρ, S, R, (OutM.bind o').imp fun d S1 W1 H1 F1 R1 h3 x D1 => ?_⟩
  cases d with
  | str z =>
    obtain rfl := DV.ofStr D1
    refine ⟨⟨z, rfl⟩, W1, ρ, S1, R1, (OutM.bind h3).imp fun dy S2 W2 H2 F2 R2 h4 y D2 => ?_⟩
    have c := DR.view R2.w R2.s D2
    cases e : o z (dref S2 dy) with
    | none => rw [e] at h4; exact False.elim h4
    | some d =>
      rw [e] at h4
      exact h2 W2 H2 S2 z y _ d Q R2.w R2.s c e fun W' H' v F k r => h4 W' H' F (k _ _ R2) v (DR.older (Fut.trans' F1 F2).dom r)
  | _ => exact False.elim h3
theorem strs_dv {K : PySem.W.Frag} {h : Hp} {ad : Nat → Option Addr} : ∀ (ys : List Str), DVs K ca h ad (ys.map V.str) (ys.map D.str)
  | [] => .nil
  | y :: r => .cons (.str y) (strs_dv r)
theorem strs_of {K : PySem.W.Frag} {h : Hp} {ad : Nat → Option Addr} : ∀ {vs : List V} {ys : List Str}, DVs K ca h ad vs (ys.map D.str) → vs = ys.map V.str
  | _, [], .nil => rfl
  | _, _ :: _, .cons q r => by rw [DV.ofStr q, strs_of r]; rfl
def dStrs : List D → Option (List Str)
  | [] => some []
  | .str b :: r => (dStrs r).map (b :: ·)
  | _ :: _ => none
theorem dStrs_eq : ∀ {l : List D} {bs : List Str}, dStrs l = some bs → l = bs.map D.str
  | [], bs, e => by cases e; rfl
  | .str b :: r, bs, e => by
    obtain ⟨cs, h1, h2⟩ := Option.map_eq_some_iff.mp (show (dStrs r).map (b :: ·) = some bs from e)
    subst h2
    rw [dStrs_eq h1]; rfl
theorem dStrs_map : ∀ ys : List Str, dStrs (ys.map D.str) = some ys
  | [] => rfl
  | y :: r => by
    show (dStrs (r.map D.str)).map (y :: ·) = _
    rw [dStrs_map r]; rfl
def oSplit (z : Str) : D → Option D
  | .str b => if b.length ≠ 0 ∧ z.length + 2 ≤ sizeLine then some (.lst ((Txt.split z b).map D.str)) else none
  | _ => none
theorem md_split : M1D X ca H0 m "str.split" oSplit := ⟨_, mt_split, fun W H S z y dy d Q w s c e F => by
  cases dy with
  | str b =>
    obtain rfl := DV.ofStr c
    have e' : (if b.length ≠ 0 ∧ z.length + 2 ≤ sizeLine then some (D.lst ((Txt.split z b).map D.str)) else none) = some d := e
    by_cases hz : b.length ≠ 0 ∧ z.length + 2 ≤ sizeLine
    · rw [if_pos hz] at e'; cases e'
      exact ⟨z, b, rfl, rfl, beq_eq_false_iff_ne.mpr hz.1, hz.2, F.lst w (strs_dv _)⟩
    · rw [if_neg hz] at e'; cases e'
  | _ => cases e⟩
def oJoin (z : Str) : D → Option D
  | .lst l => (dStrs l).bind fun ys => if (ys.map (·.length)).sum + ys.length * z.length ≤ 16777216 then some (.str (Txt.join z ys)) else none
  | .tup l => (dStrs l).bind fun ys => if (ys.map (·.length)).sum + ys.length * z.length ≤ 16777216 then some (.str (Txt.join z ys)) else none
  | _ => none
theorem md_join : M1D X ca H0 m "str.join" oJoin := ⟨_, mt_join, fun W H S z y dy d Q w s c e F => by
  cases dy with
  | lst l =>
    obtain ⟨a, vs, rfl, h1, r⟩ := c
    obtain ⟨ys, e1, e2⟩ := Option.bind_eq_some_iff.mp (show (dStrs l).bind (fun ys => if (ys.map (·.length)).sum + ys.length * z.length ≤ 16777216 then some (D.str (Txt.join z ys)) else none) = some d from e)
    by_cases hz : (ys.map (·.length)).sum + ys.length * z.length ≤ 16777216
    · rw [if_pos hz] at e2; cases e2
      rw [dStrs_eq e1] at r
      rw [strs_of r] at h1
      exact ⟨z, a, ys, rfl, rfl, .inl (SqL.of h1), hz, F.scal rfl (.str _)⟩
    · rw [if_neg hz] at e2; cases e2
  | tup l =>
    obtain ⟨a, vs, rfl, h1, r⟩ := DV.ofTup c
    obtain ⟨ys, e1, e2⟩ := Option.bind_eq_some_iff.mp (show (dStrs l).bind (fun ys => if (ys.map (·.length)).sum + ys.length * z.length ≤ 16777216 then some (D.str (Txt.join z ys)) else none) = some d from e)
    by_cases hz : (ys.map (·.length)).sum + ys.length * z.length ≤ 16777216
    · rw [if_pos hz] at e2; cases e2
      rw [dStrs_eq e1] at r
      rw [strs_of r] at h1
      exact ⟨z, a, ys, rfl, rfl, .inr (Same.tupq w.sub h1.sq), hz, F.scal rfl (.str _)⟩
    · rw [if_neg hz] at e2; cases e2
  | _ => cases e⟩
def oCount (z : Str) : D → Option D
  | .str b => some (.int (Txt.count z b))
  | _ => none
theorem md_count : M1D X ca H0 m "str.count" oCount := ⟨_, mt_count, fun W H S z y dy d Q w s c e F => by
  cases dy with
  | str b => obtain rfl := DV.ofStr c; cases e; exact ⟨z, b, rfl, rfl, F.scal rfl (.int _)⟩
  | _ => cases e⟩
def oRfind (z : Str) : D → Option D
  | .str b => some (.int (Txt.rfind z b))
  | _ => none
theorem md_rfind : M1D X ca H0 m "str.rfind" oRfind := ⟨_, mt_rfind, fun W H S z y dy d Q w s c e F => by
  cases dy with
  | str b => obtain rfl := DV.ofStr c; cases e; exact ⟨z, b, rfl, rfl, F.scal rfl (.int _)⟩
  | _ => cases e⟩
def oRmp (z : Str) : D → Option D
  | .str b => if z.length ≤ sizeLine then some (.str (Txt.removeprefix z b)) else none
  | _ => none
theorem md_rmp : M1D X ca H0 m "str.removeprefix" oRmp := ⟨_, mt_removeprefix, fun W H S z y dy d Q w s c e F => by
  cases dy with
  | str b =>
    obtain rfl := DV.ofStr c
    have e' : (if z.length ≤ sizeLine then some (D.str (Txt.removeprefix z b)) else none) = some d := e
    by_cases hz : z.length ≤ sizeLine
    · rw [if_pos hz] at e'; cases e'; exact ⟨z, b, rfl, rfl, hz, F.scal rfl (.str _)⟩
    · rw [if_neg hz] at e'; cases e'
  | _ => cases e⟩
end
end DL

/-! DL5: statements; what a def promises; its call. -/
namespace DL
open PySem PySem.Spec PyProof.Rows L2

inductive SOut where
  | nx (ρ : Rho) | ret (d : D) | brk (ρ : Rho) | cnt (ρ : Rho) | exc (ρ : Rho) (x : Xc)
abbrev SS := Rho → Sto → Option (SOut × Sto)

section
variable (K : PySem.W.Frag) (ca : Ca) (H0 : Bs) (Wx : WX) (mr : Md)
def OutS (W : Wd) (H : Hp) (D : Ends) (r : Option (SOut × Sto)) : Prop :=
  match r with
  | none => False
  | some (.nx ρ', S') => ∀ W' H' σ', FutS H0 W H W' H' → Rep K ca H0 W' H' σ' ρ' S' → D.nx σ' H'
  | some (.brk ρ', S') => ∀ W' H' σ', FutS H0 W H W' H' → Rep K ca H0 W' H' σ' ρ' S' → D.bk σ' H'
  | some (.cnt ρ', S') => ∀ W' H' σ', FutS H0 W H W' H' → Rep K ca H0 W' H' σ' ρ' S' → D.ct σ' H'
  | some (.ret d, S') => ∀ W' H' v, FutS H0 W H W' H' → WOk W' H' → RepS K ca W' H' S' → DR K ca mr H0 W' H' v d → D.rt v H'
  | some (.exc ρ' x, S') => ∀ W' H' σ' cls od, FutS H0 W H W' H' → Rep K ca H0 W' H' σ' ρ' S' → XV K ca W' H' cls od x → Wx cls od σ' H'
def tS (f : SS) : TS := fun D σ H => ∃ W ρ S, Rep K ca H0 W H σ ρ S ∧ OutS K ca H0 Wx mr W H D (f ρ S)
end
abbrev DS (X : Cx) (ca : Ca) (H0 : Bs) (Wx : WX) (mr : Md) (st : Stmt) (f : SS) : Prop := PS X st (tS X.K ca H0 Wx mr f)
abbrev DSs (X : Cx) (ca : Ca) (H0 : Bs) (Wx : WX) (mr : Md) (st : List Stmt) (f : SS) : Prop := PSs X st (tS X.K ca H0 Wx mr f)

section
variable {K : PySem.W.Frag} {ca : Ca} {H0 : Bs} {H H1 H' : Hp} {Wx : WX} {mr : Md} {W W1 W' : Wd} {σ : L2.St} {ρ : Rho} {S : Sto} {Dn : Ends}
theorem OutS.later {r : Option (SOut × Sto)} (f : FutS H0 W H W1 H1) (h : OutS K ca H0 Wx mr W H Dn r) : OutS K ca H0 Wx mr W1 H1 Dn r := by
  match r, h with
  | some (.nx ρ', S'), h => exact fun W' H' σ' g R => h W' H' σ' (f.trans g) R
  | some (.brk ρ', S'), h => exact fun W' H' σ' g R => h W' H' σ' (f.trans g) R
  | some (.cnt ρ', S'), h => exact fun W' H' σ' g R => h W' H' σ' (f.trans g) R
  | some (.ret d, S'), h => exact fun W' H' v g w s q => h W' H' v (f.trans g) w s q
  | some (.exc ρ' x, S'), h => exact fun W' H' σ' cls od g R x => h W' H' σ' cls od (f.trans g) R x
/-- an expression first, then a statement's rest -/
def sb {α : Type} (x : M α) (ρ : Rho) (k : α → Sto → Option (SOut × Sto)) : Sto → Option (SOut × Sto) := fun S => match x S with
  | none => none
  | some (.error e, S') => some (.exc ρ e, S')
  | some (.ok a, S') => k a S'
theorem OutS.bind {α : Type} {x : M α} {k : α → Sto → Option (SOut × Sto)} (R : Rep K ca H0 W H σ ρ S) (h : OutS K ca H0 Wx mr W H Dn (sb x ρ k S)) :
    OutM K ca H0 Wx W ρ σ H (x S) fun a S1 W1 H1 => OutS K ca H0 Wx mr W1 H1 Dn (k a S1) := by
  unfold sb at h
  match e : x S with
  | none => rw [e] at h; exact h
  | some (.error z, S') =>
    rw [e] at h
    exact fun W' H' cls od f R' xv => h W' H' σ cls od (Fut.s f R.h0) R' xv
  | some (.ok a, S') =>
    rw [e] at h
    exact fun W' H' f R' => OutS.later (Fut.s f R.h0) h
theorem OutS.nx (R : Rep K ca H0 W H σ ρ S) (h : OutS K ca H0 Wx mr W H Dn (some (.nx ρ, S))) : Dn.nx σ H := h W H σ (FutG.refl _ _) R
end

section
variable {X : Cx} {ca : Ca} {H0 : Bs} {Wx : WX} {mr : Md}
/-! ### blocks -/
def bNil : SS := fun ρ S => some (.nx ρ, S)
def bSeq (f g : SS) : SS := fun ρ S => match f ρ S with
  | some (.nx ρ', S') => g ρ' S'
  | r => r
theorem dss_nil : DSs X ca H0 Wx mr [] bNil := PSs.imp pss_nil fun D σ H ⟨W, ρ, S, R, o⟩ => OutS.nx R o
theorem seq_of {f g : SS} {D : Ends} {σ : L2.St} {H : Hp} (h : tS X.K ca H0 Wx mr (bSeq f g) D σ H) : tSeq (tS X.K ca H0 Wx mr f) (tS X.K ca H0 Wx mr g) D σ H := by
  obtain ⟨W, ρ, S, R, o⟩ := h
  refine ⟨W, ρ, S, R, ?_⟩
  unfold bSeq at o
  match e : f ρ S with
  | none => rw [e] at o; exact o
  | some (.nx ρ', S') =>
    rw [e] at o
    exact fun W' H' σ' F R' => ⟨W', ρ', S', R', OutS.later F o⟩
  | some (.brk ρ', S') => rw [e] at o; exact o
  | some (.cnt ρ', S') => rw [e] at o; exact o
  | some (.ret d, S') => rw [e] at o; exact o
  | some (.exc ρ' x, S') => rw [e] at o; exact o
theorem dss_cons {st : Stmt} {rest : List Stmt} {f g : SS} (h1 : DS X ca H0 Wx mr st f) (h2 : DSs X ca H0 Wx mr rest g) : DSs X ca H0 Wx mr (st :: rest) (bSeq f g) :=
  PSs.imp (pss_cons h1 h2) fun D σ H h => seq_of h
theorem dss_one {st : Stmt} {f : SS} (h1 : DS X ca H0 Wx mr st f) : DSs X ca H0 Wx mr [st] f := pss_one h1
/-! ### small statements -/
def bBrk : SS := fun ρ S => some (.brk ρ, S)
def bCnt : SS := fun ρ S => some (.cnt ρ, S)
theorem ds_pass {pos : Pos} : DS X ca H0 Wx mr (.Pass pos) bNil := PS.imp ps_pass fun D σ H ⟨W, ρ, S, R, o⟩ => OutS.nx R o
theorem ds_break {pos : Pos} : DS X ca H0 Wx mr (.Break pos) bBrk := PS.imp ps_break fun D σ H ⟨W, ρ, S, R, o⟩ => o W H σ (FutG.refl _ _) R
theorem ds_continue {pos : Pos} : DS X ca H0 Wx mr (.Continue pos) bCnt := PS.imp ps_continue fun D σ H ⟨W, ρ, S, R, o⟩ => o W H σ (FutG.refl _ _) R
def bExpr (f : SE) : SS := fun ρ => sb (f ρ) ρ fun _ S => some (.nx ρ, S)
theorem ds_expr {e : Expr} {f : SE} {pos : Pos} (he : DE X ca H0 Wx .bor e f) (hs : swapsWith e none pos.line X.env = pure false := by rfl) : DS X ca H0 Wx mr (.Expr e pos) (bExpr f) :=
  PS.imp (ps_expr he hs) fun D σ H ⟨W, ρ, S, R, o⟩ => ⟨W, ρ, S, R, (OutS.bind R o).imp fun d S' W' H' F R' h v r => OutS.nx R' h⟩
def bRet (f : SE) : SS := fun ρ => sb (f ρ) ρ fun d S => some (.ret d, S)
theorem ds_ret {e : Expr} {f : SE} {pos : Pos} (he : DE X ca H0 Wx mr e f) : DS X ca H0 Wx mr (.Return (some e) pos) (bRet f) :=
  PS.imp (ps_ret he) fun D σ H ⟨W, ρ, S, R, o⟩ => ⟨W, ρ, S, R, (OutS.bind R o).imp fun d S' W' H' F R' h v r => h W' H' v (FutG.refl _ _) R'.w R'.s (DR.older R.h0 r)⟩
/-- return of a slot's own list -/
def bRetOwn (i : Nat) : SS := fun ρ S => match ρ[i]? with
  | some (.own d) => some (.ret d, S)
  | _ => none
def Wd.drop (W : Wd) (a : Addr) : Wd := { W with ow := fun b => if b = a then none else W.ow b }
theorem drop_ow {W : Wd} {a b : Addr} (h : b ≠ a) : (W.drop a).ow b = W.ow b := if_neg h
theorem WOk.drop {W : Wd} {H : Hp} (w : WOk W H) (a : Addr) : WOk (W.drop a) H where
  sub := w.sub
  tup := w.tup
  dis := fun b p e => by
    by_cases h : b = a
    · subst h; rw [show (W.drop b).ow b = none from if_pos rfl] at e; cases e
    · rw [drop_ow h] at e; exact w.dis b p e
  dom := fun b p e => by
    by_cases h : b = a
    · subst h; rw [show (W.drop b).ow b = none from if_pos rfl] at e; cases e
    · rw [drop_ow h] at e; exact w.dom b p e
theorem RepS.drop {K : PySem.W.Frag} {W : Wd} {H : Hp} {S : Sto} {a : Addr} {i : Nat} (s : RepS K ca W H S) (ha : W.ow a = some (.slot i)) : RepS K ca (W.drop a) H S where
  at_ := fun n ob e => by
    obtain ⟨b, h1, h2, h3⟩ := s.at_ n ob e
    have hb : b ≠ a := fun z => by subst z; rw [ha] at h2; cases h2
    exact ⟨b, h1, by rw [drop_ow hb]; exact h2, h3.mono (fun _ h => h) (Same.refl _) fun _ _ h => h⟩
  fin := s.fin
theorem FutS.drop {W : Wd} {H : Hp} {a : Addr} {i : Nat} (ha : W.ow a = some (.slot i)) : FutS H0 W H (W.drop a) H where
  hf := Same.refl _
  ad := fun _ _ h => h
  keep := fun b o h hc => by
    have hb : b ≠ a := fun z => by subst z; rw [ha] at hc; cases hc
    exact ⟨h, drop_ow hb⟩
  new := fun b o h1 h2 => by rw [show (W.drop a).hf = W.hf from rfl, h2] at h1; cases h1
  dom := fun b o h => ⟨o, h⟩
theorem ds_retOwn {i : Nat} {x : Str} {p pos : Pos} (h : PE X (.Name x p) (tVar i)) : DS X ca H0 Wx .fre (.Return (some (.Name x p)) pos) (bRetOwn i) := by
  refine PS.imp (ps_ret h) fun D σ H ⟨W, ρ, S, R, o⟩ => ?_
  unfold bRetOwn at o
  cases e : ρ[i]? with
  | none => rw [e] at o; exact False.elim o
  | some sl =>
    rw [e] at o
    cases sl with
    | own d =>
      obtain ⟨v, h1, a, h2, h3, h4, h5⟩ := R.sl i _ e
      subst h2
      refine ⟨_, h1, o (W.drop a) H (.ref a) (FutS.drop h3) (R.w.drop a) (R.s.drop h3) ?_⟩
      have hf : (W.drop a).hf a = none := R.w.dis a _ h3
      have ho : (W.drop a).ow a = none := if_pos rfl
      cases d with
      | lst l => obtain ⟨vs, k1, k2⟩ := h5; exact ⟨a, vs, rfl, h4, hf, ho, k1, k2⟩
      | dK l => obtain ⟨vs, k1, k2⟩ := h5; exact ⟨a, vs, rfl, h4, hf, ho, k1, k2⟩
      | dT l => obtain ⟨vs, k1, k2⟩ := h5; exact ⟨a, vs, rfl, h4, hf, ho, k1, k2⟩
      | _ => exact h5.elim
    | _ => exact False.elim o
def bRetN : SS := fun _ S => some (.ret .non, S)
theorem ds_retN {pos : Pos} : DS X ca H0 Wx mr (.Return none pos) bRetN := PS.imp ps_retN fun D σ H ⟨W, ρ, S, R, o⟩ => o W H .non (FutG.refl _ _) R.w R.s (DR.scal rfl .non)
def bIf (ft : ST) (f g : SS) : SS := fun ρ => sb (ft ρ) ρ fun k => if k = true then f ρ else g ρ
theorem ds_if {c : Expr} {a b : List Stmt} {fc : ST} {f g : SS} {pos : Pos} (hc : DT X ca H0 Wx c fc) (ha : DSs X ca H0 Wx mr a f) (hb : DSs X ca H0 Wx mr b g) : DS X ca H0 Wx mr (.If c a b pos) (bIf fc f g) := by
  refine PS.imp (ps_if hc ha hb) fun D σ H ⟨W, ρ, S, R, o⟩ => ⟨W, ρ, S, R, (OutS.bind R o).imp fun k S' W' H' F R' h => ?_⟩
  cases k with
  | true => exact iteT ⟨W', ρ, S', R', h⟩
  | false => exact iteF ⟨W', ρ, S', R', h⟩
/-! ### names are set -/
def unlk : Option Sl → Bool
  | some (.lk _) => false
  | some _ => true
  | none => false
theorem Rep.set {K : PySem.W.Frag} {W : Wd} {H : Hp} {σ : L2.St} {ρ : Rho} {S : Sto} {i : Nat} {v : V} {x : Sl} (R : Rep K ca H0 W H σ ρ S) (h : SlotOk K ca H0 W H i (some v) x) : Rep K ca H0 W H (σ.set i (some v)) (ρ.set i x) S where
  w := R.w
  s := R.s
  len := by rw [List.length_set, List.length_set]; exact R.len
  sl := fun j y e => by
    by_cases hj : i = j
    · subst hj
      have hi : i < ρ.length := by
        have z := (List.getElem?_eq_some_iff.mp e).1
        rw [List.length_set] at z; exact z
      rw [List.getElem?_set_self hi] at e; cases e
      exact ⟨some v, List.getElem?_set_self (by rw [R.len]; exact hi), h⟩
    · rw [List.getElem?_set_ne hj] at e
      obtain ⟨u, h1, h2⟩ := R.sl j y e
      exact ⟨u, by rw [List.getElem?_set_ne hj]; exact h1, h2⟩
  h0 := R.h0
def bSet (i : Nat) (f : SE) : SS := fun ρ => sb (f ρ) ρ fun d S => if unlk ρ[i]? = true then some (.nx (ρ.set i (.val d)), S) else none
theorem ds_set {i : Nat} {x : Str} {e : Expr} {f : SE} {pos' pos : Pos} (hN : X.N.Nodup) (hi : X.N[i]? = some x) (hx : Loc X.env.scope x) (he : DE X ca H0 Wx .frz e f) (hs : swapsWith e (some (.Name x pos')) pos.line X.env = pure false := by rfl)
    (hf : X.fn x = true ∨ X.env.scope.names.lookup x = some .local := by first | exact .inl rfl | exact .inr rfl | assumption) : DS X ca H0 Wx mr (.Assign [.Name x pos'] e pos) (bSet i f) := by
  refine PS.imp (ps_set hN hi hx he hs hf) fun D σ H ⟨W, ρ, S, R, o⟩ => ⟨W, ρ, S, R, (OutS.bind R o).imp fun d S' W' H' F R' h v r => ?_⟩
  by_cases hu : unlk ρ[i]? = true
  · rw [if_pos hu] at h
    exact h W' H' _ (FutG.refl _ _) (R'.set ⟨v, rfl, r⟩)
  · rw [if_neg hu] at h; exact False.elim h
def isCont : D → Bool
  | .lst _ => true
  | .dK _ => true
  | .dT _ => true
  | _ => false
def bSetOwn (i : Nat) (f : SE) : SS := fun ρ => sb (f ρ) ρ fun d S => if (unlk ρ[i]? && isCont d) = true then some (.nx (ρ.set i (.own d)), S) else none
def Wd.take (W : Wd) (a : Addr) (p : Own) : Wd := { W with ow := fun b => if b = a then some p else W.ow b }
theorem take_ow {W : Wd} {a b : Addr} {p : Own} (h : b ≠ a) : (W.take a p).ow b = W.ow b := if_neg h
theorem Rep.take {K : PySem.W.Frag} {W : Wd} {H : Hp} {σ : L2.St} {ρ : Rho} {S : Sto} {a : Addr} {p : Own} {o : HO} (R : Rep K ca H0 W H σ ρ S) (h00 : H0 a = none) (h1 : W.hf a = none) (h2 : W.ow a = none) (h3 : H a = some o) : Rep K ca H0 (W.take a p) H σ ρ S where
  w := ⟨R.w.sub, R.w.tup, fun b q e => by
    by_cases h : b = a
    · subst h; exact h1
    · rw [take_ow h] at e; exact R.w.dis b q e, fun b q e => by
    by_cases h : b = a
    · subst h; exact ⟨o, h3⟩
    · rw [take_ow h] at e; exact R.w.dom b q e⟩
  s := ⟨fun n ob e => by
    obtain ⟨b, k1, k2, k3⟩ := R.s.at_ n ob e
    have hb : b ≠ a := fun z => by subst z; rw [h2] at k2; cases k2
    exact ⟨b, k1, by rw [take_ow hb]; exact k2, k3.mono (fun _ h => h) (Same.refl _) fun _ _ h => h⟩, R.s.fin⟩
  len := R.len
  sl := fun j y e => by
    obtain ⟨u, k1, k2⟩ := R.sl j y e
    refine ⟨u, k1, k2.mono (Same.refl _) (fun _ _ h => h) fun b o h hb => ⟨h, take_ow fun z => ?_⟩⟩
    subst z
    rcases hb with hb | hb | ⟨_, o2, hb⟩
    · rw [h2] at hb; cases hb
    · rw [h2] at hb; cases hb
    · rw [h00] at hb; cases hb
  h0 := R.h0
theorem OutS.bindO {α : Type} {K : PySem.W.Frag} {W : Wd} {H : Hp} {σ : L2.St} {ρ : Rho} {S : Sto} {Dn : Ends} {x : M α} {k : α → Sto → Option (SOut × Sto)} (R : Rep K ca H0 W H σ ρ S) (h : OutS K ca H0 Wx mr W H Dn (sb x ρ k S)) :
    OutM K ca H0 Wx W ρ σ H (x S) fun a S1 _ _ => OutS K ca H0 Wx mr W H Dn (k a S1) := by
  unfold sb at h
  match e : x S with
  | none => rw [e] at h; exact h
  | some (.error z, S') =>
    rw [e] at h
    exact fun W' H' cls od f R' xv => h W' H' σ cls od (Fut.s f R.h0) R' xv
  | some (.ok a, S') =>
    rw [e] at h
    exact fun W' H' f R' => h
theorem OutM.andFut {α : Type} {K : PySem.W.Frag} {W : Wd} {H : Hp} {σ : L2.St} {ρ : Rho} {r : Res α} {P : α → Sto → Wd → Hp → Prop} (h : OutM K ca H0 Wx W ρ σ H r P) : OutM K ca H0 Wx W ρ σ H r fun a S W' H' => Fut W H W' H' ∧ P a S W' H' :=
  h.imp fun _ _ _ _ f _ q => ⟨f, q⟩
theorem FutS.takeNew {W W1 : Wd} {H H1 : Hp} {a : Addr} {p : Own} (d : ∀ b o, H0 b = some o → ∃ o', H b = some o') (F : Fut W H W1 H1) (hn : H a = none) : FutS H0 W H (W1.take a p) H1 where
  hf := F.hf
  ad := F.ad
  keep := fun b o h hc => by
    have hb : b ≠ a := fun z => by subst z; rw [hn] at h; cases h
    obtain ⟨k1, k2⟩ := F.keep b o h (calmS_O hc)
    exact ⟨k1, (take_ow hb).trans k2⟩
  new := fun b o h1 h2 => none_of_dom d (FutG.new F b o h1 h2)
  dom := F.dom
theorem ds_setOwn {i : Nat} {x : Str} {e : Expr} {f : SE} {pos' pos : Pos} (hN : X.N.Nodup) (hi : X.N[i]? = some x) (hx : Loc X.env.scope x) (he : DE X ca H0 Wx .fre e f) (hs : swapsWith e (some (.Name x pos')) pos.line X.env = pure false := by rfl)
    (hf : X.fn x = true ∨ X.env.scope.names.lookup x = some .local := by first | exact .inl rfl | exact .inr rfl | assumption) : DS X ca H0 Wx mr (.Assign [.Name x pos'] e pos) (bSetOwn i f) := by
  refine PS.imp (ps_set hN hi hx he hs hf) fun D σ H ⟨W, ρ, S, R, o⟩ => ⟨W, ρ, S, R, (OutS.bindO R o).imp fun d S' W' H' F R' h v r => ?_⟩
  by_cases hu : (unlk ρ[i]? && isCont d) = true
  · rw [if_pos hu] at h
    have hc := (Bool.and_eq_true_iff.mp hu).2
    have go : ∀ {a : Addr} {u : HO}, H a = none → W'.hf a = none → W'.ow a = none → H' a = some u → Cont X.K ca (W'.take a (.slot i)) H' a d → D.nx (σ.set i (some (.ref a))) H' := fun {a u} h1 h2 h3 h4 h5 =>
      h _ _ _ (FutS.takeNew R.h0 F h1) ((R'.take (none_of_dom R.h0 h1) h2 h3 h4).set ⟨a, rfl, if_pos rfl, none_of_dom R.h0 h1, h5⟩)
    cases d with
    | lst ds => obtain ⟨a, vs, e, h1, h2, h3, h4, q⟩ := r; subst e; exact go h1 h2 h3 h4 ⟨vs, h4, q⟩
    | dK ds => obtain ⟨a, vs, e, h1, h2, h3, h4, q⟩ := r; subst e; exact go h1 h2 h3 h4 ⟨vs, h4, q⟩
    | dT ds => obtain ⟨a, vs, e, h1, h2, h3, h4, q⟩ := r; subst e; exact go h1 h2 h3 h4 ⟨vs, h4, q⟩
    | _ => cases hc
  · rw [if_neg hu] at h; exact False.elim h
/-- a new list goes to the store, the slot holds its number -/
def obOf : D → Option Ob
  | .lst l => some (.lst l)
  | .dK l => some (.dK l)
  | .dT l => some (.dT l)
  | _ => none
def bSetObj (i : Nat) (f : SE) : SS := fun ρ => sb (f ρ) ρ fun d S => if unlk ρ[i]? = true then (obOf d).map fun ob => (.nx (ρ.set i (.val (.obj S.length))), S ++ [ob]) else none
def Wd.more (W : Wd) (n : Nat) (a : Addr) : Wd := { W with ow := fun b => if b = a then some (.ob n) else W.ow b, ad := fun k => if k = n then some a else W.ad k }
theorem Rep.more {K : PySem.W.Frag} {W : Wd} {H : Hp} {σ : L2.St} {ρ : Rho} {S : Sto} {a : Addr} {ob : Ob} {o : HO} (R : Rep K ca H0 W H σ ρ S) (h00 : H0 a = none) (h1 : W.hf a = none) (h2 : W.ow a = none) (h3 : H a = some o) (h4 : ObOk K ca W H a ob) : Rep K ca H0 (W.more S.length a) H σ ρ (S ++ [ob]) := by
  have m : ∀ n x, W.ad n = some x → (W.more S.length a).ad n = some x := fun n x e => by
    have hn : n ≠ S.length := fun z => by
      subst z
      rw [R.s.fin _ (Nat.le_refl _)] at e; cases e
    show (if n = S.length then some a else W.ad n) = some x
    rw [if_neg hn]; exact e
  have ow : ∀ b, b ≠ a → (W.more S.length a).ow b = W.ow b := fun b h => if_neg h
  refine ⟨⟨R.w.sub, R.w.tup, fun b q e => ?_, fun b q e => ?_⟩, ⟨fun n ob' e => ?_, fun n hn => ?_⟩, R.len, fun j y e => ?_, R.h0⟩
  · by_cases h : b = a
    · subst h; exact h1
    · rw [ow b h] at e; exact R.w.dis b q e
  · by_cases h : b = a
    · subst h; exact ⟨o, h3⟩
    · rw [ow b h] at e; exact R.w.dom b q e
  · by_cases hn : n < S.length
    · rw [List.getElem?_append_left hn] at e
      obtain ⟨b, k1, k2, k3⟩ := R.s.at_ n ob' e
      have hb : b ≠ a := fun z => by subst z; rw [h2] at k2; cases k2
      exact ⟨b, m n b k1, by rw [ow b hb]; exact k2, k3.mono (fun _ h => h) (Same.refl _) m⟩
    · rw [List.getElem?_append_right (by omega)] at e
      have hz : n - S.length = 0 := by
        by_cases z : n - S.length = 0
        · exact z
        · rw [List.getElem?_eq_none (by simp; omega)] at e; cases e
      rw [hz] at e
      have e' : ob = ob' := Option.some.inj e
      subst e'
      have en : n = S.length := by omega
      subst en
      exact ⟨a, if_pos rfl, if_pos rfl, h4.mono (fun _ h => h) (Same.refl _) m⟩
  · show (if n = S.length then some a else W.ad n) = none
    rw [List.length_append, List.length_singleton] at hn
    rw [if_neg (by omega)]
    exact R.s.fin n (by omega)
  · obtain ⟨u, k1, k2⟩ := R.sl j y e
    refine ⟨u, k1, k2.mono (Same.refl _) m fun b o h hb => ⟨h, ow b fun z => ?_⟩⟩
    subst z
    rcases hb with hb | hb | ⟨_, o2, hb⟩
    · rw [h2] at hb; cases hb
    · rw [h2] at hb; cases hb
    · rw [h00] at hb; cases hb
theorem FutS.moreNew {K : PySem.W.Frag} {W W1 : Wd} {H H1 : Hp} {a : Addr} {S : Sto} (d : ∀ b o, H0 b = some o → ∃ o', H b = some o') (s : RepS K ca W1 H1 S) (F : Fut W H W1 H1) (hn : H a = none) : FutS H0 W H (W1.more S.length a) H1 where
  hf := F.hf
  ad := fun n x e => by
    have e1 := F.ad n x e
    have hn : n ≠ S.length := fun z => by
      subst z
      rw [s.fin _ (Nat.le_refl _)] at e1; cases e1
    show (if n = S.length then some a else W1.ad n) = some x
    rw [if_neg hn]; exact e1
  keep := fun b o h hc => by
    have hb : b ≠ a := fun z => by subst z; rw [hn] at h; cases h
    obtain ⟨k1, k2⟩ := F.keep b o h (calmS_O hc)
    exact ⟨k1, (show (W1.more S.length a).ow b = W1.ow b from if_neg hb).trans k2⟩
  new := fun b o h1 h2 => none_of_dom d (FutG.new F b o h1 h2)
  dom := F.dom
theorem ds_setObj {i : Nat} {x : Str} {e : Expr} {f : SE} {pos' pos : Pos} (hN : X.N.Nodup) (hi : X.N[i]? = some x) (hx : Loc X.env.scope x) (he : DE X ca H0 Wx .fre e f) (hs : swapsWith e (some (.Name x pos')) pos.line X.env = pure false := by rfl)
    (hf : X.fn x = true ∨ X.env.scope.names.lookup x = some .local := by first | exact .inl rfl | exact .inr rfl | assumption) : DS X ca H0 Wx mr (.Assign [.Name x pos'] e pos) (bSetObj i f) := by
  refine PS.imp (ps_set hN hi hx he hs hf) fun D σ H ⟨W, ρ, S, R, o⟩ => ⟨W, ρ, S, R, (OutS.bindO R o).imp fun d S' W' H' F R' h v r => ?_⟩
  by_cases hu : unlk ρ[i]? = true
  · rw [if_pos hu] at h
    have go : ∀ {a : Addr} {u : HO} {ob : Ob}, obOf d = some ob → H a = none → W'.hf a = none → W'.ow a = none → H' a = some u → ObOk X.K ca W' H' a ob → D.nx (σ.set i (some (.ref a))) H' := fun {a u ob} he h1 h2 h3 h4 h5 => by
      rw [he] at h
      exact h _ _ _ (FutS.moreNew R.h0 R'.s F h1) ((R'.more (none_of_dom R.h0 h1) h2 h3 h4 h5).set ⟨_, rfl, .obj (if_pos rfl)⟩)
    cases d with
    | lst ds => obtain ⟨a, vs, e, h1, h2, h3, h4, q⟩ := r; subst e; exact go rfl h1 h2 h3 h4 ⟨vs, h4, q⟩
    | dK ds => obtain ⟨a, vs, e, h1, h2, h3, h4, q⟩ := r; subst e; exact go rfl h1 h2 h3 h4 ⟨vs, h4, q⟩
    | dT ds => obtain ⟨a, vs, e, h1, h2, h3, h4, q⟩ := r; subst e; exact go rfl h1 h2 h3 h4 ⟨vs, h4, q⟩
    | _ => exact False.elim h
  · rw [if_neg hu] at h; exact False.elim h
end
end DL

/-! DL6: what a def promises; its call. -/
namespace DL
open PySem PySem.Spec PyProof.Rows L2

abbrev CXP (P : Program) (w : World) : CXT := L2.CX P w
/-- a def keeps a promise wherever no repr is under way -/
structure FnG (P : Program) (w : World) (K : PySem.W.Frag) (mg : Str → Option Value) (base : Heap) (k : Nat) (f : Addr) (fd : FuncData) (ps : List Str) (sp : Sp) : Prop where
  len : ∀ vs H Q E, sp vs H Q E → vs.length = ps.length
  go : ∀ (A : Around) (outer : List Env) (s : Shared) (H : Hp) (args : Args) (us : List Value) (vs : List V) (Q : VK) (E : XK), A.guards = some [] → Room k A →
    Env0 P w K mg base A outer s H → BindsTo s fd args (ps.zip us) → Vals vs us → sp vs H Q E → codeAny (model P w) A (.call (.ref f) args) (CR (CXP P w) outer P w H s Q E) s
theorem FnG.mono {P : Program} {w : World} {K : PySem.W.Frag} {mg : Str → Option Value} {base : Heap} {j k : Nat} {f : Addr} {fd : FuncData} {ps : List Str} {sp : Sp} (F : FnG P w K mg base j f fd ps sp) (h : j ≤ k) : FnG P w K mg base k f fd ps sp :=
  ⟨F.len, fun A outer s H args us vs Q E hg hr => F.go A outer s H args us vs Q E hg (hr.mono h)⟩
theorem guards_deeper {A : Around} {env : Env} (h : A.guards = some []) : (A.deeper env).guards = some [] := h
section
variable {P : Program} {w : World} {K : PySem.W.Frag} {mg : Str → Option Value} {base : Heap} {x qual : Str} {params : Arguments} {body : List Stmt} {scope : Scope} {dvs : List V} {kws : List (Str × V)} {f : Addr} {fd : FuncData}
theorem FunD.okG {N ps : List Str} {k : Nat} {sp : Sp} (F : FunD K x qual params body scope dvs kws f fd) (S : FnScope N ps scope) (len : ∀ vs H Q E, sp vs H Q E → vs.length = ps.length)
    (hb : ∀ (cdv : Value) (A : Around) (outer : List Env) (s : Shared) (H : Hp) (vs : List V) (Q : VK) (E : XK), A.guards = some [] → Room k (A.deeper (envOfC qual scope s.heap.objs.size f cdv)) → sp vs H Q E →
      ∃ t, PSs (cxOf (CXP P w) P w K mg base N qual scope f cdv A outer s H E) body t ∧ t { nx := fun _ H' => Q .non H', rt := Q } (L2.start N vs) H) : FnG P w K mg base (k + 1) f fd ps sp := by
  obtain ⟨oc, od, dV, kV, doc, pm, an, cdv, ct, osl, rfl, lk, hcd, _, _⟩ := F.ex
  refine ⟨len, ?_⟩
  intro A outer s H args us vs Q E hg hr e0 hbi r hsp
  have inb : ∀ b o, base.get? b = some o → s.heap.get? b = some o := fun b o e => (e0.bs b o e).1
  have kx : K.In s.heap := e0.mod.kin.keeps inb
  have nl : s.heap.NoLimit := e0.mod.nolimit.keeps inb
  have kinds : ∀ y ∈ ps.zip us, scope.names.lookup y.1 = some .local ∨ (scope.names.lookup y.1 = some .cell ∧ ((cellsFrom (s.heap.objs.size + 1) scope.names []).lookup y.1).isSome = true) := by
    rintro ⟨n, v⟩ hy
    cases S.par n (List.of_mem_zip hy).1 with
    | inl q => exact .inl q
    | inr q => exact .inr ⟨q, PySem.W.cellsFrom_some _ _ _ (.inl q)⟩
  refine codeAny_call_function hr.depth (kx _ _ lk) rfl S.co S.gen rfl (PySem.W.codeRec_of kx hcd) (hbi _ _ _ _ (wpAny_newFunctionEnv_cells S.kind kinds fun env ee s1 xx => ?_))
  cases ee
  refine ⟨nl.keeps xx.toInCall.keep, codeAny_func ?_⟩
  obtain ⟨t, ht, hq⟩ := hb cdv A outer s H vs Q E hg (hr.deeper _) hsp
  have I0 := inv_start (CX := CXP P w) (E := E) (cd := cdv) S hr.hd e0 (len _ _ _ _ hsp) r xx
  refine wpAny_mono (ht.run [] s1 (L2.start N vs) H _ I0 hq) (fun fl s' hs => ?_) fun e s' hs => hs
  cases fl with
  | ret u => obtain ⟨v, σ', H', J, rv, q⟩ := hs; exact ⟨v, H', J.os, J.bare, J.base, J.hok, rv, q⟩
  | next => obtain ⟨σ', H', J, q⟩ := hs; exact ⟨V.non, H', J.os, J.bare, J.base, J.hok, rfl, q⟩
  | brk => exact hs.elim fun _ z => z.elim fun _ z => z.2.elim
  | cont => exact hs.elim fun _ z => z.elim fun _ z => z.2.elim
end
/-- the callee runs, and what it raises is what is wished at the slots -/
theorem run_G {X : Cx} {k : Nat} {f : Addr} {fd : FuncData} {ps : List Str} {sp : Sp} {dvs : List V} {ds : List Value} {E : L2.St → XK} {pins : List (Addr × Obj)} {σ : L2.St} {H : Hp} {s : Shared} {Q : VK} {us : List Value} {vs : List V}
    (F : FnG X.prog X.w X.K X.mg X.base k f fd ps sp) (hg : X.A.guards = some []) (hr : Room k X.A) (hb : Binds X.K fd ps ds) (hd : Vals dvs ds) (hx : PassesAt (CXP X.prog X.w) X σ (E σ))
    (I : Inv X pins σ H s) (r : Vals vs us) (h : sp (vs ++ dvs) H Q (E σ)) : wpAny (model X.prog X.w) X.A (call (.ref f) us) (EP X pins σ Q) X.xe s := by
  have r2 := r.append hd
  have hl : (us ++ ds).length = ps.length := r2.length.symm.trans (F.len _ _ _ _ h)
  refine wpAny_call (codeAny_mono (F.go X.A X.stack s H ⟨us, []⟩ (us ++ ds) (vs ++ dvs) Q (E σ) hg hr I.env0 (hb s us I.kIn hl) r2 h) ?_)
  intro res s' hq
  match res, hq with
  | .error e, hq => exact hx pins H s e s' I hq
  | .ok (.ret u), hq => exact I.after hq
theorem pe_callG {X : Cx} {k : Nat} {f : Addr} {fd : FuncData} {ps : List Str} {sp : Sp} {dvs : List V} {ds : List Value} {E : L2.St → XK} {x : Str} {p pos : Pos} {e : Expr} {es : List Expr} {t : TA}
    (F : FnG X.prog X.w X.K X.mg X.base k f fd ps sp) (hG : X.A.guards = some []) (hr : Room k X.A) (hg : Gl X x) (hm : X.mg x = some (.ref f)) (hk : PySem.W.keepIn X.K (.ref f) = true) (hb : Binds X.K fd ps ds) (hd : Vals dvs ds) (hx : ∀ σ, PassesAt (CXP X.prog X.w) X σ (E σ))
    (ha : PA X (e :: es) t) (hdb : (x == ("__debug__" : Str)) = false := by decide) (he : starEach (e :: es) X.env = (false, eval e X.env) :: starEach es X.env := by rfl) (hpl : (backTo pos (starEach es X.env)).any (·.1) = false := by rfl) :
    PE X (.Call (.Name x p) (e :: es) [] pos) (tCallSD sp dvs E t) :=
  ⟨fun pins s σ H Q I h => wpAny_Call_Name_kw (ld_glob I hg hm (PySem.W.callWith_K (h₀ := X.base) I.ok.mod.kin hk (thn (ha.run pos pins s σ H _ I h) fun us s1 ⟨vs, H1, I1, r, q⟩ =>
    ⟨I1.kIn, run_G F hG hr hb hd (hx σ) I1 r q⟩) he hpl) hdb)⟩
theorem pe_callG0 {X : Cx} {k : Nat} {f : Addr} {fd : FuncData} {ps : List Str} {sp : Sp} {dvs : List V} {ds : List Value} {E : L2.St → XK} {x : Str} {p pos : Pos}
    (F : FnG X.prog X.w X.K X.mg X.base k f fd ps sp) (hG : X.A.guards = some []) (hr : Room k X.A) (hg : Gl X x) (hm : X.mg x = some (.ref f)) (hk : PySem.W.keepIn X.K (.ref f) = true) (hb : Binds X.K fd ps ds) (hd : Vals dvs ds) (hx : ∀ σ, PassesAt (CXP X.prog X.w) X σ (E σ))
    (hdb : (x == ("__debug__" : Str)) = false := by decide) : PE X (.Call (.Name x p) [] [] pos) (tCallSD sp dvs E tNil) :=
  ⟨fun pins s σ H Q I h => wpAny_Call_Name_kw (ld_glob I hg hm (PySem.W.callWith_K0 I.kIn hk (run_G (us := []) (vs := []) F hG hr hb hd (hx σ) I .nil h)) hdb)⟩

/-! ### the promise by a function on data -/
abbrev Sem1 := List D → Sto → Option (Except Xc D × Sto)
section
variable (K : PySem.W.Frag) (ca : Ca)
def OutF (mr : Md) (W : Wd) (H : Hp) (r : Option (Except Xc D × Sto)) (Q : VK) (E : XK) : Prop :=
  match r with
  | none => False
  | some (.ok d, S') => ∀ W' H' v, Fut W H W' H' → WOk W' H' → RepS K ca W' H' S' → DR K ca mr H W' H' v d → Q v H'
  | some (.error x, S') => ∀ W' H' cls od, Fut W H W' H' → WOk W' H' → RepS K ca W' H' S' → XV K ca W' H' cls od x → E cls od H'
/-- what is handed in: to be kept (true), or to be looked at -/
inductive Bos (W : Wd) (H : Hp) : List Bool → List V → List D → Prop
  | nil : Bos W H [] [] []
  | kept {ms : List Bool} {v : V} {vs : List V} {d : D} {ds : List D} : DV K ca W.hf W.ad v d → Bos W H ms vs ds → Bos W H (true :: ms) (v :: vs) (d :: ds)
  | look {ms : List Bool} {v : V} {vs : List V} {d : D} {ds : List D} : Bo K ca H W H v d → Bos W H ms vs ds → Bos W H (false :: ms) (v :: vs) (d :: ds)
def spD (ms : List Bool) (mr : Md) (sem : Sem1) : Sp := fun vs H Q E => ∃ W ds S, WOk W H ∧ RepS K ca W H S ∧ (∀ a p, W.ow a = some p → calmO (some p) = false) ∧ Bos K ca W H ms vs ds ∧ OutF K ca mr W H (sem ds S) Q E
end
/-- the slots at the entry -/
def parSl : List Bool → List D → Rho
  | true :: ms, d :: ds => .val d :: parSl ms ds
  | false :: ms, d :: ds => .bo d :: parSl ms ds
  | _, _ => []
section
variable {K : PySem.W.Frag} {ca : Ca} {W : Wd} {H : Hp}
theorem Bos.length : ∀ {ms : List Bool} {vs : List V} {ds : List D}, Bos K ca W H ms vs ds → vs.length = ds.length ∧ ds.length = ms.length ∧ (parSl ms ds).length = ds.length
  | _, _, _, .nil => ⟨rfl, rfl, rfl⟩
  | _, _, _, .kept _ r => ⟨congrArg (· + 1) (Bos.length r).1, congrArg (· + 1) (Bos.length r).2.1, congrArg (· + 1) (Bos.length r).2.2⟩
  | _, _, _, .look _ r => ⟨congrArg (· + 1) (Bos.length r).1, congrArg (· + 1) (Bos.length r).2.1, congrArg (· + 1) (Bos.length r).2.2⟩
theorem Bos.get {x : Sl} : ∀ {ms : List Bool} {vs : List V} {ds : List D} {i : Nat}, Bos K ca W H ms vs ds → (parSl ms ds)[i]? = some x → ∃ v, vs[i]? = some v ∧ ∀ j, SlotOk K ca ⟨H, none⟩ W H j (some v) x
  | _, _, _, i, .nil, e => by simp [parSl] at e
  | _, _, _, 0, .kept (v := v) q r, e => by
    cases e
    exact ⟨v, rfl, fun _ => ⟨v, rfl, q⟩⟩
  | _, _, _, 0, .look (v := v) q r, e => by
    cases e
    exact ⟨v, rfl, fun _ => ⟨v, rfl, q⟩⟩
  | _, _, _, i + 1, .kept q r, e => by
    obtain ⟨v, h1, h2⟩ := Bos.get (x := x) (i := i) r (by simpa [parSl] using e)
    exact ⟨v, by simpa using h1, h2⟩
  | _, _, _, i + 1, .look q r, e => by
    obtain ⟨v, h1, h2⟩ := Bos.get (x := x) (i := i) r (by simpa [parSl] using e)
    exact ⟨v, by simpa using h1, h2⟩
theorem Bos.app : ∀ {ms ns : List Bool} {vs ws : List V} {ds es : List D}, Bos K ca W H ms vs ds → Bos K ca W H ns ws es → Bos K ca W H (ms ++ ns) (vs ++ ws) (ds ++ es)
  | _, _, _, _, _, _, .nil, s => s
  | _, _, _, _, _, _, .kept q r, s => .kept q (Bos.app r s)
  | _, _, _, _, _, _, .look q r, s => .look q (Bos.app r s)
end
/-- a body as a function of its arguments -/
def semB (ms : List Bool) (n : Nat) (f : SS) : Sem1 := fun ds S => match f (parSl ms ds ++ List.replicate (n - ds.length) Sl.no) S with
  | none => none
  | some (.nx _, S') => some (.ok .non, S')
  | some (.ret d, S') => some (.ok d, S')
  | some (.exc _ x, S') => some (.error x, S')
  | some (.brk _, _) => none
  | some (.cnt _, _) => none
theorem start_get {N : List Str} {vs : List V} {i : Nat} (h : i < vs.length) : (L2.start N vs)[i]? = some vs[i]? := by
  unfold L2.start
  rw [List.getElem?_append_left (by rw [List.length_map]; exact h), List.getElem?_map]
  rw [List.getElem?_eq_getElem h]; rfl
theorem okD {P : Program} {w : World} {K : PySem.W.Frag} {mg : Str → Option Value} {base : Heap} {x qual : Str} {params : Arguments} {body : List Stmt} {scope : Scope} {dvs : List V} {kws : List (Str × V)} {f : Addr} {fd : FuncData} {ca : Ca} {mr : Md} (ms : List Bool)
    {N ps : List Str} {k : Nat} {fb : SS} (F : FunD K x qual params body scope dvs kws f fd) (S : FnScope N ps scope) (hms : ms.length = ps.length)
    (hb : ∀ (cdv : Value) (A : Around) (outer : List Env) (s : Shared) (H : Hp) (E : XK), A.guards = some [] → Room k (A.deeper (envOfC qual scope s.heap.objs.size f cdv)) →
      DSs (cxOf (CXP P w) P w K mg base N qual scope f cdv A outer s H E) ca ⟨H, none⟩ (fun cls d _ H' => E cls d H') mr body fb) (hmr : mr = .frz ∨ mr = .fre := by first | exact .inl rfl | exact .inr rfl) : FnG P w K mg base (k + 1) f fd ps (spD K ca ms mr (semB ms N.length fb)) := by
  refine FunD.okG F S (fun vs H Q E h => ?_) fun cdv A outer s H vs Q E hg hr h => ⟨_, hb cdv A outer s H E hg hr, ?_⟩
  · obtain ⟨W, ds, S', w1, s1, c1, q, _⟩ := h
    rw [q.length.1, q.length.2.1]; exact hms
  · obtain ⟨W, ds, S0, w1, s1, c1, q, o⟩ := h
    obtain ⟨l1, l2, l3⟩ := q.length
    have hpl : ps.length ≤ N.length := by have := congrArg List.length S.pre; rw [List.length_take] at this; omega
    refine ⟨W, parSl ms ds ++ List.replicate (N.length - ds.length) Sl.no, S0, ⟨w1, s1, ?_, fun i y e => ?_, fun a o h => ⟨o, h⟩⟩, ?_⟩
    · unfold L2.start
      rw [List.length_append, List.length_append, List.length_map, l3, List.length_replicate, List.length_replicate, l1]
    · by_cases hi : i < ds.length
      · rw [List.getElem?_append_left (by rw [l3]; exact hi)] at e
        obtain ⟨v, h1, h2⟩ := q.get e
        exact ⟨some v, by rw [start_get (by rw [l1]; exact hi), h1], h2 i⟩
      · rw [List.getElem?_append_right (by rw [l3]; omega), l3, List.getElem?_replicate] at e
        by_cases hz : i - ds.length < N.length - ds.length
        · rw [if_pos hz] at e; cases e
          refine ⟨none, ?_, trivial⟩
          unfold L2.start
          rw [List.getElem?_append_right (by rw [List.length_map, l1]; omega), List.length_map, l1, List.getElem?_replicate, if_pos hz]
        · rw [if_neg hz] at e; cases e
    · have fut : ∀ {W' : Wd} {H' : Hp}, FutS ⟨H, none⟩ W H W' H' → Fut W H W' H' := fun {W' H'} F => ⟨F.hf, F.ad, fun a o h hc => F.keep a o h (by
        cases e : W.ow a with
        | none => rfl
        | some p => rw [e, c1 a p e] at hc; cases hc), FutG.new F, F.dom⟩
      unfold semB at o
      match e : fb (parSl ms ds ++ List.replicate (N.length - ds.length) Sl.no) S0 with
      | none => rw [e] at o; exact o
      | some (.nx _, S') => rw [e] at o; exact fun W' H' σ' F R' => o W' H' .non (fut F) R'.w R'.s (DR.scal rfl .non)
      | some (.ret d, S') => rw [e] at o; exact fun W' H' v F w' s' r => o W' H' v (fut F) w' s' r
      | some (.exc _ z, S') => rw [e] at o; exact fun W' H' σ' cls od F R' xv => o W' H' cls od (fut F) R'.w R'.s xv
      | some (.brk _, _) => rw [e] at o; exact o.elim
      | some (.cnt _, _) => rw [e] at o; exact o.elim
/-- another function that gives the same -/
theorem FnG.sem {P : Program} {w : World} {K : PySem.W.Frag} {mg : Str → Option Value} {base : Heap} {k : Nat} {f : Addr} {fd : FuncData} {ps : List Str} {ca : Ca} {ms : List Bool} {mr : Md} {sem sem' : Sem1} (F : FnG P w K mg base k f fd ps (spD K ca ms mr sem))
    (h : ∀ ds S r, sem' ds S = some r → sem ds S = some r) : FnG P w K mg base k f fd ps (spD K ca ms mr sem') :=
  have i : ∀ vs H Q E, spD K ca ms mr sem' vs H Q E → spD K ca ms mr sem vs H Q E := fun vs H Q E ⟨W, ds, S, a1, a2, a3, a4, o⟩ => ⟨W, ds, S, a1, a2, a3, a4, by
    cases e : sem' ds S with
    | none => rw [e] at o; exact o.elim
    | some r => rw [e] at o; rw [h ds S r e]; exact o⟩
  ⟨fun vs H Q E q => F.len vs H Q E (i _ _ _ _ q), fun A outer s H args us vs Q E hg hr e0 hb r q => F.go A outer s H args us vs Q E hg hr e0 hb r (i _ _ _ _ q)⟩

/-! ### the call -/
section
variable (K : PySem.W.Frag) (ca : Ca) (H0 : Bs) (Wx : WX)
inductive DRm (H : Hp) (W : Wd) (H' : Hp) : List Md → List V → List D → Prop
  | nil : DRm H W H' [] [] []
  | cons {m : Md} {ms : List Md} {v : V} {vs : List V} {d : D} {ds : List D} : DR K ca m H W H' v d → DRm H W H' ms vs ds → DRm H W H' (m :: ms) (v :: vs) (d :: ds)
def tAm (ms : List Md) (f : SA) : TA := fun σ H Q => ∃ W ρ S, Rep K ca H0 W H σ ρ S ∧ OutM K ca H0 Wx W ρ σ H (f ρ S) fun ds _ W' H' => ∀ vs, DRm K ca H W' H' ms vs ds → Q vs H'
end
abbrev DAm (X : Cx) (ca : Ca) (H0 : Bs) (Wx : WX) (ms : List Md) (es : List Expr) (f : SA) : Prop := PA X es (tAm X.K ca H0 Wx ms f)
def pmd : Bool → Md
  | true => .frz
  | false => .bor
section
variable {X : Cx} {ca : Ca} {H0 : Bs} {Wx : WX}
theorem DRm.older {K : PySem.W.Frag} {H H1 H2 : Hp} {W1 : Wd} (dm : ∀ a o, H a = some o → ∃ o', H1 a = some o') : ∀ {ms : List Md} {vs : List V} {ds : List D}, DRm K ca H1 W1 H2 ms vs ds → DRm K ca H W1 H2 ms vs ds
  | _, _, _, .nil => .nil
  | _, _, _, .cons q r => .cons (DR.older dm q) (DRm.older dm r)
theorem dam_nil : DAm X ca H0 Wx [] [] sNil := PA.imp pa_nil fun σ H Q ⟨W, ρ, S, R, o⟩ => OutM.re R o [] .nil
theorem dam_cons {m : Md} {ms : List Md} {e : Expr} {es : List Expr} {fe : SE} {fr : SA} (he : DE X ca H0 Wx m e fe) (hr : DAm X ca H0 Wx ms es fr) (hm : m ≠ .fre := by decide) (hs : starEach (e :: es) X.env = (false, eval e X.env) :: starEach es X.env := by rfl) : DAm X ca H0 Wx (m :: ms) (e :: es) (sCons fe fr) := by
  refine PA.imp (pa_cons he hr hs) fun σ H Q ⟨W, ρ, S, R, o⟩ => ⟨W, ρ, S, R, (OutM.bind o).imp fun d S1 W1 H1 F1 R1 h1 x D1 => ⟨W1, ρ, S1, R1, (OutM.bind h1).imp fun ds S2 W2 H2 F2 R2 h2 xs D2 => ?_⟩⟩
  exact OutM.re R2 h2 (x :: xs) (.cons (DR.later hm F2 D1) (DRm.older F1.dom D2))
end
/-- the world as a callee sees it: nobody's slots -/
def Wd.cal (W : Wd) : Wd := { W with ow := fun a => if calmO (W.ow a) = true then none else W.ow a }
theorem cal_calm {W : Wd} {a : Addr} (h : calmO (W.ow a) = true) : W.cal.ow a = none := if_pos h
theorem cal_ob {W : Wd} {a : Addr} (h : calmO (W.ow a) = false) : W.cal.ow a = W.ow a := if_neg (by rw [h]; exact Bool.false_ne_true)
/-- behind the call: the callee's world, and this def's own slots -/
def Wd.back (W W' : Wd) : Wd := { W' with ow := fun a => if calmO (W.ow a) = true then (match W.ow a with | none => W'.ow a | p => p) else W'.ow a }
section
variable {K : PySem.W.Frag} {ca : Ca} {H0 : Bs} {H H' : Hp} {W W' : Wd} {σ : L2.St} {ρ : Rho} {S S' : Sto}
theorem back_none {a : Addr} (h : W.ow a = none) : (W.back W').ow a = W'.ow a := by
  show (if calmO (W.ow a) = true then (match W.ow a with | none => W'.ow a | p => p) else W'.ow a) = _
  rw [h]; rfl
theorem back_ob {a : Addr} (h : calmO (W.ow a) = false) : (W.back W').ow a = W'.ow a := if_neg (by rw [h]; exact Bool.false_ne_true)
theorem back_own {a : Addr} {p : Own} (h : W.ow a = some p) (c : calmO (some p) = true) : (W.back W').ow a = some p := by
  show (if calmO (W.ow a) = true then (match W.ow a with | none => W'.ow a | p => p) else W'.ow a) = _
  rw [h, if_pos c]
theorem WOk.cal (w : WOk W H) : WOk W.cal H where
  sub := w.sub
  tup := w.tup
  dis := fun a p e => by
    by_cases h : calmO (W.ow a) = true
    · rw [cal_calm h] at e; cases e
    · rw [cal_ob (by simpa using h)] at e; exact w.dis a p e
  dom := fun a p e => by
    by_cases h : calmO (W.ow a) = true
    · rw [cal_calm h] at e; cases e
    · rw [cal_ob (by simpa using h)] at e; exact w.dom a p e
theorem RepS.cal (s : RepS K ca W H S) : RepS K ca W.cal H S where
  at_ := fun n ob e => by
    obtain ⟨a, h1, h2, h3⟩ := s.at_ n ob e
    exact ⟨a, h1, by rw [cal_ob (by rw [h2]; rfl)]; exact h2, h3.mono (fun _ h => h) (Same.refl _) fun _ _ h => h⟩
  fin := s.fin
theorem back_at (F : Fut W.cal H W' H') (w : WOk W H) {a : Addr} (h : (W.back W').ow a ≠ W'.ow a) : ∃ p, W.ow a = some p ∧ calmO (some p) = true ∧ (W.back W').ow a = some p ∧ W'.ow a = none ∧ W'.hf a = none ∧ ∃ o, H a = some o ∧ H' a = some o := by
  cases e : W.ow a with
  | none => exact absurd (back_none e) h
  | some p =>
    by_cases c : calmO (some p) = true
    · obtain ⟨o, ho⟩ := w.dom a p e
      have hc : W.cal.ow a = none := cal_calm (by rw [e]; exact c)
      obtain ⟨k1, k2⟩ := F.keep a o ho (by rw [hc]; rfl)
      refine ⟨p, rfl, c, back_own e c, k2.trans hc, ?_, o, ho, k1⟩
      cases q : W'.hf a with
      | none => rfl
      | some u =>
        have z := FutG.new F a u q (show W.hf a = none from w.dis a p e)
        rw [ho] at z; cases z
    · exact absurd (back_ob (by rw [e]; simpa using c)) h
theorem Fut.back (F : Fut W.cal H W' H') (w : WOk W H) : Fut W H (W.back W') H' where
  hf := F.hf
  ad := F.ad
  keep := fun a o h hc => by
    obtain ⟨k1, k2⟩ := F.keep a o h (by rw [cal_calm hc]; rfl)
    refine ⟨k1, ?_⟩
    cases e : W.ow a with
    | none => rw [back_none e, k2, cal_calm hc]
    | some p => exact back_own e (by rw [← e]; exact hc)
  new := fun a o h1 h2 => FutG.new F a o h1 h2
  dom := F.dom
theorem Rep.back (R : Rep K ca H0 W H σ ρ S) (F : Fut W.cal H W' H') (w' : WOk W' H') (s' : RepS K ca W' H' S') : Rep K ca H0 (W.back W') H' σ ρ S' where
  w := ⟨w'.sub, w'.tup, fun a p e => by
    by_cases h : (W.back W').ow a = W'.ow a
    · rw [h] at e; exact w'.dis a p e
    · obtain ⟨_, _, _, _, _, z, _⟩ := back_at F R.w h; exact z, fun a p e => by
    by_cases h : (W.back W').ow a = W'.ow a
    · rw [h] at e; exact w'.dom a p e
    · obtain ⟨_, _, _, _, _, _, o, _, z⟩ := back_at F R.w h; exact ⟨o, z⟩⟩
  s := ⟨fun n ob e => by
    obtain ⟨a, h1, h2, h3⟩ := s'.at_ n ob e
    have h : (W.back W').ow a = W'.ow a := by
      by_cases h : (W.back W').ow a = W'.ow a
      · exact h
      · obtain ⟨_, _, _, _, z, _⟩ := back_at F R.w h
        rw [h2] at z; cases z
    exact ⟨a, h1, h.trans h2, h3.mono (fun _ h => h) (Same.refl _) fun _ _ h => h⟩, s'.fin⟩
  len := R.len
  sl := fun i x e => by
    obtain ⟨v, h1, h2⟩ := R.sl i x e
    have G := Fut.back F R.w
    refine ⟨v, h1, h2.mono F.hf F.ad fun b o hb hp => G.keep b o hb ?_⟩
    rcases hp with hp | hp | hp
    · rw [hp]; rfl
    · rw [hp]; rfl
    · exact calmS_O hp.1
  h0 := fun a o e => by
    obtain ⟨o', h⟩ := R.h0 a o e
    exact F.dom a o' h
theorem DR.back {m : Md} {v : V} {d : D} (hm : m = .frz ∨ m = .fre) (w : WOk W H) (r : DR K ca m H W' H' v d) : DR K ca m H (W.back W') H' v d := by
  have go : ∀ {a : Addr}, H a = none → (W.back W').ow a = W'.ow a := fun {a} h => back_none (w.free h).2
  cases m with
  | bor => rcases hm with h | h <;> cases h
  | sta => rcases hm with h | h <;> cases h
  | frz => exact r
  | fre =>
    cases d with
    | lst l => obtain ⟨a, vs, e, h1, h2, h3, q⟩ := r; exact ⟨a, vs, e, h1, h2, (go h1).trans h3, q⟩
    | dK l => obtain ⟨a, vs, e, h1, h2, h3, q⟩ := r; exact ⟨a, vs, e, h1, h2, (go h1).trans h3, q⟩
    | dT l => obtain ⟨a, vs, e, h1, h2, h3, q⟩ := r; exact ⟨a, vs, e, h1, h2, (go h1).trans h3, q⟩
    | _ => exact r
theorem Bo.arg {Hb : Hp} {v : V} {d : D} (w : WOk W H) (r : DR K ca .bor Hb W H v d) : Bo K ca H W.cal H v d := by
  have go : ∀ {a : Addr}, calmO (W.ow a) = true → calmS (W.cal.ow a) = true := fun {a} h => by rw [cal_calm h]; rfl
  cases d with
  | lst l => obtain ⟨a, vs, e, h1, h2, q⟩ := r; exact ⟨a, vs, e, h1, go h2, ⟨_, h1⟩, q⟩
  | dK l => obtain ⟨a, vs, e, h1, h2, q⟩ := r; exact ⟨a, vs, e, h1, go h2, ⟨_, h1⟩, q⟩
  | dT l => obtain ⟨a, vs, e, h1, h2, q⟩ := r; exact ⟨a, vs, e, h1, go h2, ⟨_, h1⟩, q⟩
  | _ => exact r
theorem Bos.args {Hb : Hp} (w : WOk W H) : ∀ {ms : List Bool} {vs : List V} {ds : List D}, DRm K ca Hb W H (ms.map pmd) vs ds → Bos K ca W.cal H ms vs ds
  | [], _, _, .nil => .nil
  | true :: _, _, _, .cons q r => .kept q (Bos.args w r)
  | false :: _, _, _, .cons q r => .look (Bo.arg w q) (Bos.args w r)
theorem Bos.cons_ {W : Wd} {H : Hp} (ms : List Bool) : ∀ {vs : List V} {ds : List D}, ms.length = ds.length → DVs K ca (fun _ => none) (fun _ => none) vs ds → ds.all isScal = true → Bos K ca W H ms vs ds := by
  induction ms with
  | nil =>
    intro vs ds hl q _
    cases q with
    | nil => exact .nil
    | cons _ _ => cases hl
  | cons m ms ih =>
    intro vs ds hl q e
    cases q with
    | nil => cases hl
    | @cons v vs d ds q r =>
      rw [List.all_cons, Bool.and_eq_true] at e
      have q' : DV K ca W.hf W.ad v d := q.mono (fun _ _ h => by cases h) fun _ _ h => by cases h
      have r' := ih (by simpa using hl) r e.2
      cases m with
      | true => exact .kept q' r'
      | false =>
        refine .look ?_ r'
        cases d <;> first | exact q' | cases e.1
end
abbrev SAlen (fa : SA) (n : Nat) : Prop := ∀ ρ S vs S', fa ρ S = some (.ok vs, S') → vs.length = n
theorem len_nil : SAlen sNil 0 := fun ρ S vs S' e => by cases e; rfl
theorem len_cons {fe : SE} {fr : SA} {n : Nat} (h : SAlen fr n) : SAlen (sCons fe fr) (n + 1) := fun ρ S vs S' e => by
  unfold sCons mb at e
  match e1 : fe ρ S with
  | none => rw [e1] at e; cases e
  | some (.error z, S1) => rw [e1] at e; cases e
  | some (.ok d, S1) =>
    rw [e1] at e
    match e2 : fr ρ S1 with
    | none => simp only [e2] at e; cases e
    | some (.error z, S2) => simp only [e2] at e; cases e
    | some (.ok ds, S2) =>
      simp only [e2] at e
      cases e
      rw [List.length_cons, h _ _ _ _ e2]
def sCallU (sem : Sem1) (dds : List D) (fa : SA) : SE := fun ρ => mb (fa ρ) fun ds S => sem (ds ++ dds) S
section
variable {X : Cx} {ca : Ca} {H0 : Bs} {Wx : WX} {mr : Md}
theorem outF_of {W : Wd} {H Hr : Hp} {σ : L2.St} {ρ : Rho} {S : Sto} {r : Option (Except Xc D × Sto)} {Q : VK} (hm : mr = .frz ∨ mr = .fre) (R : Rep X.K ca H0 W H σ ρ S)
    (h : OutM X.K ca H0 Wx W ρ σ H r fun d _ W' H' => ∀ v, DR X.K ca mr H W' H' v d → Q v H') : OutF X.K ca mr W.cal H r Q (WE Wx σ) := by
  match r, h with
  | some (.ok d, S'), h => exact fun W' H' v F w' s' q => h (W.back W') H' (Fut.back F R.w) (R.back F w' s') v (DR.back hm R.w q)
  | some (.error x, S'), h => exact fun W' H' cls od F w' s' xv => h (W.back W') H' cls od (Fut.back F R.w) (R.back F w' s') xv
theorem de_call {k : Nat} {f : Addr} {fd : FuncData} {ps : List Str} {ms ns : List Bool} {sem : Sem1} {dvs : List V} {ds : List Value} {dds : List D} {x : Str} {p pos : Pos} {e : Expr} {es : List Expr} {fa : SA}
    (F : FnG X.prog X.w X.K X.mg X.base k f fd ps (spD X.K ca (ms ++ ns) mr sem)) (hG : X.A.guards = some []) (hr : Room k X.A) (hg : Gl X x) (hm : X.mg x = some (.ref f)) (hk : PySem.W.keepIn X.K (.ref f) = true) (hb : Binds X.K fd ps ds) (hd : Vals dvs ds)
    (hq : DVs X.K ca (fun _ => none) (fun _ => none) dvs dds) (hs : dds.all isScal = true) (tk : Takes X Wx) (ha : DAm X ca H0 Wx (ms.map pmd) (e :: es) fa) (hn : ns.length = dds.length)
    (hmr : mr = .frz ∨ mr = .fre := by first | exact .inl rfl | exact .inr rfl)
    (hdb : (x == ("__debug__" : Str)) = false := by decide) (he : starEach (e :: es) X.env = (false, eval e X.env) :: starEach es X.env := by rfl) (hpl : (backTo pos (starEach es X.env)).any (·.1) = false := by rfl) :
    DE X ca H0 Wx mr (.Call (.Name x p) (e :: es) [] pos) (sCallU sem dds fa) := by
  refine PE.imp (pe_callG (E := WE Wx) F hG hr hg hm hk hb hd (fun σ => passAt tk σ) ha hdb he hpl) fun σ H Q ⟨W, ρ, S, R, o⟩ => ⟨W, ρ, S, R, ?_⟩
  have o1 := OutM.bind o
  cases e1 : fa ρ S with
  | none => rw [e1] at o1; exact o1.elim
  | some pr =>
    obtain ⟨ex, S1⟩ := pr
    rw [e1] at o1
    cases ex with
    | error z => exact o1
    | ok as =>
      refine fun W1 H1 F1 R1 vs D1 => ⟨W1.cal, as ++ dds, S1, R1.w.cal, R1.s.cal, fun a p h => ?_, (Bos.args R1.w D1).app (Bos.cons_ ns hn hq hs), ?_⟩
      · by_cases c : calmO (W1.ow a) = true
        · rw [cal_calm c] at h; cases h
        · rw [cal_ob (by simpa using c)] at h
          rw [← h]; simpa using c
      · exact outF_of (Hr := H) hmr R1 ((o1 W1 H1 F1 R1).imp fun d S2 W2 H2 F2 R2 q v r => q v (DR.older F1.dom r))
end
end DL

/-! DL7: lists are changed; loops. -/
namespace DL
open PySem PySem.Spec PyProof.Rows L2

section
variable {K : PySem.W.Frag} {ca : Ca} {H0 : Bs} {H H' : Hp} {W W' : Wd} {σ : L2.St} {ρ : Rho} {S : Sto} {a : Addr} {o : HO} {p : Own} {d : D}
theorem FutG.mut {st : Option Own → Bool} {Hn : Hp} {o : HO} (ho : st (W.ow a) = false) : FutG st Hn W H W (upd H a o) where
  hf := Same.refl _
  ad := fun _ _ h => h
  keep := fun b u h hc => ⟨by rw [upd_ne (fun z => by subst z; rw [ho] at hc; cases hc)]; exact h, rfl⟩
  new := fun b u h1 h2 => by rw [h1] at h2; cases h2
  dom := fun b u h => by
    by_cases z : b = a
    · subst z; exact ⟨o, upd_same⟩
    · exact ⟨u, by rw [upd_ne z]; exact h⟩
theorem WOk.mut (w : WOk W H) (hp : W.ow a = some p) (ht : ∀ xs, o ≠ .tup xs) : WOk W (upd H a o) where
  sub := fun b u e => by
    have z : b ≠ a := fun z => by
      subst z
      have := w.dis b p hp
      rw [this] at e; cases e
    rw [upd_ne z]; exact w.sub b u e
  tup := fun b xs e => by
    by_cases z : b = a
    · subst z; rw [upd_same] at e; cases e; exact absurd rfl (ht xs)
    · rw [upd_ne z] at e; exact w.tup b xs e
  dis := w.dis
  dom := fun b q e => by
    by_cases z : b = a
    · subst z; exact ⟨o, upd_same⟩
    · obtain ⟨u, h⟩ := w.dom b q e
      exact ⟨u, by rw [upd_ne z]; exact h⟩
theorem Rep.mutSlot {i : Nat} (R : Rep K ca H0 W H σ ρ S) (hs : σ[i]? = some (some (.ref a))) (hn : H0 a = none) (ho : W.ow a = some (.slot i)) (ht : ∀ xs, o ≠ .tup xs) (hc : Cont K ca W (upd H a o) a d) :
    Rep K ca H0 W (upd H a o) σ (ρ.set i (.own d)) S where
  w := R.w.mut ho ht
  s := ⟨fun n ob e => by
    obtain ⟨b, h1, h2, h3⟩ := R.s.at_ n ob e
    have z : b ≠ a := fun z => by subst z; rw [ho] at h2; cases h2
    exact ⟨b, h1, h2, h3.mono (fun u h => by rw [upd_ne z]; exact h) (Same.refl _) fun _ _ h => h⟩, R.s.fin⟩
  len := by rw [List.length_set]; exact R.len
  sl := fun j y e => by
    by_cases hj : i = j
    · subst hj
      have hi : i < ρ.length := by
        have z := (List.getElem?_eq_some_iff.mp e).1
        rw [List.length_set] at z; exact z
      rw [List.getElem?_set_self hi] at e; cases e
      exact ⟨_, hs, a, rfl, ho, hn, hc⟩
    · rw [List.getElem?_set_ne hj] at e
      obtain ⟨u, h1, h2⟩ := R.sl j y e
      refine ⟨u, h1, h2.mono (Same.refl _) (fun _ _ h => h) fun b x hb hp => ⟨?_, rfl⟩⟩
      have z : b ≠ a := fun z => by
        subst z
        rw [ho] at hp
        rcases hp with hp | hp | hp
        · cases hp; exact hj rfl
        · cases hp
        · exact Bool.false_ne_true hp.1
      rw [upd_ne z]; exact hb
  h0 := fun b u e => by
    obtain ⟨u', h⟩ := R.h0 b u e
    by_cases z : b = a
    · subst z; exact ⟨o, upd_same⟩
    · exact ⟨u', by rw [upd_ne z]; exact h⟩
theorem RepS.mutObj {n : Nat} {ob : Ob} (s : RepS K ca W H S) (hn : n < S.length) (ha : W.ad n = some a) (ho : W.ow a = some (.ob n)) (hc : ObOk K ca W (upd H a o) a ob) : RepS K ca W (upd H a o) (S.set n ob) where
  at_ := fun m ob' e => by
    by_cases z : n = m
    · subst z
      rw [List.getElem?_set_self hn] at e; cases e
      exact ⟨a, ha, ho, hc⟩
    · rw [List.getElem?_set_ne z] at e
      obtain ⟨b, h1, h2, h3⟩ := s.at_ m ob' e
      have y : b ≠ a := fun y => by subst y; rw [ho] at h2; cases h2; exact z rfl
      exact ⟨b, h1, h2, h3.mono (fun u h => by rw [upd_ne y]; exact h) (Same.refl _) fun _ _ h => h⟩
  fin := fun m hm => s.fin m (by rw [List.length_set] at hm; exact hm)
theorem Rep.mutObj {n : Nat} {ob : Ob} (R : Rep K ca H0 W H σ ρ S) (hn : n < S.length) (ha : W.ad n = some a) (ho : W.ow a = some (.ob n)) (ht : ∀ xs, o ≠ .tup xs) (hc : ObOk K ca W (upd H a o) a ob) :
    Rep K ca H0 W (upd H a o) σ ρ (S.set n ob) where
  w := R.w.mut ho ht
  s := R.s.mutObj hn ha ho hc
  len := R.len
  sl := fun j y e => by
    obtain ⟨u, h1, h2⟩ := R.sl j y e
    refine ⟨u, h1, h2.mono (Same.refl _) (fun _ _ h => h) fun b x hb hp => ⟨?_, rfl⟩⟩
    have z : b ≠ a := fun z => by
      subst z
      rw [ho] at hp
      rcases hp with hp | hp | hp
      · cases hp
      · cases hp
      · exact Bool.false_ne_true hp.1
    rw [upd_ne z]; exact hb
  h0 := fun b u e => by
    obtain ⟨u', h⟩ := R.h0 b u e
    by_cases z : b = a
    · subst z; exact ⟨o, upd_same⟩
    · exact ⟨u', by rw [upd_ne z]; exact h⟩
/-- a slot's own list becomes frozen -/
theorem Rep.unown {i : Nat} {o : HO} (R : Rep K ca H0 W H σ ρ S) (hs : σ[i]? = some (some (.ref a))) (he : ρ[i]? = some (.own d)) (ho : W.ow a = some (.slot i)) (ha : H a = some o) (hd : DV K ca ((W.drop a).fz a o).hf W.ad (.ref a) d) :
    Rep K ca H0 ((W.drop a).fz a o) H σ (ρ.set i (.val d)) S := by
  have hfn : W.hf a = none := R.w.dis a _ ho
  have s : Same W.hf (upd W.hf a o) := same_upd hfn
  have od : ∀ b, b ≠ a → ((W.drop a).fz a o).ow b = W.ow b := fun b h => drop_ow h
  have oa : ((W.drop a).fz a o).ow a = none := if_pos rfl
  refine ⟨⟨fun b x e => ?_, fun b xs e => s _ _ (R.w.tup b xs e), fun b q e => ?_, fun b q e => ?_⟩, ⟨fun n ob e => ?_, R.s.fin⟩, by rw [List.length_set]; exact R.len, fun j y e => ?_, R.h0⟩
  · by_cases h : b = a
    · subst h
      have e' : upd W.hf b o b = some x := e
      rw [upd_same] at e'; cases e'; exact ha
    · have e' : upd W.hf a o b = some x := e
      rw [upd_ne h] at e'; exact R.w.sub b x e'
  · have hb : b ≠ a := fun h => by subst h; rw [oa] at e; cases e
    show upd W.hf a o b = none
    rw [upd_ne hb]; rw [od b hb] at e; exact R.w.dis b q e
  · have hb : b ≠ a := fun h => by subst h; rw [oa] at e; cases e
    rw [od b hb] at e; exact R.w.dom b q e
  · obtain ⟨x, h1, h2, h3⟩ := R.s.at_ n ob e
    have hb : x ≠ a := fun h => by subst h; rw [ho] at h2; cases h2
    exact ⟨x, h1, (od x hb).trans h2, h3.mono (fun _ h => h) s fun _ _ h => h⟩
  · by_cases hj : i = j
    · subst hj
      have hi : i < ρ.length := by
        have z := (List.getElem?_eq_some_iff.mp e).1
        rw [List.length_set] at z; exact z
      rw [List.getElem?_set_self hi] at e; cases e
      exact ⟨_, hs, _, rfl, hd⟩
    · rw [List.getElem?_set_ne hj] at e
      obtain ⟨u, h1, h2⟩ := R.sl j y e
      refine ⟨u, h1, h2.mono s (fun _ _ h => h) fun b x hb hp => ⟨hb, od b fun z => ?_⟩⟩
      subst z
      rw [ho] at hp
      rcases hp with hp | hp | hp
      · cases hp; exact hj rfl
      · cases hp
      · exact Bool.false_ne_true hp.1
theorem FutS.unown {i : Nat} {o : HO} (ho : W.ow a = some (.slot i)) (hw : W.hf a = none) (hn : H0 a = none) : FutS H0 W H ((W.drop a).fz a o) H where
  hf := same_upd hw
  ad := fun _ _ h => h
  keep := fun b u h hc => ⟨h, drop_ow fun z => by subst z; rw [ho] at hc; cases hc⟩
  new := fun b x h1 h2 => by
    by_cases h : b = a
    · rw [h]; exact hn
    · have h1' : upd W.hf a o b = some x := h1
      rw [upd_ne h] at h1'
      rw [h1'] at h2
      cases h2
  dom := fun b u h => ⟨u, h⟩
theorem WOk.tupOf (w : WOk W H) {vs : List V} (h : TupQ K W.hf a vs) : SqT K H a vs := (Same.tupQ w.sub h).sq
end

/-- the slot's own list is looked at as frozen from here on -/
def bFz (i : Nat) (f : SS) : SS := fun ρ S => match ρ[i]? with
  | some (.own d) => f (ρ.set i (.val d)) S
  | _ => f ρ S
section
variable {X : Cx} {ca : Ca} {H0 : Bs} {Wx : WX} {mr : Md}
theorem fz_of {i : Nat} {f : SS} {D : Ends} {σ : L2.St} {H : Hp} (h : tS X.K ca H0 Wx mr (bFz i f) D σ H) : tS X.K ca H0 Wx mr f D σ H := by
  obtain ⟨W, ρ, S, R, o⟩ := h
  unfold bFz at o
  cases e : ρ[i]? with
  | none => rw [e] at o; exact ⟨W, ρ, S, R, o⟩
  | some sl =>
    rw [e] at o
    cases sl with
    | own d =>
      obtain ⟨v, h1, a, h2, h3, h4, h5⟩ := R.sl i _ e
      subst h2
      have hw : W.hf a = none := R.w.dis a _ h3
      have t : ∀ o, Same W.hf (upd W.hf a o) := fun o => same_upd hw
      have go : ∀ {u : HO}, H a = some u → DV X.K ca ((W.drop a).fz a u).hf W.ad (.ref a) d → tS X.K ca H0 Wx mr f D σ H := fun {u} ha hd =>
        ⟨_, _, S, R.unown h1 e h3 ha hd, OutS.later (FutS.unown h3 hw h4) o⟩
      cases d with
      | lst l => obtain ⟨vs, k1, k2⟩ := h5; exact go k1 (.lst upd_same (k2.mono (t _) fun _ _ h => h))
      | dK l => obtain ⟨vs, k1, k2⟩ := h5; exact go k1 (.dK upd_same (k2.mono (t _) fun _ _ h => h))
      | dT l => obtain ⟨vs, k1, k2⟩ := h5; exact go k1 (.dT upd_same (k2.mono (t _) fun _ _ h => h))
      | _ => exact h5.elim
    | _ => exact ⟨W, ρ, S, R, o⟩
theorem ds_fz {st : Stmt} {f : SS} (i : Nat) (h : DS X ca H0 Wx mr st f) : DS X ca H0 Wx mr st (bFz i f) := PS.imp h fun _ _ _ q => fz_of q
theorem dss_fz {st : List Stmt} {f : SS} (i : Nat) (h : DSs X ca H0 Wx mr st f) : DSs X ca H0 Wx mr st (bFz i f) := PSs.imp h fun _ _ _ q => fz_of q
/-- a new list goes to the store, its number is the value -/
def sObj (f : SE) : SE := fun ρ => mb (f ρ) fun d S => match obOf d with
  | some ob => some (.ok (.obj S.length), S ++ [ob])
  | none => none
theorem Fut.moreNew {K : PySem.W.Frag} {W W1 : Wd} {H H1 : Hp} {a : Addr} {S : Sto} (s : RepS K ca W1 H1 S) (F : Fut W H W1 H1) (hn : H a = none) : Fut W H (W1.more S.length a) H1 where
  hf := F.hf
  ad := fun n x e => by
    have e1 := F.ad n x e
    have hn : n ≠ S.length := fun z => by
      subst z
      rw [s.fin _ (Nat.le_refl _)] at e1; cases e1
    show (if n = S.length then some a else W1.ad n) = some x
    rw [if_neg hn]; exact e1
  keep := fun b o h hc => by
    have hb : b ≠ a := fun z => by subst z; rw [hn] at h; cases h
    obtain ⟨k1, k2⟩ := F.keep b o h hc
    exact ⟨k1, (show (W1.more S.length a).ow b = W1.ow b from if_neg hb).trans k2⟩
  new := fun b o h1 h2 => FutG.new F b o h1 h2
  dom := F.dom
theorem OutM.bind0 {α β : Type} {K : PySem.W.Frag} {W : Wd} {ρ : Rho} {σ : L2.St} {H : Hp} {S : Sto} {x : M α} {k : α → M β} {P : β → Sto → Wd → Hp → Prop} (h : OutM K ca H0 Wx W ρ σ H (mb x k S) P) :
    OutM K ca H0 Wx W ρ σ H (x S) fun a S1 _ _ => OutM K ca H0 Wx W ρ σ H (k a S1) P := by
  unfold mb at h
  match e : x S with
  | none => rw [e] at h; exact h
  | some (.error z, S') => rw [e] at h; exact h
  | some (.ok a, S') =>
    rw [e] at h
    exact fun W1 H1 f R => h
theorem de_obj {e : Expr} {f : SE} (h : DE X ca H0 Wx .fre e f) : DE X ca H0 Wx .frz e (sObj f) := by
  refine PE.imp h fun σ H Q ⟨W, ρ, S, R, o⟩ => ⟨W, ρ, S, R, (OutM.bind0 o).imp fun d S' W' H' F R' q v r => ?_⟩
  have go : ∀ {a : Addr} {u : HO} {ob : Ob}, obOf d = some ob → H a = none → W'.hf a = none → W'.ow a = none → H' a = some u → ObOk X.K ca W' H' a ob → Q (.ref a) H' := fun {a u ob} he h1 h2 h3 h4 h5 => by
    rw [he] at q
    exact q (W'.more S'.length a) H' (Fut.moreNew R'.s F h1) (R'.more (none_of_dom R.h0 h1) h2 h3 h4 h5) (.ref a) (.obj (if_pos rfl))
  cases d with
  | lst ds => obtain ⟨a, vs, e, h1, h2, h3, h4, q⟩ := r; subst e; exact go rfl h1 h2 h3 h4 ⟨vs, h4, q⟩
  | dK ds => obtain ⟨a, vs, e, h1, h2, h3, h4, q⟩ := r; subst e; exact go rfl h1 h2 h3 h4 ⟨vs, h4, q⟩
  | dT ds => obtain ⟨a, vs, e, h1, h2, h3, h4, q⟩ := r; subst e; exact go rfl h1 h2 h3 h4 ⟨vs, h4, q⟩
  | _ => exact False.elim q
end
/-! ### methods that change a list -/
section
variable (X : Cx) (ca : Ca)
def MuD (m : Md) (id : String) (mu : List D → List D → Option (D × List D)) : Prop :=
  ∃ r, MtR X id r ∧ ∀ (W : Wd) (H Hb : Hp) (a : Addr) (vs us : List V) (l ds l' : List D) (d : D) (Q : VK), WOk W H → H a = some (.lst vs) → DVs X.K ca W.hf W.ad vs l → DRs X.K ca m Hb W H us ds → mu l ds = some (d, l') →
    (∀ v vs', DV X.K ca W.hf W.ad v d → DVs X.K ca W.hf W.ad vs' l' → Q v (upd H a (.lst vs'))) → r (.ref a) us H Q
end
section
variable {X : Cx} {ca : Ca} {H0 : Bs} {Wx : WX} {mr : Md}
def uAppend : List D → List D → Option (D × List D) := fun l ds => match ds with
  | [d] => if l.length < sizeLine then some (.non, l ++ [d]) else none
  | _ => none
theorem mu_append : MuD X ca .frz "list.append" uAppend := by
  refine ⟨_, mt_append, fun W H Hb a vs us l ds l' d Q w h q1 q2 e k => ?_⟩
  match ds, q2, e with
  | [x], .cons q .nil, e =>
    have e : (if l.length < sizeLine then some (D.non, l ++ [x]) else none) = some (d, l') := e
    by_cases hl : l.length < sizeLine
    · rw [if_pos hl] at e; cases e
      exact ⟨a, vs, _, rfl, rfl, h, by rw [q1.length]; exact hl, k _ _ .non (q1.app (.cons q .nil))⟩
    · rw [if_neg hl] at e; cases e
def uExtend : List D → List D → Option (D × List D) := fun l ds => match ds with
  | [.lst m] => if l.length + m.length ≤ sizeLine then some (.non, l ++ m) else none
  | _ => none
theorem mu_extend : MuD X ca .bor "list.extend" uExtend := by
  refine ⟨_, mt_extend, fun W H Hb a vs us l ds l' d Q w h q1 q2 e k => ?_⟩
  match ds, q2, e with
  | [.lst m], .cons q .nil, e =>
    have e : (if l.length + m.length ≤ sizeLine then some (D.non, l ++ m) else none) = some (d, l') := e
    obtain ⟨b, zs, hv, hb, _, q3⟩ := q
    subst hv
    by_cases hl : l.length + m.length ≤ sizeLine
    · rw [if_pos hl] at e; cases e
      exact ⟨a, b, vs, zs, rfl, rfl, h, hb, by rw [q1.length, q3.length]; exact hl, k _ _ .non (q1.app q3)⟩
    · rw [if_neg hl] at e; cases e
noncomputable def uInsert : List D → List D → Option (D × List D) := fun l ds => match ds with
  | [.int i, d] => cif (l.length < sizeLine ∧ 0 ≤ i ∧ i < 2 ^ 63) (some (.non, l.take i.toNat ++ [d] ++ l.drop i.toNat)) none
  | _ => none
theorem mu_insert : MuD X ca .frz "list.insert" uInsert := by
  refine ⟨_, mt_insert, fun W H Hb a vs us l ds l' d Q w h q1 q2 e k => ?_⟩
  match ds, q2, e with
  | [.int i, d], .cons q3 (.cons q .nil), e =>
    have e : (cif (l.length < sizeLine ∧ 0 ≤ i ∧ i < 2 ^ 63) (some (D.non, l.take i.toNat ++ [d] ++ l.drop i.toNat)) none) = some (_, l') := e
    obtain rfl := DV.ofInt q3
    by_cases hl : l.length < sizeLine ∧ 0 ≤ i ∧ i < 2 ^ 63
    · rw [cif_pos hl] at e; cases e
      exact ⟨a, vs, i, _, rfl, rfl, h, by rw [q1.length]; exact hl.1, hl.2.1, hl.2.2, k _ _ .non (((q1.take _).app (.cons q .nil)).app (q1.drop _))⟩
    · rw [cif_neg hl] at e; cases e
noncomputable def uPopAt : List D → List D → Option (D × List D) := fun l ds => match ds with
  | [.int i] => cif (-(2 ^ 63) ≤ i ∧ i < 2 ^ 63) ((seqIndex? i l.length).bind fun k => (l[k]?).map fun d => (d, l.eraseIdx k)) none
  | _ => none
theorem mu_popAt : MuD X ca .frz "list.pop" uPopAt := by
  refine ⟨_, mt_popAt, fun W H Hb a vs us l ds l' d Q w h q1 q2 e k => ?_⟩
  match ds, q2, e with
  | [.int i], .cons q3 .nil, e =>
    have e : (cif (-(2 ^ 63) ≤ i ∧ i < 2 ^ 63) ((seqIndex? i l.length).bind fun k => (l[k]?).map fun d => (d, l.eraseIdx k)) none) = some (d, l') := e
    obtain rfl := DV.ofInt q3
    by_cases hl : -(2 ^ 63) ≤ i ∧ i < 2 ^ 63
    · rw [cif_pos hl] at e
      obtain ⟨j, e1, e⟩ := Option.bind_eq_some_iff.mp e
      obtain ⟨x, e2, e⟩ := Option.map_eq_some_iff.mp e
      cases e
      obtain ⟨y, hy, qy⟩ := q1.get e2
      exact ⟨a, vs, i, j, y, rfl, rfl, h, hl.1, hl.2, by rw [q1.length]; exact e1, hy, k _ _ qy (q1.erase j)⟩
    · rw [cif_neg hl] at e; cases e
def uPop : List D → List D → Option (D × List D) := fun l ds => match ds with
  | [] => (l[l.length - 1]?).map fun d => (d, l.dropLast)
  | _ => none
theorem mu_pop : MuD X ca .frz "list.pop" uPop := by
  refine ⟨_, mt_pop, fun W H Hb a vs us l ds l' d Q w h q1 q2 e k => ?_⟩
  match ds, q2, e with
  | [], .nil, e =>
    have e : ((l[l.length - 1]?).map fun d => (d, l.dropLast)) = some (d, l') := e
    obtain ⟨x, e2, e⟩ := Option.map_eq_some_iff.mp e
    cases e
    obtain ⟨y, hy, qy⟩ := q1.get e2
    exact ⟨a, vs, y, rfl, rfl, h, by rw [q1.length]; exact hy, k _ _ qy q1.dropLast⟩
/-! on a slot's own list -/
def ownL (ρ : Rho) (i : Nat) : Option (List D) := match ρ[i]? with
  | some (.own (.lst l)) => some l
  | _ => none
theorem ownL_eq {ρ : Rho} {i : Nat} {l : List D} (h : ownL ρ i = some l) : ρ[i]? = some (.own (.lst l)) := by
  unfold ownL at h
  split at h
  next l' e => cases h; exact e
  next => cases h
def asObj : D → Option Nat
  | .obj n => some n
  | _ => none
theorem asObj_eq {d : D} {n : Nat} (h : asObj d = some n) : d = .obj n := by
  cases d <;> first | cases h | skip
  rfl
def asInt : D → Option Int
  | .int n => some n
  | _ => none
theorem asInt_eq {d : D} {n : Int} (h : asInt d = some n) : d = .int n := by
  cases d <;> first | cases h | skip
  rfl
def stL (S : Sto) (n : Nat) : Option (List D) := match S[n]? with
  | some (.lst l) => some l
  | _ => none
theorem stL_eq {S : Sto} {n : Nat} {l : List D} (h : stL S n = some l) : S[n]? = some (.lst l) := by
  unfold stL at h
  split at h
  next l' e => cases h; exact e
  next => cases h
def bMut (i : Nat) (mu : List D → List D → Option (D × List D)) (fa : SA) : SS := fun ρ S => match ownL ρ i with
  | none => none
  | some l => sb (fa ρ) ρ (fun ds S => match mu l ds with
    | none => none
    | some z => some (.nx (ρ.set i (.own (.lst z.2))), S)) S
theorem ds_mut {m : Md} {id : String} {mu : List D → List D → Option (D × List D)} {i : Nat} {x name : Str} {e : Expr} {es : List Expr} {fa : SA} {p apos cpos pos : Pos} (pa : PlainAttrs "list") (slot : Slot "list" name id) (hty : typeOf (.builtin id) = pure (.type "method_descriptor"))
    (hm : MuD X ca m id mu) (ho : PE X (.Name x p) (tVar i)) (ha : DA X ca H0 Wx m (e :: es) fa)
    (hbase : attributeBase (.Name x p) name X.env (eval (.Name x p) X.env) = eval (.Name x p) X.env := by rfl)
    (hfew : ((backTo cpos (starEach (e :: es) X.env)).all (fun x => !x.1) && (backToKw cpos (keywordEach [] X.env)).all (fun x => x.1.isSome)
      && decide ((e :: es).length + ([] : List Keyword).length + (if ([] : List Keyword).isEmpty then 0 else 1) < 30)) = true := by rfl)
    (hline : (apos.endLine == cpos.line) = true := by rfl) (hs : starEach (e :: es) X.env = (false, eval e X.env) :: starEach es X.env := by rfl) (hplain : (backTo cpos (starEach es X.env)).any (·.1) = false := by rfl)
    (hsw : swapsWith (.Call (.Attribute (.Name x p) name apos) (e :: es) [] cpos) none pos.line X.env = pure false := by rfl) :
    DS X ca H0 Wx mr (.Expr (.Call (.Attribute (.Name x p) name apos) (e :: es) [] cpos) pos) (bMut i mu fa) := by
  obtain ⟨r, h1, h2⟩ := hm
  refine PS.imp (ps_expr (pe_bm pa slot hty h1 ho ha hbase hfew hline hs hplain) hsw) fun D σ H ⟨W, ρ, S, R, o⟩ => ?_
  unfold bMut at o
  cases e1 : ownL ρ i with
  | none => rw [e1] at o; exact False.elim o
  | some l =>
    rw [e1] at o
    obtain ⟨v, k1, a, k2, k3, k4, vs, k5, k6⟩ := R.sl i _ (ownL_eq e1)
    subst k2
    refine ⟨_, k1, .inl ⟨rfl, vs, .inl (.inl k5)⟩, W, ρ, S, R, (OutS.bind R o).imp fun ds S' W' H' F R' h us q => ?_⟩
    obtain ⟨g1, g2⟩ := F.keep a _ k5 (by rw [k3]; rfl)
    have g3 : W'.ow a = some (.slot i) := g2.trans k3
    cases e2 : mu l ds with
    | none => simp only [e2] at h; exact False.elim h
    | some z =>
      simp only [e2] at h
      refine h2 W' H' H a vs us l ds z.2 z.1 _ R'.w g1 (k6.mono F.hf F.ad) q e2 fun v' vs' qv q' => ?_
      exact h W' (upd H' a (.lst vs')) _ (FutG.mut (by rw [g3]; rfl)) (R'.mutSlot k1 k4 g3 (fun _ z => by cases z) ⟨vs', upd_same, q'⟩)
/-! on a list of the store -/
def sMut (fo : SE) (mu : List D → List D → Option (D × List D)) (fa : SA) : SE := fun ρ => mb (fo ρ) fun o S => match asObj o with
  | none => none
  | some n => match stL S n with
    | none => none
    | some _ => mb (fa ρ) (fun ds S' => match stL S' n with
      | none => none
      | some l => match mu l ds with
        | none => none
        | some z => some (.ok z.1, S'.set n (.lst z.2))) S
theorem mutO_of {m : Md} {mu : List D → List D → Option (D × List D)} {r : V → List V → Hp → VK → Prop} {fo : SE} {fa : SA} {σ : L2.St} {H : Hp} {Q : VK}
    (h2 : ∀ (W : Wd) (H Hb : Hp) (a : Addr) (vs us : List V) (l ds l' : List D) (d : D) (Q : VK), WOk W H → H a = some (.lst vs) → DVs X.K ca W.hf W.ad vs l → DRs X.K ca m Hb W H us ds → mu l ds = some (d, l') →
    (∀ v vs', DV X.K ca W.hf W.ad v d → DVs X.K ca W.hf W.ad vs' l' → Q v (upd H a (.lst vs'))) → r (.ref a) us H Q)
    (h : tE X.K ca H0 Wx .frz (sMut fo mu fa) σ H Q) : tE X.K ca H0 Wx .frz fo σ H fun x H1 => tyV X.K "list" x H1 ∧ tA X.K ca H0 Wx m fa σ H1 fun xs H2 => r x xs H2 Q := by
  obtain ⟨W, ρ, S, R, o⟩ := h
  refine ⟨W, ρ, S, R, (OutM.bind o).imp fun dx S1 W1 H1 F1 R1 h1 x D1 => ?_⟩
  cases e0 : asObj dx with
  | none => simp only [e0] at h1; exact False.elim h1
  | some n =>
    simp only [e0] at h1
    rw [asObj_eq e0] at D1
    obtain ⟨a, rfl, ha⟩ := DV.ofObj D1
    cases e1 : stL S1 n with
    | none => simp only [e1] at h1; exact False.elim h1
    | some l0 =>
      simp only [e1] at h1
      obtain ⟨b, k1, k2, vs0, k3, k4⟩ := R1.s.at_ n _ (stL_eq e1)
      have hb : b = a := by rw [ha] at k1; exact (Option.some.inj k1).symm
      subst hb
      refine ⟨.inl ⟨rfl, vs0, .inl (.inl k3)⟩, W1, ρ, S1, R1, (OutM.bind h1).imp fun ds S2 W2 H2 F2 R2 h3 us q => ?_⟩
      cases e2 : stL S2 n with
      | none => simp only [e2] at h3; exact False.elim h3
      | some l =>
        simp only [e2] at h3
        obtain ⟨b2, g1, g2, vs, g3, g4⟩ := R2.s.at_ n _ (stL_eq e2)
        have hb : b2 = b := by rw [F2.ad n b ha] at g1; exact (Option.some.inj g1).symm
        subst hb
        cases e3 : mu l ds with
        | none => simp only [e3] at h3; exact False.elim h3
        | some z =>
          simp only [e3] at h3
          refine h2 W2 H2 H1 b2 vs us l ds z.2 z.1 _ R2.w g3 g4 q e3 fun v' vs' qv q' => ?_
          exact h3 W2 (upd H2 b2 (.lst vs')) (FutG.mut (by rw [g2]; rfl)) (R2.mutObj (List.getElem?_eq_some_iff.mp (stL_eq e2)).1 g1 g2 (fun _ z => by cases z) ⟨vs', upd_same, q'⟩) v' qv
theorem de_mut {m : Md} {id : String} {mu : List D → List D → Option (D × List D)} {name : Str} {o e : Expr} {es : List Expr} {fo : SE} {fa : SA} {apos cpos : Pos} (pa : PlainAttrs "list") (slot : Slot "list" name id) (hty : typeOf (.builtin id) = pure (.type "method_descriptor"))
    (hm : MuD X ca m id mu) (ho : DE X ca H0 Wx .frz o fo) (ha : DA X ca H0 Wx m (e :: es) fa)
    (hbase : attributeBase o name X.env (eval o X.env) = eval o X.env := by rfl)
    (hfew : ((backTo cpos (starEach (e :: es) X.env)).all (fun x => !x.1) && (backToKw cpos (keywordEach [] X.env)).all (fun x => x.1.isSome)
      && decide ((e :: es).length + ([] : List Keyword).length + (if ([] : List Keyword).isEmpty then 0 else 1) < 30)) = true := by rfl)
    (hline : (apos.endLine == cpos.line) = true := by rfl) (hs : starEach (e :: es) X.env = (false, eval e X.env) :: starEach es X.env := by rfl) (hplain : (backTo cpos (starEach es X.env)).any (·.1) = false := by rfl) :
    DE X ca H0 Wx .frz (.Call (.Attribute o name apos) (e :: es) [] cpos) (sMut fo mu fa) := by
  obtain ⟨r, h1, h2⟩ := hm
  exact PE.imp (pe_bm pa slot hty h1 ho ha hbase hfew hline hs hplain) fun σ H Q h => mutO_of h2 h
theorem de_mut0 {m : Md} {id : String} {mu : List D → List D → Option (D × List D)} {name : Str} {o : Expr} {fo : SE} {apos cpos : Pos} (pa : PlainAttrs "list") (slot : Slot "list" name id) (hty : typeOf (.builtin id) = pure (.type "method_descriptor"))
    (hm : MuD X ca m id mu) (ho : DE X ca H0 Wx .frz o fo)
    (hbase : attributeBase o name X.env (eval o X.env) = eval o X.env := by rfl) (hline : (apos.endLine == cpos.line) = true := by rfl) :
    DE X ca H0 Wx .frz (.Call (.Attribute o name apos) [] [] cpos) (sMut fo mu sNil) := by
  obtain ⟨r, h1, h2⟩ := hm
  refine PE.imp (pe_bm0 pa slot hty h1 ho hbase hline) fun σ H Q h => ?_
  obtain ⟨W, ρ, S, R, h⟩ := mutO_of h2 h
  refine ⟨W, ρ, S, R, h.imp fun d S' W' H' F' R' h3 v D1 => ?_⟩
  obtain ⟨k1, W2, ρ2, S2, R2, k2⟩ := h3 v D1
  exact ⟨k1, k2 W2 H' (FutG.refl _ _) R2 [] .nil⟩
/-! ### x[i] = e -/
def setAt (l : List D) (k d : D) : Option (List D) := match asInt k with
  | none => none
  | some k => (ixN l.length k).map fun j => l.set j d
theorem setAt_eq {l l' : List D} {k d : D} (h : setAt l k d = some l') : ∃ i j, k = .int i ∧ ixN l.length i = some j ∧ l' = l.set j d := by
  unfold setAt at h
  cases e : asInt k with
  | none => simp only [e] at h; cases h
  | some i =>
    simp only [e] at h
    obtain ⟨j, h1, h2⟩ := Option.map_eq_some_iff.mp h
    exact ⟨i, j, asInt_eq e, h1, h2.symm⟩
def bSetIx (i : Nat) (fi fe : SE) : SS := fun ρ => sb (fe ρ) ρ fun d S => match ownL ρ i with
  | none => none
  | some l => sb (fi ρ) ρ (fun k S => match setAt l k d with
    | none => none
    | some l' => some (.nx (ρ.set i (.own (.lst l'))), S)) S
theorem ds_setIx {i : Nat} {x : Str} {e ix : Expr} {fi fe : SE} {p tpos pos : Pos} (ho : PE X (.Name x p) (tVar i)) (hi : DE X ca H0 Wx .frz ix fi) (he : DE X ca H0 Wx .frz e fe)
    (ha : ∀ v, assign (.Subscript (.Name x p) ix tpos) X.env v = (do
      let ov ← holding [v] (eval (.Name x p) X.env)
      let iv ← holding [v, ov] (eval ix X.env)
      standAt tpos
      holding [v, ov, iv] (setItem ov iv v)
      release [v, ov, iv] []) := by intro _; rfl)
    (hs : swapsWithSole [.Subscript (.Name x p) ix tpos] e pos.line X.env = pure false := by rfl) (hw : swappedStores [.Subscript (.Name x p) ix tpos] e X.env = pure none := by rfl)
    (h1 : (assignEach [.Subscript (.Name x p) ix tpos] X.env).map (·.2) = [assign (.Subscript (.Name x p) ix tpos) X.env] := by rfl) :
    DS X ca H0 Wx mr (.Assign [.Subscript (.Name x p) ix tpos] e pos) (bSetIx i fi fe) := by
  refine PS.imp (ps_asg he (pg_sub ho hi set_list ha) hs hw h1) fun D σ H ⟨W, ρ, S, R, o⟩ => ⟨W, ρ, S, R, (OutS.bind R o).imp fun d S1 W1 H1 F1 R1 h v Dv => ?_⟩
  cases e1 : ownL ρ i with
  | none => simp only [e1] at h; exact False.elim h
  | some l =>
    simp only [e1] at h
    obtain ⟨w, k1, a, k2, k3, k4, vs, k5, k6⟩ := R1.sl i _ (ownL_eq e1)
    subst k2
    refine ⟨_, k1, W1, ρ, S1, R1, (OutS.bind R1 h).imp fun k S2 W2 H2 F2 R2 h2 u Du => ?_⟩
    obtain ⟨g1, g2⟩ := F2.keep a _ k5 (by rw [k3]; rfl)
    have g3 : W2.ow a = some (.slot i) := g2.trans k3
    cases e2 : setAt l k d with
    | none => simp only [e2] at h2; exact False.elim h2
    | some l' =>
      simp only [e2] at h2
      obtain ⟨n, j, rfl, ej, rfl⟩ := setAt_eq e2
      obtain rfl := DV.ofInt Du
      refine ⟨a, vs, n, j, rfl, rfl, g1, by rw [k6.length]; exact ej, ?_⟩
      exact h2 W2 _ _ (FutG.mut (by rw [g3]; rfl)) (R2.mutSlot k1 k4 g3 (fun _ z => by cases z) ⟨_, upd_same, DVs.set (DV.mono F2.hf F2.ad Dv) j (k6.mono F2.hf F2.ad)⟩)
def bSetIxO (fo fi fe : SE) : SS := fun ρ => sb (fe ρ) ρ fun d => sb (fo ρ) ρ fun o S => match asObj o with
  | none => none
  | some n => sb (fi ρ) ρ (fun k S => match stL S n with
    | none => none
    | some l => match setAt l k d with
      | none => none
      | some l' => some (.nx ρ, S.set n (.lst l'))) S
theorem ds_setIxO {o e ix : Expr} {fo fi fe : SE} {tpos pos : Pos} (ho : DE X ca H0 Wx .frz o fo) (hi : DE X ca H0 Wx .frz ix fi) (he : DE X ca H0 Wx .frz e fe)
    (ha : ∀ v, assign (.Subscript o ix tpos) X.env v = (do
      let ov ← holding [v] (eval o X.env)
      let iv ← holding [v, ov] (eval ix X.env)
      standAt tpos
      holding [v, ov, iv] (setItem ov iv v)
      release [v, ov, iv] []) := by intro _; rfl)
    (hs : swapsWithSole [.Subscript o ix tpos] e pos.line X.env = pure false := by rfl) (hw : swappedStores [.Subscript o ix tpos] e X.env = pure none := by rfl)
    (h1 : (assignEach [.Subscript o ix tpos] X.env).map (·.2) = [assign (.Subscript o ix tpos) X.env] := by rfl) :
    DS X ca H0 Wx mr (.Assign [.Subscript o ix tpos] e pos) (bSetIxO fo fi fe) := by
  refine PS.imp (ps_asg he (pg_sub ho hi set_list ha) hs hw h1) fun D σ H ⟨W, ρ, S, R, o⟩ => ⟨W, ρ, S, R, (OutS.bind R o).imp fun d S1 W1 H1 F1 R1 h v Dv => ⟨W1, ρ, S1, R1, (OutS.bind R1 h).imp fun x S2 W2 H2 F2 R2 h2 u Du => ?_⟩⟩
  cases e0 : asObj x with
  | none => simp only [e0] at h2; exact False.elim h2
  | some n =>
    simp only [e0] at h2
    rw [asObj_eq e0] at Du
    obtain ⟨a, rfl, ha⟩ := DV.ofObj Du
    refine ⟨W2, ρ, S2, R2, (OutS.bind R2 h2).imp fun k S3 W3 H3 F3 R3 h3 y Dy => ?_⟩
    cases e2 : stL S3 n with
    | none => simp only [e2] at h3; exact False.elim h3
    | some l =>
      simp only [e2] at h3
      cases e3 : setAt l k d with
      | none => simp only [e3] at h3; exact False.elim h3
      | some l' =>
        simp only [e3] at h3
        obtain ⟨m, j, rfl, ej, rfl⟩ := setAt_eq e3
        obtain rfl := DV.ofInt Dy
        obtain ⟨b, g1, g2, vs, g3, g4⟩ := R3.s.at_ n _ (stL_eq e2)
        have hb : b = a := by rw [F3.ad n a ha] at g1; exact (Option.some.inj g1).symm
        subst hb
        refine ⟨b, vs, m, j, rfl, rfl, g3, by rw [g4.length]; exact ej, ?_⟩
        have Fv := Fut.trans' F2 F3
        exact h3 W3 _ _ (FutG.mut (by rw [g2]; rfl)) (R3.mutObj (List.getElem?_eq_some_iff.mp (stL_eq e2)).1 g1 g2 (fun _ z => by cases z) ⟨_, upd_same, DVs.set (DV.mono Fv.hf Fv.ad Dv) j g4⟩)
end
end DL

/-! DL8: loops. -/
namespace DL
open PySem PySem.Spec PyProof.Rows L2

section
variable (K : PySem.W.Frag) (ca : Ca) (H0 : Bs) (Wx : WX)
/-- the iterator hands out just these, whatever is done meanwhile to what is a slot's or an object's -/
def Yl (J : It) (W1 : Wd) (H1 : Hp) (ds : List D) : Prop :=
  ∀ (i : Nat) (W : Wd) (H : Hp), FutS H0 W1 H1 W H → WOk W H →
    (∀ d, ds[i]? = some d → J.go i H ∧ ∀ x H', J.yld i H x H' → ∀ σ ρ S, Rep K ca H0 W H σ ρ S → ∃ W', Fut W H W' H' ∧ Rep K ca H0 W' H' σ ρ S ∧ DV K ca W'.hf W'.ad x d) ∧
    (ds.length ≤ i → J.stop i H)
def tI (src : SA) : TI := fun σ H R => ∃ W ρ S, Rep K ca H0 W H σ ρ S ∧ OutM K ca H0 Wx W ρ σ H (src ρ S) fun ds S' W' H' => ∀ J, Yl K ca H0 J W' H' ds → R J H'
def tG (tgt : D → Rho → Option Rho) : TG := fun v σ H Q => ∃ W ρ S d ρ', Rep K ca H0 W H σ ρ S ∧ DV K ca W.hf W.ad v d ∧ tgt d ρ = some ρ' ∧ ∀ σ', Rep K ca H0 W H σ' ρ' S → Q σ' H
def tGs (tgt : List D → Rho → Option Rho) : TGs := fun vs σ H Q => ∃ W ρ S ds ρ', Rep K ca H0 W H σ ρ S ∧ DVs K ca W.hf W.ad vs ds ∧ tgt ds ρ = some ρ' ∧ ∀ σ', Rep K ca H0 W H σ' ρ' S → Q σ' H
end
abbrev DI (X : Cx) (ca : Ca) (H0 : Bs) (Wx : WX) (tg e : Expr) (f : SA) : Prop := PI X tg e (tI X.K ca H0 Wx f)
abbrev DG (X : Cx) (ca : Ca) (H0 : Bs) (tg : Expr) (f : D → Rho → Option Rho) : Prop := PG X tg (tG X.K ca H0 f)
abbrev DGs (X : Cx) (ca : Ca) (H0 : Bs) (tg : List Expr) (f : List D → Rho → Option Rho) : Prop := PGs X tg (tGs X.K ca H0 f)
theorem PI.imp {X : Cx} {tg e : Expr} {t t' : TI} (h : PI X tg e t) (i : ∀ σ H R, t' σ H R → t σ H R) : PI X tg e t' := ⟨fun pins s σ H R I q => h.run pins s σ H R I (i σ H R q)⟩
theorem PG.imp {X : Cx} {e : Expr} {t t' : TG} (h : PG X e t) (i : ∀ v σ H Q, t' v σ H Q → t v σ H Q) : PG X e t' := ⟨fun pins s σ H v u Q I r q => h.run pins s σ H v u Q I r (i v σ H Q q)⟩
theorem PGs.imp {X : Cx} {e : List Expr} {t t' : TGs} (h : PGs X e t) (i : ∀ v σ H Q, t' v σ H Q → t v σ H Q) : PGs X e t' := ⟨fun pins s σ H v u Q I r q => h.run pins s σ H v u Q I r (i v σ H Q q)⟩
section
variable {X : Cx} {ca : Ca} {H0 : Bs} {Wx : WX} {mr : Md}
/-! ### targets -/
def tgName (i : Nat) : D → Rho → Option Rho := fun d ρ => if unlk ρ[i]? = true then some (ρ.set i (.val d)) else none
theorem dg_name {i : Nat} {x : Str} {pos : Pos} (hN : X.N.Nodup) (hi : X.N[i]? = some x) (hx : Loc X.env.scope x) (hf : X.fn x = true ∨ X.env.scope.names.lookup x = some .local := by first | exact .inl rfl | exact .inr rfl | assumption) : DG X ca H0 (.Name x pos) (tgName i) :=
  PG.imp (pg_name hN hi hx hf) fun v σ H Q ⟨W, ρ, S, d, ρ', R, q, e, k⟩ => by
    unfold tgName at e
    by_cases hu : unlk ρ[i]? = true
    · rw [if_pos hu] at e; cases e
      exact k _ (R.set ⟨v, rfl, q⟩)
    · rw [if_neg hu] at e; cases e
def tgNil : List D → Rho → Option Rho := fun ds ρ => match ds with
  | [] => some ρ
  | _ => none
def tgCons (t : D → Rho → Option Rho) (u : List D → Rho → Option Rho) : List D → Rho → Option Rho := fun ds ρ => match ds with
  | [] => none
  | d :: r => (t d ρ).bind (u r)
theorem dgs_nil : DGs X ca H0 [] tgNil := PGs.imp pgs_nil fun vs σ H Q ⟨W, ρ, S, ds, ρ', R, q, e, k⟩ => by
  cases q with
  | nil => cases e; exact ⟨rfl, k σ R⟩
  | cons _ _ => cases e
theorem dgs_cons {e : Expr} {es : List Expr} {t : D → Rho → Option Rho} {u : List D → Rho → Option Rho} (h1 : DG X ca H0 e t) (h2 : DGs X ca H0 es u)
    (hs : (assignEach (e :: es) X.env).map (·.2) = assign e X.env :: (assignEach es X.env).map (·.2) := by rfl) : DGs X ca H0 (e :: es) (tgCons t u) :=
  PGs.imp (pgs_cons h1 h2 hs) fun vs σ H Q ⟨W, ρ, S, ds, ρ', R, q, e, k⟩ => by
    cases q with
    | nil => cases e
    | cons q r =>
      obtain ⟨ρ1, e1, e2⟩ := Option.bind_eq_some_iff.mp e
      exact ⟨_, _, rfl, W, ρ, S, _, ρ1, R, q, e1, fun σ1 R1 => ⟨W, ρ1, S, _, ρ', R1, r, e2, k⟩⟩
theorem PG.or {e : Expr} {t t' : TG} (h : PG X e t) (h' : PG X e t') : PG X e (fun v σ H Q => t v σ H Q ∨ t' v σ H Q) :=
  ⟨fun pins s σ H v u Q I r q => q.elim (h.run pins s σ H v u Q I r) (h'.run pins s σ H v u Q I r)⟩
def tgTup (n : Nat) (u : List D → Rho → Option Rho) : D → Rho → Option Rho := fun d ρ => match d with
  | .tup l => if l.length = n then u l ρ else none
  | .lst l => if l.length = n then u l ρ else none
  | _ => none
theorem dg_tup {es : List Expr} {k n : Nat} {u : List D → Rho → Option Rho} {pos : Pos} (hc : X.calm = true) (h : DGs X ca H0 es u)
    (hn : (assignEach es X.env).length = n := by rfl) (hst : (assignEach es X.env).findIdx? (·.1) = none := by rfl) : DG X ca H0 (.Tuple es k pos) (tgTup n u) :=
  PG.imp (PG.or (pg_tup hc h hn hst) (pg_lst hc h hn hst)) fun v σ H Q ⟨W, ρ, S, d, ρ', R, q, e, k⟩ => by
    cases d with
    | tup l =>
      have e : (if l.length = n then u l ρ else none) = some ρ' := e
      obtain ⟨a, vs, rfl, h1, h2⟩ := DV.ofTup q
      by_cases hl : l.length = n
      · rw [if_pos hl] at e
        exact .inl ⟨a, vs, rfl, R.w.tupOf h1, by rw [h2.length]; exact hl, W, ρ, S, l, ρ', R, h2, e, k⟩
      · rw [if_neg hl] at e; cases e
    | lst l =>
      have e : (if l.length = n then u l ρ else none) = some ρ' := e
      obtain ⟨a, vs, rfl, h1, h2⟩ := DV.ofLst q
      by_cases hl : l.length = n
      · rw [if_pos hl] at e
        exact .inr ⟨a, vs, rfl, .inl (.inl (R.w.sub _ _ h1)), by rw [h2.length]; exact hl, W, ρ, S, l, ρ', R, h2, e, k⟩
      · rw [if_neg hl] at e; cases e
    | _ => cases e
/-- a, b = e -/
def bAsg (tgt : D → Rho → Option Rho) (f : SE) : SS := fun ρ => sb (f ρ) ρ fun d S => match tgt d ρ with
  | none => none
  | some ρ' => some (.nx ρ', S)
theorem ds_asg {tg e : Expr} {f : SE} {t : D → Rho → Option Rho} {pos : Pos} (he : DE X ca H0 Wx .frz e f) (hg : DG X ca H0 tg t) (hs : swapsWithSole [tg] e pos.line X.env = pure false := by rfl) (hw : swappedStores [tg] e X.env = pure none := by rfl)
    (h1 : (assignEach [tg] X.env).map (·.2) = [assign tg X.env] := by rfl) : DS X ca H0 Wx mr (.Assign [tg] e pos) (bAsg t f) :=
  PS.imp (ps_asg he hg hs hw h1) fun D σ H ⟨W, ρ, S, R, o⟩ => ⟨W, ρ, S, R, (OutS.bind R o).imp fun d S' W' H' F R' h v r => by
    cases e : t d ρ with
    | none => simp only [e] at h; exact False.elim h
    | some ρ' =>
      simp only [e] at h
      exact ⟨W', ρ, S', d, ρ', R', r, e, fun σ' R2 => OutS.nx R2 h⟩⟩
/-! ### for -/
def forD (tgt : D → Rho → Option Rho) (body : SS) : List D → SS
  | [], ρ, S => some (.nx ρ, S)
  | d :: r, ρ, S => match tgt d ρ with
    | none => none
    | some ρ1 => match body ρ1 S with
      | some (.nx ρ', S') => forD tgt body r ρ' S'
      | some (.cnt ρ', S') => forD tgt body r ρ' S'
      | some (.brk ρ', S') => some (.nx ρ', S')
      | z => z
def bFor (src : SA) (tgt : D → Rho → Option Rho) (body : SS) : SS := fun ρ => sb (src ρ) ρ fun ds => forD tgt body ds ρ
theorem for_of {src : SA} {tgt : D → Rho → Option Rho} {body : SS} {D : Ends} {σ : L2.St} {H : Hp} (h : tS X.K ca H0 Wx mr (bFor src tgt body) D σ H) :
    tFor (tI X.K ca H0 Wx src) (tG X.K ca H0 tgt) (tS X.K ca H0 Wx mr body) D σ H := by
  obtain ⟨W0, ρ0, S0, R0, o⟩ := h
  refine ⟨W0, ρ0, S0, R0, (OutS.bind R0 o).imp fun ds S1 W1 H1 F1 R1 h1 J y => ?_⟩
  refine ⟨fun i m σ H => m = ds.length - i ∧ ∃ W ρ S, FutS H0 W1 H1 W H ∧ Rep X.K ca H0 W H σ ρ S ∧ OutS X.K ca H0 Wx mr W H D (forD tgt body (ds.drop i) ρ S),
    ⟨ds.length, by simp, W1, ρ0, S1, FutG.refl _ _, R1, by rw [List.drop_zero]; exact h1⟩, ?_⟩
  rintro i m σ H ⟨rfl, W, ρ, S, F, R, h⟩
  obtain ⟨y1, y2⟩ := y i W H F R.w
  by_cases hi : i < ds.length
  · have e1 : ds[i]? = some ds[i] := by simp [hi]
    obtain ⟨go, y3⟩ := y1 _ e1
    rw [List.drop_eq_getElem_cons hi] at h
    refine .inr ⟨go, fun σ' H' => ∃ W ρ S, FutS H0 W1 H1 W H' ∧ Rep X.K ca H0 W H' σ' ρ S ∧ OutS X.K ca H0 Wx mr W H' D (forD tgt body (ds.drop (i + 1)) ρ S), fun σ' H' n' => ⟨_, by omega, rfl, n'⟩, fun x H' yl => ?_⟩
    obtain ⟨W', F0', R', qx⟩ := y3 x H' yl σ ρ S R
    have F' := Fut.s F0' R.h0
    unfold forD at h
    cases et : tgt ds[i] ρ with
    | none => simp only [et] at h; exact False.elim h
    | some ρ1 =>
      simp only [et] at h
      refine ⟨W', ρ, S, _, ρ1, R', qx, et, fun σ2 R2 => ⟨W', ρ1, S, R2, ?_⟩⟩
      have h' := OutS.later F' h
      have nxt : ∀ {ρ' : Rho} {S' : Sto}, OutS X.K ca H0 Wx mr W' H' D (forD tgt body (ds.drop (i + 1)) ρ' S') → ∀ W2 H2 σ3, FutS H0 W' H' W2 H2 → Rep X.K ca H0 W2 H2 σ3 ρ' S' →
          ∃ W ρ S, FutS H0 W1 H1 W H2 ∧ Rep X.K ca H0 W H2 σ3 ρ S ∧ OutS X.K ca H0 Wx mr W H2 D (forD tgt body (ds.drop (i + 1)) ρ S) := fun {ρ' S'} hh W2 H2 σ3 F2 R3 =>
        ⟨W2, ρ', S', (F.trans F').trans F2, R3, OutS.later F2 hh⟩
      match eb : body ρ1 S with
      | none => simp only [eb] at h'; exact h'
      | some (.nx ρ', S') => simp only [eb] at h'; exact fun W2 H2 σ3 F2 R3 => nxt h' W2 H2 σ3 F2 R3
      | some (.cnt ρ', S') => simp only [eb] at h'; exact fun W2 H2 σ3 F2 R3 => nxt h' W2 H2 σ3 F2 R3
      | some (.brk ρ', S') => simp only [eb] at h'; exact h'
      | some (.ret d, S') => simp only [eb] at h'; exact h'
      | some (.exc ρ' z, S') => simp only [eb] at h'; exact h'
  · rw [List.drop_eq_nil_of_le (by omega)] at h
    exact .inl ⟨y2 (by omega), OutS.nx R h⟩
theorem ds_for {tg iter : Expr} {body : List Stmt} {src : SA} {tgt : D → Rho → Option Rho} {fb : SS} {pos : Pos} (hp : PassesOwn (model X.prog X.w) X.A X.env X.xe) (hc : X.calm = true) (hi : DI X ca H0 Wx tg iter src) (hg : DG X ca H0 tg tgt) (hb : DSs X ca H0 Wx mr body fb)
    (hs : ∀ x, foldedSetIterable iter X.env x = pure x := by intro _; rfl) : DS X ca H0 Wx mr (.For tg iter body [] pos) (bFor src tgt fb) :=
  PS.imp (ps_for hp hc hi hg hb hs) fun D σ H h => for_of h
/-! ### what is walked -/
def dItems : D → Option (List D)
  | .lst l => some l
  | .rol l => some l
  | .tup l => some l
  | .str x => some (x.cps.toList.map fun c => .str ⟨#[c]⟩)
  | _ => none
def sItems (f : SE) : SA := fun ρ => mb (f ρ) fun d => mo (dItems d)
section
variable {K : PySem.W.Frag} {W : Wd} {H : Hp}
theorem Yl.list {a : Addr} {vs : List V} {ds : List D} (h : ∀ W' H', FutS H0 W H W' H' → WOk W' H' → SqL K H' a vs) (q : DVs K ca W.hf W.ad vs ds) : Yl K ca H0 (Itl K a) W H ds := by
  intro i W1 H1 F w
  have s := h W1 H1 F w
  refine ⟨fun d e => ?_, fun hl => ⟨vs, s, by rw [q.length]; exact hl⟩⟩
  obtain ⟨v, e1, qv⟩ := q.get e
  refine ⟨⟨vs, v, s, e1⟩, fun x H' ⟨eH, y⟩ σ ρ S R => ?_⟩
  subst eH
  have e2 := y vs s
  rw [e1] at e2
  cases e2
  exact ⟨W1, FutG.refl _ _, R, qv.mono F.hf F.ad⟩
theorem Yl.tup {a : Addr} {vs : List V} {ds : List D} (h : ∀ W' H', FutS H0 W H W' H' → WOk W' H' → SqT K H' a vs) (q : DVs K ca W.hf W.ad vs ds) : Yl K ca H0 (Itt K a) W H ds := by
  intro i W1 H1 F w
  have s := h W1 H1 F w
  refine ⟨fun d e => ?_, fun hl => ⟨vs, s, by rw [q.length]; exact hl⟩⟩
  obtain ⟨v, e1, qv⟩ := q.get e
  refine ⟨⟨vs, v, s, e1⟩, fun x H' ⟨eH, y⟩ σ ρ S R => ?_⟩
  subst eH
  have e2 := y vs s
  rw [e1] at e2
  cases e2
  exact ⟨W1, FutG.refl _ _, R, qv.mono F.hf F.ad⟩
/-- a pair, new at each turn -/
theorem pair_new {W1 : Wd} {H1 : Hp} {T : Addr} {x y : V} {dx dy : D} (hT : H1 T = none) (w : WOk W1 H1) (d0 : ∀ a o, H0 a = some o → ∃ o', H1 a = some o') (qx : DV K ca W1.hf W1.ad x dx) (qy : DV K ca W1.hf W1.ad y dy) {σ : L2.St} {ρ : Rho} {S : Sto} (R : Rep K ca H0 W1 H1 σ ρ S) :
    ∃ W', Fut W1 H1 W' (upd H1 T (.tup [x, y])) ∧ Rep K ca H0 W' (upd H1 T (.tup [x, y])) σ ρ S ∧ DV K ca W'.hf W'.ad (.ref T) (.tup [dx, dy]) := by
  have s : Same W1.hf (upd W1.hf T (.tup [x, y])) := same_upd (w.free hT).1
  exact ⟨W1.fz T (.tup [x, y]), Fut.new w hT, R.new hT, .tup (.inl upd_same) (.cons (qx.mono s fun _ _ h => h) (.cons (qy.mono s fun _ _ h => h) .nil))⟩
def dEnum (k : Nat) : List D → List D
  | [] => []
  | d :: r => .tup [.int (k : Nat), d] :: dEnum (k + 1) r
theorem dEnum_len : ∀ (k : Nat) (l : List D), (dEnum k l).length = l.length
  | _, [] => rfl
  | k, _ :: r => congrArg (· + 1) (dEnum_len (k + 1) r)
theorem dEnum_get : ∀ (k : Nat) (l : List D) (i : Nat) (d : D), (dEnum k l)[i]? = some d → ∃ x, l[i]? = some x ∧ d = .tup [.int ((k + i : Nat) : Int), x]
  | _, [], i, d, e => by simp [dEnum] at e
  | k, x :: r, 0, d, e => ⟨x, rfl, by simp [dEnum] at e; rw [← e]; rfl⟩
  | k, _ :: r, i + 1, d, e => by
    obtain ⟨x, h1, h2⟩ := dEnum_get (k + 1) r i d (by simpa [dEnum] using e)
    exact ⟨x, by simpa using h1, by rw [h2]; congr 4; omega⟩
theorem Yl.enum {a : Addr} {vs : List V} {ds : List D} (h : ∀ W' H', FutS H0 W H W' H' → WOk W' H' → SqL K H' a vs) (q : DVs K ca W.hf W.ad vs ds) : Yl K ca H0 (Ite K a) W H (dEnum 0 ds) := by
  intro i W1 H1 F w
  have s := h W1 H1 F w
  refine ⟨fun d e => ?_, fun hl => ⟨vs, s, by rw [q.length]; rw [dEnum_len] at hl; exact hl⟩⟩
  obtain ⟨x, e1, rfl⟩ := dEnum_get 0 ds i d e
  obtain ⟨v, e2, qv⟩ := q.get e1
  refine ⟨⟨vs, v, s, e2⟩, fun y H' ⟨T, u, ey, hT, eH, k⟩ σ ρ S R => ?_⟩
  subst ey; subst eH
  have e3 := k vs s
  rw [e2] at e3
  cases e3
  rw [Nat.zero_add]
  exact pair_new hT w R.h0 (.int _) (qv.mono F.hf F.ad) R
def dZip : List D → List D → List D
  | a :: r, b :: t => .tup [a, b] :: dZip r t
  | _, _ => []
theorem dZip_get : ∀ (l m : List D) (i : Nat) (d : D), (dZip l m)[i]? = some d → ∃ x y, l[i]? = some x ∧ m[i]? = some y ∧ d = .tup [x, y]
  | a :: r, b :: t, 0, d, e => ⟨a, b, rfl, rfl, by simp [dZip] at e; exact e.symm⟩
  | a :: r, b :: t, i + 1, d, e => by
    obtain ⟨x, y, h1, h2, h3⟩ := dZip_get r t i d (by simpa [dZip] using e)
    exact ⟨x, y, by simpa using h1, by simpa using h2, h3⟩
  | [], m, i, d, e => by simp [dZip] at e
  | a :: r, [], i, d, e => by simp [dZip] at e
theorem dZip_len : ∀ (l m : List D) (i : Nat), (dZip l m).length ≤ i → l.length ≤ i ∨ m.length ≤ i
  | a :: r, b :: t, i, h => by
    have h' : (dZip r t).length + 1 ≤ i := h
    rcases dZip_len r t (i - 1) (by omega) with z | z
    · exact .inl (by rw [List.length_cons]; omega)
    · exact .inr (by rw [List.length_cons]; omega)
  | [], m, i, h => .inl (Nat.zero_le _)
  | a :: r, [], i, h => .inr (Nat.zero_le _)
theorem Yl.zip {a b : Addr} {vs ws : List V} {ds es : List D} (h : ∀ W' H', FutS H0 W H W' H' → WOk W' H' → SqL K H' a vs) (h2 : ∀ W' H', FutS H0 W H W' H' → WOk W' H' → SqL K H' b ws)
    (q : DVs K ca W.hf W.ad vs ds) (q2 : DVs K ca W.hf W.ad ws es) : Yl K ca H0 (Itz K a b) W H (dZip ds es) := by
  intro i W1 H1 F w
  have s := h W1 H1 F w
  have s2 := h2 W1 H1 F w
  refine ⟨fun d e => ?_, fun hl => ⟨vs, ws, s, s2, by rw [q.length, q2.length]; exact dZip_len _ _ _ hl⟩⟩
  obtain ⟨x, y, e1, e2, rfl⟩ := dZip_get ds es i d e
  obtain ⟨v, e3, qv⟩ := q.get e1
  obtain ⟨u, e4, qu⟩ := q2.get e2
  refine ⟨⟨vs, ws, v, u, s, s2, e3, e4⟩, fun z H' ⟨T, v', u', ez, hT, eH, k1, k2⟩ σ ρ S R => ?_⟩
  subst ez; subst eH
  have e5 := k1 vs s
  rw [e3] at e5
  cases e5
  have e6 := k2 ws s2
  rw [e4] at e6
  cases e6
  exact pair_new hT w R.h0 (qv.mono F.hf F.ad) (qu.mono F.hf F.ad) R
def dRng (lo : Int) (n : Nat) : List D := (List.range n).map fun i => .int (lo + (i : Nat))
theorem Yl.range {lo : Int} {n : Nat} : Yl K ca H0 (Itr lo n) W H (dRng lo n) := by
  intro i W1 H1 F w
  refine ⟨fun d e => ?_, fun hl => by unfold dRng at hl; rw [List.length_map, List.length_range] at hl; exact hl⟩
  unfold dRng at e
  rw [List.getElem?_map] at e
  obtain ⟨j, h1, h2⟩ := Option.map_eq_some_iff.mp e
  obtain ⟨hj, h3⟩ := List.getElem?_eq_some_iff.mp h1
  rw [List.length_range] at hj
  rw [List.getElem_range] at h3
  subst h3; subst h2
  refine ⟨hj, fun x H' ⟨eH, ex⟩ σ ρ S R => ?_⟩
  subst eH; subst ex
  exact ⟨W1, FutG.refl _ _, R, .int _⟩
def dRngC (lo c : Int) (n : Nat) : List D := (List.range n).map fun i => .int (lo + (i : Nat) * c)
theorem Yl.rangeC {lo c : Int} {n : Nat} : Yl K ca H0 (Itc lo c n) W H (dRngC lo c n) := by
  intro i W1 H1 F w
  refine ⟨fun d e => ?_, fun hl => by unfold dRngC at hl; rw [List.length_map, List.length_range] at hl; exact hl⟩
  unfold dRngC at e
  rw [List.getElem?_map] at e
  obtain ⟨j, h1, h2⟩ := Option.map_eq_some_iff.mp e
  obtain ⟨hj, h3⟩ := List.getElem?_eq_some_iff.mp h1
  rw [List.length_range] at hj
  rw [List.getElem_range] at h3
  subst h3; subst h2
  refine ⟨hj, fun x H' ⟨eH, ex⟩ σ ρ S R => ?_⟩
  subst eH; subst ex
  exact ⟨W1, FutG.refl _ _, R, .int _⟩
theorem Yl.str {x : Str} : Yl K ca H0 (Its x) W H (x.cps.toList.map fun c => .str ⟨#[c]⟩) := by
  intro i W1 H1 F w
  refine ⟨fun d e => ?_, fun hl => by rw [List.length_map, Array.length_toList] at hl; exact hl⟩
  rw [List.getElem?_map] at e
  obtain ⟨c, h1, h2⟩ := Option.map_eq_some_iff.mp e
  rw [Array.getElem?_toList] at h1
  subst h2
  refine ⟨(Array.getElem?_eq_some_iff.mp h1).1, fun y H' ⟨eH, c', hc, ey⟩ σ ρ S R => ?_⟩
  subst eH
  rw [h1] at hc
  cases hc
  subst ey
  exact ⟨W1, FutG.refl _ _, R, .str _⟩
end
theorem PI.or {tg e : Expr} {t t' : TI} (h : PI X tg e t) (h' : PI X tg e t') : PI X tg e (fun σ H R => t σ H R ∨ t' σ H R) :=
  ⟨fun pins s σ H R I q => q.elim (h.run pins s σ H R I) (h'.run pins s σ H R I)⟩
theorem sta_lst {K : PySem.W.Frag} {Hb : Hp} {W : Wd} {H : Hp} {v : V} {l : List D} (r : DR K ca .sta Hb W H v (.lst l)) : ∃ a vs, v = .ref a ∧ (∀ W' H', FutS H0 W H W' H' → WOk W' H' → SqL K H' a vs) ∧ SqL K H a vs ∧ DVs K ca W.hf W.ad vs l := by
  obtain ⟨a, vs, e, h, c, q⟩ := r
  exact ⟨a, vs, e, fun W' H' F _ => .inl (.inl (F.keep a _ h c).1), .inl (.inl h), q⟩
theorem sta_rol {K : PySem.W.Frag} {Hb : Hp} {W : Wd} {H : Hp} {v : V} {l : List D} (w : WOk W H) (r : DR K ca .sta Hb W H v (.rol l)) : ∃ a vs, v = .ref a ∧ (∀ W' H', FutS H0 W H W' H' → WOk W' H' → SqL K H' a vs) ∧ SqL K H a vs ∧ DVs K ca W.hf W.ad vs l := by
  obtain ⟨a, vs, e, h, q⟩ := DV.ofRol (show DV K ca W.hf W.ad v (.rol l) from r)
  exact ⟨a, vs, e, fun W' H' F w' => Same.lstq (F.hf.trans w'.sub) h, Same.lstq w.sub h, q⟩
theorem di_seq {tg e : Expr} {f : SE} (h : DE X ca H0 Wx .sta e f) : DI X ca H0 Wx tg e (sItems f) :=
  PI.imp (PI.or (pi_list h) (PI.or (pi_tup h) (pi_str h))) fun σ H R ⟨W, ρ, S, Rp, o⟩ => by
    have o1 := OutM.bind o
    match e : f ρ S with
    | none => rw [e] at o1; exact o1.elim
    | some (.error z, S') => rw [e] at o1; exact .inl ⟨W, ρ, S, Rp, by rw [e]; exact o1⟩
    | some (.ok d, S') =>
      rw [e] at o1
      cases d with
      | lst l =>
        refine .inl ⟨W, ρ, S, Rp, ?_⟩
        rw [e]
        intro W' H' F R' v r
        obtain ⟨a, vs, ev, k, k0, q⟩ := sta_lst (H0 := H0) r
        exact ⟨a, ev, ⟨vs, k0⟩, o1 W' H' F R' W' H' (FutG.refl _ _) R' _ (Yl.list k q)⟩
      | rol l =>
        refine .inl ⟨W, ρ, S, Rp, ?_⟩
        rw [e]
        intro W' H' F R' v r
        obtain ⟨a, vs, ev, k, k0, q⟩ := sta_rol (H0 := H0) R'.w r
        exact ⟨a, ev, ⟨vs, k0⟩, o1 W' H' F R' W' H' (FutG.refl _ _) R' _ (Yl.list k q)⟩
      | tup l =>
        refine .inr (.inl ⟨W, ρ, S, Rp, ?_⟩)
        rw [e]
        intro W' H' F R' v r
        obtain ⟨a, vs, ev, k, q⟩ := DV.ofTup (show DV X.K ca W'.hf W'.ad v (.tup l) from r)
        exact ⟨a, ev, ⟨vs, R'.w.tupOf k⟩, o1 W' H' F R' W' H' (FutG.refl _ _) R' _ (Yl.tup (fun W2 H2 F2 w2 => (Same.tupQ (F2.hf.trans w2.sub) k).sq) q)⟩
      | str x =>
        refine .inr (.inr ⟨W, ρ, S, Rp, ?_⟩)
        rw [e]
        intro W' H' F R' v r
        exact ⟨x, DV.ofStr (show DV X.K ca W'.hf W'.ad v (.str x) from r), o1 W' H' F R' W' H' (FutG.refl _ _) R' _ Yl.str⟩
      | _ =>
        refine .inl ⟨W, ρ, S, Rp, ?_⟩
        rw [e]
        intro W' H' F R' v r
        exact False.elim (o1 W' H' F R')
/-! range -/
def dInts : List D → Option (List Int)
  | [] => some []
  | x :: r => (asInt x).bind fun i => (dInts r).map (i :: ·)
theorem dInts_eq : ∀ {ds : List D} {ks : List Int}, dInts ds = some ks → ds = ks.map D.int
  | [], ks, e => by cases e; rfl
  | x :: r, ks, e => by
    obtain ⟨i, e1, e2⟩ := Option.bind_eq_some_iff.mp (show ((asInt x).bind fun i => (dInts r).map (i :: ·)) = some ks from e)
    obtain ⟨l, e3, e4⟩ := Option.map_eq_some_iff.mp e2
    subst e4
    rw [asInt_eq e1, dInts_eq e3]; rfl
theorem ints_of {K : PySem.W.Frag} {m : Md} {Hb : Hp} {W : Wd} {H : Hp} : ∀ {ks : List Int} {vs : List V}, DRs K ca m Hb W H vs (ks.map D.int) → vs = ks.map V.int
  | [], _, .nil => rfl
  | k :: r, _, .cons q qr => by
    rw [ints_of qr]
    cases m <;> exact congrArg (fun v => v :: r.map V.int) (DV.ofInt q)
noncomputable def oRng (ds : List D) : Option (List D) := match dInts ds with
  | some [j] => cif (-(2 ^ 62) ≤ j ∧ j < 2 ^ 62) (some (dRng 0 j.toNat)) none
  | some [i, j] => cif (-(2 ^ 62) ≤ i ∧ i < 2 ^ 62 ∧ -(2 ^ 62) ≤ j ∧ j < 2 ^ 62) (some (dRng i (j - i).toNat)) none
  | some [i, j, c] => cif (c ≠ 0 ∧ c.natAbs < 1073741824 ∧ Builtin.Range.small i j c = true) (some (dRngC i c (Builtin.Range.rangeSize i j c).toNat)) none
  | _ => none
noncomputable def sRng (fa : SA) : SA := fun ρ => mb (fa ρ) fun ds => mo (oRng ds)
theorem range_of {fa : SA} {n : Nat} {σ : L2.St} {H : Hp} {R : It → Hp → Prop} (hl : SAlen fa n) (h : tI X.K ca H0 Wx (sRng fa) σ H R) :
    tA X.K ca H0 Wx .frz fa σ H fun vs H1 => ∃ ks : List Int, vs = ks.map V.int ∧ ks.length = n ∧ ∃ ds, oRng (ks.map D.int) = some ds ∧ ∀ J, (∀ K W H, Yl K ca H0 J W H ds) → R J H1 := by
  obtain ⟨W, ρ, S, Rp, o⟩ := h
  have o1 := OutM.bind o
  match e : fa ρ S with
  | none => rw [e] at o1; exact o1.elim
  | some (.error z, S') => rw [e] at o1; exact ⟨W, ρ, S, Rp, by rw [e]; exact o1⟩
  | some (.ok ds, S') =>
    rw [e] at o1
    refine ⟨W, ρ, S, Rp, ?_⟩
    rw [e]
    intro W' H' F R' vs q
    have h := o1 W' H' F R'
    cases e2 : dInts ds with
    | none => unfold oRng at h; simp only [e2] at h; exact False.elim h
    | some ks =>
      have e3 := dInts_eq e2
      subst e3
      have hk := hl _ _ _ _ e
      rw [List.length_map] at hk
      refine ⟨ks, ints_of q, hk, ?_⟩
      cases e4 : oRng (ks.map D.int) with
      | none => rw [e4] at h; exact False.elim h
      | some l =>
        rw [e4] at h
        exact ⟨l, rfl, fun J y => h W' H' (FutG.refl _ _) R' J (y _ _ _)⟩
theorem dInts_map : ∀ (ks : List Int), dInts (ks.map D.int) = some ks
  | [] => rfl
  | k :: r => by
    show ((some k).bind fun i => (dInts (r.map D.int)).map (i :: ·)) = _
    rw [dInts_map r]; rfl
theorem di_range1 {tg a : Expr} {fa : SA} {p pos : Pos} (hg : Gl X "range") (hm : X.mg "range" = none) (ha : DA X ca H0 Wx .frz [a] fa) (hl : SAlen fa 1) (hs : starEach [a] X.env = [(false, eval a X.env)] := by rfl) : DI X ca H0 Wx tg (.Call (.Name "range" p) [a] [] pos) (sRng fa) :=
  PI.imp (pi_range1 hg hm ha hs) fun σ H R h => by
    obtain ⟨W, ρ, S, Rp, o⟩ := range_of hl h
    refine ⟨W, ρ, S, Rp, o.imp fun ds S' W' H' F R' k vs q => ?_⟩
    obtain ⟨ks, rfl, e1, ds, e2, k⟩ := k vs q
    match ks, e1 with
    | [j], _ =>
      unfold oRng at e2
      rw [dInts_map] at e2
      have e2 : (cif (-(2 ^ 62) ≤ j ∧ j < 2 ^ 62) (some (dRng 0 j.toNat)) none) = some ds := e2
      by_cases hb : -(2 ^ 62) ≤ j ∧ j < 2 ^ 62
      · rw [cif_pos hb] at e2; cases e2
        exact ⟨j, rfl, hb.1, hb.2, k _ fun _ _ _ => Yl.range⟩
      · rw [cif_neg hb] at e2; cases e2
theorem di_range2 {tg a b : Expr} {fa : SA} {p pos : Pos} (hg : Gl X "range") (hm : X.mg "range" = none) (ha : DA X ca H0 Wx .frz [a, b] fa) (hl : SAlen fa 2) (hs : starEach [a, b] X.env = [(false, eval a X.env), (false, eval b X.env)] := by rfl) (hs2 : starEach [b] X.env = [(false, eval b X.env)] := by rfl) :
    DI X ca H0 Wx tg (.Call (.Name "range" p) [a, b] [] pos) (sRng fa) :=
  PI.imp (pi_range2 hg hm ha hs hs2) fun σ H R h => by
    obtain ⟨W, ρ, S, Rp, o⟩ := range_of hl h
    refine ⟨W, ρ, S, Rp, o.imp fun ds S' W' H' F R' k vs q => ?_⟩
    obtain ⟨ks, rfl, e1, ds, e2, k⟩ := k vs q
    match ks, e1 with
    | [i, j], _ =>
      unfold oRng at e2
      rw [dInts_map] at e2
      have e2 : (cif (-(2 ^ 62) ≤ i ∧ i < 2 ^ 62 ∧ -(2 ^ 62) ≤ j ∧ j < 2 ^ 62) (some (dRng i (j - i).toNat)) none) = some ds := e2
      by_cases hb : -(2 ^ 62) ≤ i ∧ i < 2 ^ 62 ∧ -(2 ^ 62) ≤ j ∧ j < 2 ^ 62
      · rw [cif_pos hb] at e2; cases e2
        exact ⟨i, j, rfl, hb, k _ fun _ _ _ => Yl.range⟩
      · rw [cif_neg hb] at e2; cases e2
theorem rng_toNat (a b c : Int) : Builtin.Range.rangeSize a b c = ((Builtin.Range.rangeSize a b c).toNat : Int) := by
  have hpos : 0 ≤ Builtin.Range.rangeSize a b c := by
    unfold Builtin.Range.rangeSize
    split <;> split <;> first | omega | (have := Int.ediv_nonneg (a := b - a - 1) (b := c) (by omega) (by omega); omega) | (have := Int.ediv_nonneg (a := a - b - 1) (b := -c) (by omega) (by omega); omega)
  omega
theorem di_range3 {tg a b c : Expr} {fa : SA} {p pos : Pos} (hg : Gl X "range") (hm : X.mg "range" = none) (ha : DA X ca H0 Wx .frz [a, b, c] fa) (hl : SAlen fa 3)
    (hs : starEach [a, b, c] X.env = (false, eval a X.env) :: starEach [b, c] X.env := by rfl) (hpl : (backTo pos (starEach [b, c] X.env)).any (·.1) = false := by rfl) :
    DI X ca H0 Wx tg (.Call (.Name "range" p) [a, b, c] [] pos) (sRng fa) :=
  PI.imp (pi_range3 hg hm ha hs hpl) fun σ H R h => by
    obtain ⟨W, ρ, S, Rp, o⟩ := range_of hl h
    refine ⟨W, ρ, S, Rp, o.imp fun ds S' W' H' F R' k vs q => ?_⟩
    obtain ⟨ks, rfl, e1, ds, e2, k⟩ := k vs q
    match ks, e1 with
    | [i, j, c], _ =>
      unfold oRng at e2
      rw [dInts_map] at e2
      have e2 : (cif (c ≠ 0 ∧ c.natAbs < 1073741824 ∧ Builtin.Range.small i j c = true) (some (dRngC i c (Builtin.Range.rangeSize i j c).toNat)) none) = some ds := e2
      by_cases hb : c ≠ 0 ∧ c.natAbs < 1073741824 ∧ Builtin.Range.small i j c = true
      · rw [cif_pos hb] at e2; cases e2
        exact ⟨i, j, c, _, rfl, ⟨hb.1, hb.2.1, hb.2.2, rng_toNat i j c⟩, k _ fun _ _ _ => Yl.rangeC⟩
      · rw [cif_neg hb] at e2; cases e2
/-! enumerate, zip -/
def dLst : D → Option (List D)
  | .lst l => some l
  | .rol l => some l
  | _ => none
def oEnum (ds : List D) : Option (List D) := match ds with
  | [d] => (dLst d).map (dEnum 0)
  | _ => none
def oZip (ds : List D) : Option (List D) := match ds with
  | [a, b] => (dLst a).bind fun l => (dLst b).map (dZip l)
  | _ => none
def sEnum (fa : SA) : SA := fun ρ => mb (fa ρ) fun ds => mo (oEnum ds)
def sZip (fa : SA) : SA := fun ρ => mb (fa ρ) fun ds => mo (oZip ds)
theorem sta_l {K : PySem.W.Frag} {Hb : Hp} {W : Wd} {H : Hp} {v : V} {d : D} {l : List D} (e : dLst d = some l) (w : WOk W H) (r : DR K ca .sta Hb W H v d) : ∃ a vs, v = .ref a ∧ (∀ W' H', FutS H0 W H W' H' → WOk W' H' → SqL K H' a vs) ∧ SqL K H a vs ∧ DVs K ca W.hf W.ad vs l := by
  cases d <;> cases e
  · exact sta_lst r
  · exact sta_rol w r
theorem di_enum {e : Expr} {fa : SA} {p pos tpos : Pos} {elts : List Expr} {kk : Nat} (hg : Gl X "enumerate") (hm : X.mg "enumerate" = none) (ha : DA X ca H0 Wx .sta [e] fa) (hs : starEach [e] X.env = [(false, eval e X.env)] := by rfl) :
    DI X ca H0 Wx (.Tuple elts kk tpos) (.Call (.Name "enumerate" p) [e] [] pos) (sEnum fa) :=
  PI.imp (pi_enum hg hm ha hs) fun σ H R ⟨W, ρ, S, Rp, o⟩ => ⟨W, ρ, S, Rp, (OutM.bind o).imp fun ds S' W' H' F R' k vs q => by
    match ds, q, k with
    | [], q, k => exact False.elim k
    | _ :: _ :: _, q, k => exact False.elim k
    | [d], .cons q .nil, k =>
      have k : OutM X.K ca H0 Wx W' ρ σ H' (mo ((dLst d).map (dEnum 0)) S') _ := k
      cases e1 : dLst d with
      | none => rw [e1] at k; exact False.elim k
      | some l =>
        rw [e1] at k
        obtain ⟨a, vs, ev, k1, k0, g⟩ := sta_l (H0 := H0) e1 R'.w q
        subst ev
        exact ⟨a, vs, rfl, k0, k W' H' (FutG.refl _ _) R' _ (Yl.enum k1 g)⟩⟩
theorem di_zip {e e2 : Expr} {fa : SA} {p pos tpos : Pos} {elts : List Expr} {kk : Nat} (hg : Gl X "zip") (hm : X.mg "zip" = none) (ha : DA X ca H0 Wx .sta [e, e2] fa)
    (hs : starEach [e, e2] X.env = (false, eval e X.env) :: starEach [e2] X.env := by rfl) (hpl : (backTo pos (starEach [e2] X.env)).any (·.1) = false := by rfl) :
    DI X ca H0 Wx (.Tuple elts kk tpos) (.Call (.Name "zip" p) [e, e2] [] pos) (sZip fa) :=
  PI.imp (pi_zip hg hm ha hs hpl) fun σ H R ⟨W, ρ, S, Rp, o⟩ => ⟨W, ρ, S, Rp, (OutM.bind o).imp fun ds S' W' H' F R' k vs q => by
    match ds, q, k with
    | [], q, k => exact False.elim k
    | [_], q, k => exact False.elim k
    | _ :: _ :: _ :: _, q, k => exact False.elim k
    | [d, d2], .cons q (.cons q2 .nil), k =>
      have k : OutM X.K ca H0 Wx W' ρ σ H' (mo ((dLst d).bind fun l => (dLst d2).map (dZip l)) S') _ := k
      cases e1 : dLst d with
      | none => rw [e1] at k; exact False.elim k
      | some l =>
        cases e3 : dLst d2 with
        | none => rw [e1, e3] at k; exact False.elim k
        | some l2 =>
          rw [e1, e3] at k
          obtain ⟨a, vs, ev, k1, k0, g⟩ := sta_l (H0 := H0) e1 R'.w q
          obtain ⟨b, ws, ew, k3, k4, g2⟩ := sta_l (H0 := H0) e3 R'.w q2
          subst ev; subst ew
          exact ⟨a, b, vs, ws, rfl, k0, k4, k W' H' (FutG.refl _ _) R' _ (Yl.zip k1 k3 g g2)⟩⟩
/-! ### while -/
def whD (fc : ST) (fb : SS) : Nat → SS
  | 0, _, _ => none
  | n + 1, ρ, S => match fc ρ S with
    | none => none
    | some (.error e, S') => some (.exc ρ e, S')
    | some (.ok false, S') => some (.nx ρ, S')
    | some (.ok true, S') => match fb ρ S' with
      | some (.nx ρ', S2) => whD fc fb n ρ' S2
      | some (.cnt ρ', S2) => whD fc fb n ρ' S2
      | some (.brk ρ', S2) => some (.nx ρ', S2)
      | z => z
open Classical in
noncomputable def bWhile (fc : ST) (fb : SS) : SS := fun ρ S => if h : ∃ n r, whD fc fb n ρ S = some r then whD fc fb h.choose ρ S else none
theorem ds_while {c : Expr} {body : List Stmt} {fc : ST} {fb : SS} {pos : Pos} (hp : PassesOwn (model X.prog X.w) X.A X.env X.xe) (hc : DT X ca H0 Wx c fc) (hb : DSs X ca H0 Wx mr body fb) : DS X ca H0 Wx mr (.While c body [] pos) (bWhile fc fb) :=
  PS.imp (ps_while hp hc hb) fun D σ H ⟨W0, ρ0, S0, R0, o⟩ => by
    unfold bWhile at o
    by_cases hh : ∃ n r, whD fc fb n ρ0 S0 = some r
    · rw [dif_pos hh] at o
      generalize hh.choose = n at o
      refine ⟨fun m σ H => ∃ W ρ S, Rep X.K ca H0 W H σ ρ S ∧ OutS X.K ca H0 Wx mr W H D (whD fc fb m ρ S), ⟨n, W0, ρ0, S0, R0, o⟩, ?_⟩
      rintro m σ H ⟨W, ρ, S, R, h⟩
      cases m with
      | zero => exact False.elim h
      | succ m =>
        refine ⟨W, ρ, S, R, ?_⟩
        unfold whD at h
        match e : fc ρ S with
        | none => simp only [e] at h; exact False.elim h
        | some (.error z, S') =>
          simp only [e] at h
          exact fun W' H' cls od f R' xv => h W' H' σ cls od (Fut.s f R.h0) R' xv
        | some (.ok false, S') =>
          simp only [e] at h
          exact fun W' H' F R' => iteF (OutS.nx R' (OutS.later (Fut.s F R.h0) h))
        | some (.ok true, S') =>
          simp only [e] at h
          refine fun W' H' F R' => iteT ⟨fun σ' H' => ∃ W ρ S, Rep X.K ca H0 W H' σ' ρ S ∧ OutS X.K ca H0 Wx mr W H' D (whD fc fb m ρ S), fun σ' H' n' => ⟨m, Nat.lt_succ_self m, n'⟩, W', ρ, S', R', ?_⟩
          have h' := OutS.later (Fut.s F R.h0) h
          match eb : fb ρ S' with
          | none => simp only [eb] at h'; exact h'
          | some (.nx ρ', S2) => simp only [eb] at h'; exact fun W2 H2 σ3 F2 R3 => ⟨W2, ρ', S2, R3, OutS.later F2 h'⟩
          | some (.cnt ρ', S2) => simp only [eb] at h'; exact fun W2 H2 σ3 F2 R3 => ⟨W2, ρ', S2, R3, OutS.later F2 h'⟩
          | some (.brk ρ', S2) => simp only [eb] at h'; exact h'
          | some (.ret d, S2) => simp only [eb] at h'; exact h'
          | some (.exc ρ' z, S2) => simp only [eb] at h'; exact h'
    · rw [dif_neg hh] at o; exact False.elim o
end
/-- more turns do no harm -/
theorem whD_more {fc : ST} {fb : SS} : ∀ (n m : Nat) (ρ : Rho) (S : Sto) r, n ≤ m → whD fc fb n ρ S = some r → whD fc fb m ρ S = some r
  | 0, _, _, _, _, _, h => by cases h
  | n + 1, 0, _, _, _, hm, _ => by omega
  | n + 1, m + 1, ρ, S, r, hm, h => by
    unfold whD at h ⊢
    match e : fc ρ S with
    | none => simp only [e] at h; cases h
    | some (.error z, S') => simp only [e] at h ⊢; exact h
    | some (.ok false, S') => simp only [e] at h ⊢; exact h
    | some (.ok true, S') =>
      simp only [e] at h ⊢
      match eb : fb ρ S' with
      | none => simp only [eb] at h; cases h
      | some (.nx ρ', S2) => simp only [eb] at h ⊢; exact whD_more n m _ _ _ (by omega) h
      | some (.cnt ρ', S2) => simp only [eb] at h ⊢; exact whD_more n m _ _ _ (by omega) h
      | some (.brk ρ', S2) => simp only [eb] at h ⊢; exact h
      | some (.ret d, S2) => simp only [eb] at h ⊢; exact h
      | some (.exc ρ' z, S2) => simp only [eb] at h ⊢; exact h
theorem bWhile_of {fc : ST} {fb : SS} {n : Nat} {ρ : Rho} {S : Sto} {r : SOut × Sto} (h : whD fc fb n ρ S = some r) : bWhile fc fb ρ S = some r := by
  unfold bWhile
  have hh : ∃ n r, whD fc fb n ρ S = some r := ⟨n, r, h⟩
  rw [dif_pos hh]
  obtain ⟨r', h'⟩ := hh.choose_spec
  have h1 := whD_more _ (max n hh.choose) ρ S _ (Nat.le_max_left _ _) h
  have h2 := whD_more _ (max n hh.choose) ρ S _ (Nat.le_max_right _ _) h'
  rw [h1] at h2
  rw [h']; exact h2.symm
end DL

/-! DL9: raise, try. -/
namespace PySem.W
open PySem PySem.Spec PySem.Calls PyProof.Rows
section
variable {prog : Program} {w : World} {A : Around} {E : Value → Shared → Prop} {s : Shared} {K : Frag} {x D : Addr} {ox : Obj} {od : Option Obj}
/-- e.__class__ of an exception that has a dict -/
theorem dl_class {Q : Option Value → Shared → Prop} (h1 : findIn K (.ref D) "__getattribute__" = some (some (.builtin "BaseException.__getattribute__"))) (h2 : findIn K (.ref D) "__getattr__" = some none) (h3 : subIn K (.ref D) (.type "BaseException") = some true)
    (h4 : hasDictIn K D = true) (h5 : findIn K (.ref D) "__class__" = some (some (.builtin "object.__class__"))) (h6 : specialIn K (.builtin "object.__class__") "__get__" = some (some (.builtin "getset_descriptor.__get__"))) (h7 : takesIn K (.builtin "object.__class__") = some true)
    (h8 : mroIn K D (.type "object") = some true) (X : K.In s.heap) (I : InstAt s.heap x ox D od) (q : Q (some (.ref D)) { s with toks := s.toks + 1 }) : wpAny (model prog w) A (getAttr? (.ref x) "__class__") Q E s := by
  have hf : findObj K D od "__class__" = some (.bind (.builtin "getset_descriptor.__get__") (.builtin "object.__class__")) := by
    obtain ⟨cd, hc, _⟩ := any_some h4
    unfold findObj
    rw [hc, Option.bind_some, h5, Option.bind_some]
    simp [h6, h7]
  obtain ⟨hp, g, d, t, os⟩ := s
  have T0 := I.type (M := model prog w)
  have T1 := looks_findIn (M := model prog w) X h1
  have T2 := looks_findIn (M := model prog w) X h2
  have T3 := looks_find (M := model prog w) X I hf
  have T4 : Looks (model prog w) hp (isInstance (.ref x) (.type "BaseException")) true := T0.andThen (looks_subIn X h3)
  have n2 : (Value.builtin "BaseException.__getattribute__" == Value.builtin "object.__getattribute__") = false := by decide +kernel
  have n1 : (onTheHeap (Value.ref D) && Value.builtin "BaseException.__getattribute__" == Value.builtin "object.__getattribute__") = false := by rw [n2]; rfl
  have n0 : (false && onTheHeap (Value.builtin "BaseException.__getattribute__")) = false := rfl
  unfold getAttr? getAttrBy?; unfold getAttrBy
  refine wpAny_bind (wpAny_mkText (wpAny_bind (wpAny_attempt (wpAny_holding (wpAny_bind (T0.at (wpAny_bind (T1.at ?_))))))))
  show wpAny _ _ (if (onTheHeap (Value.ref D) && Value.builtin "BaseException.__getattribute__" == Value.builtin "object.__getattribute__") = true then _ else _) _ _ _
  rw [n1, if_neg Bool.false_ne_true]; unfold getAttrByItsOwn; unfold hookBefore
  refine wpAny_bind ?_; rw [if_pos (show onTheHeap (Value.ref D) = true from rfl)]
  refine T2.at (wpAny_bind (wpAny_attempt (wpAny_holding ?_))); unfold callGetattribute; rw [n0, if_neg Bool.false_ne_true]
  unfold boundAndCalled; rw [PySem.F.excAttr_ValueError.ga.bind (.ref x)]; refine wpAny_bind (wpAny_pure ?_)
  show wpAny _ _ (call (.builtin "BaseException.__getattribute__") [.ref x, .str "__class__" t]) _ _ _
  refine wpAny_call (codeAny_call_builtin PySem.F.excAttr_ValueError.ga.plain PySem.F.entry_bexc_ga (@check_slot (model prog w) _ _ ⟨hp, g, d, t + 1, os⟩ "BaseException.__getattribute__" "BaseException" "__getattribute__" (.ref x) [.str "__class__" t] [] _ (by decide +kernel) (by decide +kernel) T4 (PySem.F.args_bexc_ga (.ref x) (.str "__class__" t)) ?_))
  unfold Builtin.«object.__getattribute__»; refine wpAny_bind (wpAny_of_eq (a := ((Value.ref x : Value), [Value.str "__class__" t])) (by first | rfl | (simp only [slotArgs]; rfl)) ?_)
  refine wpAny_bind (wpAny_pure (wpAny_bind (T0.at (wpAny_bind (T3.at ?_)))))
  show wpAny _ _ (holding [Value.builtin "object.__class__"] (call (.builtin "getset_descriptor.__get__") [.builtin "object.__class__", .ref x, .ref D]) >>= ret) _ _ _
  refine wpAny_bind (wpAny_holding (wpAny_call (class_get (s := ⟨hp, g, d, t + 1, os⟩) (ox := ox) (od := od) X I h8 (wpAny_pure ?_))))
  show wpAny _ _ (handedOut (.ref D)) _ _ _
  rw [handedOut_of (v := .ref D) rfl]
  first
    | exact wpAny_pure (wpAny_pure q)
    | exact wpAny_pure q
    | exact wpAny_pure (wpAny_bind (wpAny_pure (wpAny_pure q)))
theorem dl_kitx (h1 : findIn K (.ref D) "__getattribute__" = some (some (.builtin "BaseException.__getattribute__"))) (h2 : findIn K (.ref D) "__getattr__" = some none) (h3 : subIn K (.ref D) (.type "BaseException") = some true)
    (h4 : hasDictIn K D = true) (h5 : findIn K (.ref D) "__class__" = some (some (.builtin "object.__class__"))) (h6 : specialIn K (.builtin "object.__class__") "__get__" = some (some (.builtin "getset_descriptor.__get__"))) (h7 : takesIn K (.builtin "object.__class__") = some true)
    (h8 : mroIn K D (.type "object") = some true) : KitX K (.ref x) (.ref D) (fun h => InstAt h x ox D od) where
  ty := fun _ _ _ I => I.type
  it := fun _ _ X _ => by
    obtain ⟨c1, e1, _⟩ := any_some h4
    unfold clsIn at e1
    split at e1
    · rename_i c' d' cd' sl' ho
      intro A' Q' E' s' k q; unfold isType; unfold loadHead
      exact wpAny_bind (wpAny_loadPart (k _ _ (X _ _ ho)) (wpAny_pure q))
    · cases e1
  ne := fun h tp dd its n sl X htp => by
    obtain ⟨c1, e1, _⟩ := any_some h4
    refine Bool.eq_false_iff.mpr fun q => ?_
    obtain rfl : D = tp := Value.ref.inj (beq_iff_eq.mp q)
    unfold clsIn at e1
    split at e1
    · rename_i c' d' cd' sl' ho
      cases (X _ _ ho).symm.trans htp
    · cases e1
  ca := fun X I k => dl_class h1 h2 h3 h4 h5 h6 h7 h8 X I k
end
end PySem.W
namespace DL
open PySem PySem.Spec PyProof.Rows L2
section
variable {X : Cx} {ca : Ca} {H0 : Bs} {Wx : WX} {mr : Md}
/-! ### raise -/
/-- what C's __init__ leaves of its self: the fields, the last one first -/
def spXI (C : Addr) (fs : List Str) : Sp := fun vs H Q _ => ∃ (a : Addr) (ws : List V), vs = .ref a :: ws ∧ ws.length = fs.length ∧ H a = some (exo a C none) ∧
  ∀ d H2, d ≠ a → H d = none → H2 a = some (exo a C (some d)) → H2 d = some (exd d (fs.zip ws).reverse) → (∀ b, b ≠ a → b ≠ d → H2 b = H b) → Q .non H2
def bRaise (c : Str) (fs : List Str) (fa : SA) : SS := fun ρ => sb (fa ρ) ρ fun ds S => if ds.length ≤ 1000 ∧ ds.length = fs.length then some (.exc ρ ⟨c, some (fs.zip ds).reverse⟩, S) else none
theorem DFs.zip {K : PySem.W.Frag} {h : Hp} {ad : Nat → Option Addr} : ∀ {fs : List Str} {vs : List V} {ds : List D} {vt : List (Str × V)} {dt : List (Str × D)}, DVs K ca h ad vs ds → DFs K ca h ad vt dt → DFs K ca h ad ((fs.zip vs).reverse ++ vt) ((fs.zip ds).reverse ++ dt)
  | [], _, _, _, _, _, t => t
  | _ :: _, _, _, _, _, .nil, t => t
  | f :: fs, _, _, _, _, .cons q r, t => by
    rw [List.zip_cons_cons, List.zip_cons_cons, List.reverse_cons, List.reverse_cons, List.append_assoc, List.append_assoc]
    exact DFs.zip (fs := fs) r (.cons q t)
theorem ds_raise {c : Str} {fs : List Str} {x : Str} {C fI : Addr} {k : Nat} {fd : FuncData} {ps : List Str} {e : Expr} {es : List Expr} {fa : SA} {p pos pos' : Pos} (hc : X.calm = true) (tk : Takes X Wx) (hC : ca c = C)
    (T : OexC X.K C) (iC : PySem.W.findIn X.K (.ref C) "__init__" = some (some (.ref fI))) (tI : PySem.W.typeIn X.K (.ref fI) = some (.type "function"))
    (F1 : FnOk X.prog X.w X.K X.mg X.base (CXP X.prog X.w) k fI fd ps (spXI C fs)) (hr : Room (k + 1) X.A) (hb : Binds X.K fd ps []) (hg : Gl X x) (hm : X.mg x = some (.ref C)) (ha : DA X ca H0 Wx .frz (e :: es) fa)
    (hdb : (x == ("__debug__" : Str)) = false := by decide) (he : starEach (e :: es) X.env = (false, eval e X.env) :: starEach es X.env := by rfl) (hpl : (backTo pos (starEach es X.env)).any (·.1) = false := by rfl) :
    DS X ca H0 Wx mr (.Raise (some (.Call (.Name x p) (e :: es) [] pos)) none pos') (bRaise c fs fa) := by
  have hx : Passes (CXP X.prog X.w) X (fun _ _ _ => False) := fun _ _ _ _ _ _ _ h => by
    obtain ⟨_, _, _, _, _, _, _, _, _, _, _, _, z⟩ := h
    exact z.elim
  refine PS.imp (ps_raise hc tk (pmk_oex (dvs := []) T iC tI F1 hr hb .nil hx hg hm ha hdb he hpl)) fun D σ H ⟨W, ρ, S, R, o⟩ => ⟨W, ρ, S, R, (OutS.bind R o).imp fun ds S' W' H' F R' h vs q => ?_⟩
  have q' := DRs.dv q
  have hl := q'.length
  by_cases hz : ds.length ≤ 1000 ∧ ds.length = fs.length
  · rw [if_pos hz] at h
    refine ⟨by omega, fun a hn => ⟨a, vs, by rw [List.append_nil], by omega, upd_same, fun d H2 hda hd e1 e2 e3 => ⟨rfl, d, _, e1, e2, ?_, ?_⟩⟩⟩
    · rw [upd_ne hda] at hd; exact hd
    · rw [upd_ne hda] at hd
      have eH : upd (del H2 a) d (.xd (fs.zip vs).reverse) = upd H' d (.xd (fs.zip vs).reverse) := by
        funext b
        by_cases hb : b = d
        · rw [hb, upd_same, upd_same]
        · rw [upd_ne hb, upd_ne hb]
          by_cases hba : b = a
          · rw [hba, del_same]; exact hn.symm
          · rw [del_ne hba, e3 b hba hb, upd_ne hba]
      rw [eH]
      refine h (W'.fz d (.xd (fs.zip vs).reverse)) _ σ (.ref C) (some d) (Fut.s (Fut.new R'.w hd) R'.h0) (R'.new hd) ⟨by rw [hC], d, _, rfl, upd_same, ?_⟩
      have z := DFs.zip (fs := fs) (q'.mono (same_upd (o := HO.xd (fs.zip vs).reverse) (R'.w.free hd).1) fun _ _ h => h) (.nil)
      rw [List.append_nil, List.append_nil] at z
      exact z
  · rw [if_neg hz] at h; exact False.elim h
/-! the __init__ of one, two, three fields -/
section
variable {P : Program} {w : World} {K : PySem.W.Frag} {mg : Str → Option Value} {base : Heap} {x qual : Str} {params : Arguments} {scope : Scope} {f C : Addr} {fd : FuncData}
theorem okXI1 {x0 x1 f1 : Str} {p1 p2 p3 p4 : Pos} (F : FunD K x qual params [.Assign [.Attribute (.Name x0 p1) f1 p2] (.Name x1 p3) p4] scope [] [] f fd) (S : FnScope [x0, x1] [x0, x1] scope)
    (T : OexC K C) (h1 : PySem.W.findIn K (.ref C) f1 = some none) (l0 : scope.names.lookup x0 = some .local := by rfl) (l1 : scope.names.lookup x1 = some .local := by rfl)
    (d0 : (x0 == ("__debug__" : Str)) = false := by decide) (d1 : (x1 == ("__debug__" : Str)) = false := by decide) (c0 : (x0 == ("__classdict__" : Str)) = false := by decide) (c1 : (x1 == ("__classdict__" : Str)) = false := by decide) :
    FnOk P w K mg base (CXP P w) 1 f fd [x0, x1] (spXI C [f1]) := by
  refine F.ok S (fun vs H Q E h => ?_) fun cdv A outer s H vs Q E hr h => ?_
  · obtain ⟨a, ws, rfl, hl, _⟩ := h
    rw [List.length_cons, hl]; rfl
  · obtain ⟨a, ws, rfl, hl, ha, q⟩ := h
    match ws, hl with
    | [y], _ =>
      refine ⟨_, pss_one (ps_ost (pe_var (i := 0) rfl (.inl l0) d0 c0) (pe_var (i := 1) rfl (.inl l1) d1 c1)), _, rfl, _, rfl, a, C, rfl, T, h1, .inl ⟨ha, fun dx hd hne => ?_⟩⟩
      exact q dx _ hne hd upd_same (by rw [upd_ne hne, upd_same]; rfl) fun b h1 h2 => by rw [upd_ne h1, upd_ne h2]
theorem okXI2 {x0 x1 x2 f1 f2 : Str} {p1 p2 p3 p4 q1 q2 q3 q4 : Pos} (F : FunD K x qual params [.Assign [.Attribute (.Name x0 p1) f1 p2] (.Name x1 p3) p4, .Assign [.Attribute (.Name x0 q1) f2 q2] (.Name x2 q3) q4] scope [] [] f fd) (S : FnScope [x0, x1, x2] [x0, x1, x2] scope)
    (T : OexC K C) (h1 : PySem.W.findIn K (.ref C) f1 = some none) (h2 : PySem.W.findIn K (.ref C) f2 = some none) (l0 : scope.names.lookup x0 = some .local := by rfl) (l1 : scope.names.lookup x1 = some .local := by rfl) (l2 : scope.names.lookup x2 = some .local := by rfl)
    (d0 : (x0 == ("__debug__" : Str)) = false := by decide) (d1 : (x1 == ("__debug__" : Str)) = false := by decide) (d2 : (x2 == ("__debug__" : Str)) = false := by decide)
    (c0 : (x0 == ("__classdict__" : Str)) = false := by decide) (c1 : (x1 == ("__classdict__" : Str)) = false := by decide) (c2 : (x2 == ("__classdict__" : Str)) = false := by decide) :
    FnOk P w K mg base (CXP P w) 1 f fd [x0, x1, x2] (spXI C [f1, f2]) := by
  refine F.ok S (fun vs H Q E h => ?_) fun cdv A outer s H vs Q E hr h => ?_
  · obtain ⟨a, ws, rfl, hl, _⟩ := h
    rw [List.length_cons, hl]; rfl
  · obtain ⟨a, ws, rfl, hl, ha, q⟩ := h
    match ws, hl with
    | [y, z], _ =>
      have v0 := fun pos => pe_var (X := cxOf (CXP P w) P w K mg base [x0, x1, x2] qual scope f cdv A outer s H E) (pos := pos) (i := 0) (x := x0) rfl (.inl l0) d0 c0
      refine ⟨_, pss_cons (ps_ost (v0 _) (pe_var (i := 1) rfl (.inl l1) d1 c1)) (pss_one (ps_ost (v0 _) (pe_var (i := 2) rfl (.inl l2) d2 c2))), _, rfl, _, rfl, a, C, rfl, T, h1, .inl ⟨ha, fun dx hd hne => ?_⟩⟩
      refine ⟨_, rfl, _, rfl, a, C, rfl, T, h2, .inr ⟨dx, _, upd_same, by rw [upd_ne hne, upd_same], by show 1 ≤ 900; decide, ?_⟩⟩
      exact q dx _ hne hd (by rw [upd_ne (Ne.symm hne), upd_same]) (by rw [upd_same]; rfl) fun b h1 h2 => by rw [upd_ne h2, upd_ne h1, upd_ne h2]
theorem okXI3 {x0 x1 x2 x3 f1 f2 f3 : Str} {p1 p2 p3 p4 q1 q2 q3 q4 r1 r2 r3 r4 : Pos} (F : FunD K x qual params [.Assign [.Attribute (.Name x0 p1) f1 p2] (.Name x1 p3) p4, .Assign [.Attribute (.Name x0 q1) f2 q2] (.Name x2 q3) q4, .Assign [.Attribute (.Name x0 r1) f3 r2] (.Name x3 r3) r4] scope [] [] f fd) (S : FnScope [x0, x1, x2, x3] [x0, x1, x2, x3] scope)
    (T : OexC K C) (h1 : PySem.W.findIn K (.ref C) f1 = some none) (h2 : PySem.W.findIn K (.ref C) f2 = some none) (h3 : PySem.W.findIn K (.ref C) f3 = some none) (l0 : scope.names.lookup x0 = some .local := by rfl) (l1 : scope.names.lookup x1 = some .local := by rfl) (l2 : scope.names.lookup x2 = some .local := by rfl) (l3 : scope.names.lookup x3 = some .local := by rfl)
    (d0 : (x0 == ("__debug__" : Str)) = false := by decide) (d1 : (x1 == ("__debug__" : Str)) = false := by decide) (d2 : (x2 == ("__debug__" : Str)) = false := by decide) (d3 : (x3 == ("__debug__" : Str)) = false := by decide)
    (c0 : (x0 == ("__classdict__" : Str)) = false := by decide) (c1 : (x1 == ("__classdict__" : Str)) = false := by decide) (c2 : (x2 == ("__classdict__" : Str)) = false := by decide) (c3 : (x3 == ("__classdict__" : Str)) = false := by decide) :
    FnOk P w K mg base (CXP P w) 1 f fd [x0, x1, x2, x3] (spXI C [f1, f2, f3]) := by
  refine F.ok S (fun vs H Q E h => ?_) fun cdv A outer s H vs Q E hr h => ?_
  · obtain ⟨a, ws, rfl, hl, _⟩ := h
    rw [List.length_cons, hl]; rfl
  · obtain ⟨a, ws, rfl, hl, ha, q⟩ := h
    match ws, hl with
    | [y, z, u], _ =>
      have v0 := fun pos => pe_var (X := cxOf (CXP P w) P w K mg base [x0, x1, x2, x3] qual scope f cdv A outer s H E) (pos := pos) (i := 0) (x := x0) rfl (.inl l0) d0 c0
      refine ⟨_, pss_cons (ps_ost (v0 _) (pe_var (i := 1) rfl (.inl l1) d1 c1)) (pss_cons (ps_ost (v0 _) (pe_var (i := 2) rfl (.inl l2) d2 c2)) (pss_one (ps_ost (v0 _) (pe_var (i := 3) rfl (.inl l3) d3 c3)))), _, rfl, _, rfl, a, C, rfl, T, h1, .inl ⟨ha, fun dx hd hne => ?_⟩⟩
      refine ⟨_, rfl, _, rfl, a, C, rfl, T, h2, .inr ⟨dx, _, upd_same, by rw [upd_ne hne, upd_same], by show 1 ≤ 900; decide, ?_⟩⟩
      refine ⟨_, rfl, _, rfl, a, C, rfl, T, h3, .inr ⟨dx, _, by rw [upd_ne (Ne.symm hne), upd_same], by rw [upd_same], by show 2 ≤ 900; decide, ?_⟩⟩
      exact q dx _ hne hd (by rw [upd_ne (Ne.symm hne), upd_ne (Ne.symm hne), upd_same]) (by rw [upd_same]; rfl) fun b h1 h2 => by rw [upd_ne h2, upd_ne h2, upd_ne h1, upd_ne h2]
end
/-- an error that has a text alone -/
def bRaiseT (c : Str) (f : SE) : SS := fun ρ => sb (f ρ) ρ fun _ S => some (.exc ρ ⟨c, none⟩, S)
theorem ds_raiseT {c : Str} {x : Str} {C : Addr} {bmB : List Value} {B newId initId : String} {e : Expr} {f : SE} {p pos pos' : Pos} (hc : X.calm = true) (tk : Takes X Wx) (hC : ca c = C)
    (F : ExcBaseFacts B newId initId bmB) (q : PySem.W.excIn X.K C bmB newId = true) (gC : X.mg x = some (.ref C)) (kC : PySem.W.keepIn X.K (.ref C) = true) (r : Raises X (.ref C)) (hg : Gl X x) (he : DE X ca H0 Wx .bor e f)
    (hs : starEach [e] X.env = (false, eval e X.env) :: starEach [] X.env := by rfl) (hdb : (x == ("__debug__" : Str)) = false := by decide) :
    DS X ca H0 Wx mr (.Raise (some (.Call (.Name x p) [e] [] pos)) none pos') (bRaiseT c f) :=
  PS.imp (ps_raise hc tk (SkE.pmk_own1 F q gC kC r hg he hs hdb)) fun D σ H ⟨W, ρ, S, R, o⟩ => ⟨W, ρ, S, R, (OutS.bind R o).imp fun d S' W' H' F R' h v _ =>
    h W' H' σ (.ref C) none (FutG.refl _ _) R' ⟨by rw [hC], rfl⟩⟩
/-! ### try -/
def notEx : Sl → Bool
  | .ex _ => false
  | _ => true
section
variable {K : PySem.W.Frag} {W : Wd} {H : Hp} {σ : L2.St} {ρ : Rho} {S : Sto}
theorem SlotOk.toEx {i : Nat} {v : Option V} {x : Sl} {e : Option (Addr × Value × Option Addr)} (h : SlotOk K ca H0 W H i v x) (hn : H0.ex = none) : SlotOk K ca ⟨H0.h, e⟩ W H i v x := by
  cases x <;> first | exact h | skip
  obtain ⟨a, od, cls, _, z, _⟩ := h
  rw [hn] at z; cases z
theorem SlotOk.ofEx {i : Nat} {v : Option V} {x : Sl} {e : Option (Addr × Value × Option Addr)} (h : SlotOk K ca ⟨H0.h, e⟩ W H i v x) (hn : notEx x = true) : SlotOk K ca H0 W H i v x := by
  cases x <;> first | exact h | cases hn
theorem Rep.toEx {e : Option (Addr × Value × Option Addr)} (R : Rep K ca H0 W H σ ρ S) (hn : H0.ex = none) : Rep K ca ⟨H0.h, e⟩ W H σ ρ S :=
  ⟨R.w, R.s, R.len, fun i x z => by obtain ⟨v, h1, h2⟩ := R.sl i x z; exact ⟨v, h1, h2.toEx hn⟩, R.h0⟩
theorem Rep.ofEx {e : Option (Addr × Value × Option Addr)} (R : Rep K ca ⟨H0.h, e⟩ W H σ ρ S) (hn : ρ.all notEx = true) : Rep K ca H0 W H σ ρ S :=
  ⟨R.w, R.s, R.len, fun i x z => by obtain ⟨v, h1, h2⟩ := R.sl i x z; exact ⟨v, h1, h2.ofEx (List.all_eq_true.mp hn x (List.mem_of_getElem? z))⟩, R.h0⟩
theorem Rep.setO {i : Nat} {v : Option V} {x : Sl} (R : Rep K ca H0 W H σ ρ S) (h : SlotOk K ca H0 W H i v x) : Rep K ca H0 W H (σ.set i v) (ρ.set i x) S where
  w := R.w
  s := R.s
  len := by rw [List.length_set, List.length_set]; exact R.len
  sl := fun j y e => by
    by_cases hj : i = j
    · subst hj
      have hi : i < ρ.length := by
        have z := (List.getElem?_eq_some_iff.mp e).1
        rw [List.length_set] at z; exact z
      rw [List.getElem?_set_self hi] at e; cases e
      exact ⟨v, List.getElem?_set_self (by rw [R.len]; exact hi), h⟩
    · rw [List.getElem?_set_ne hj] at e
      obtain ⟨u, h1, h2⟩ := R.sl j y e
      exact ⟨u, by rw [List.getElem?_set_ne hj]; exact h1, h2⟩
  h0 := R.h0
end
/-- behind the suite: the name is gone -/
def clr (i : Nat) (ρ : Rho) (S : Sto) (k : Rho → SOut) : Option (SOut × Sto) := if (ρ.set i .no).all notEx = true then some (k (ρ.set i .no), S) else none
def suA (i : Nat) (r : Option (SOut × Sto)) : Option (SOut × Sto) := match r with
  | some (.nx ρ, S) => clr i ρ S .nx
  | some (.brk ρ, S) => clr i ρ S .brk
  | some (.cnt ρ, S) => clr i ρ S .cnt
  | some (.ret d, S) => some (.ret d, S)
  | _ => none
def bTryAs (i : Nat) (mx : Str → Option Bool) (fb fs : SS) : SS := fun ρ S => match fb ρ S with
  | some (.exc ρ' x, S') => match mx x.c with
    | none => none
    | some false => some (.exc ρ' x, S')
    | some true => suA i (fs (ρ'.set i (.ex x)) S')
  | r => r
theorem ds_tryAs {x n : Str} {c : Value} {i : Nat} {mx : Str → Option Bool} {body suite : List Stmt} {b₀ : Stmt} {np pos pos' : Pos} {fb fs : SS} (hH : H0.ex = none) (hs : X.stack = X.env :: X.outer) (hf : X.env.frame = some X.env.locals) (hN : X.N.Nodup) (hi : X.N[i]? = some n) (hln : X.env.kindOf n = some .local)
    (hc : Names X x c) (hmx : ∀ d b, mx d = some b → PySem.W.exmOne X.K (.ref (ca d)) c = some b) (tk : Takes X Wx)
    (hb : ∀ (W : WX) (pn : List (Addr × Obj)) (xe : Value → Shared → Prop), Takes (X.tr pn xe) W → PassesOwn (model X.prog X.w) X.A X.env xe → DSs (X.tr pn xe) ca H0 W mr body fb)
    (hsu : ∀ (a : Addr) (oe : Obj) (cls : Value) (d : Option Addr) (pn : List (Addr × Obj)), Zc cls d oe → (∃ vs, oe.data = .fields vs) → DSs (X.suite a ((a, oe) :: pn)) ca ⟨H0.h, some (a, cls, d)⟩ (fun _ _ _ _ => False) mr (b₀ :: suite) fs) :
    DS X ca H0 Wx mr (.Try body [.ExceptHandler (some (.Name x np)) (some n) (b₀ :: suite) pos'] [] [] pos) (bTryAs i mx fb fs) := by
  refine PS.imp (ps_try_as (tb := fun W => tS X.K ca H0 W mr fb) (ts := fun a cls d => tS X.K ca ⟨H0.h, some (a, cls, d)⟩ (fun _ _ _ _ => False) mr fs) hs hf hN hi hln hc tk hb hsu) fun D σ H ⟨W, ρ, S, R, o⟩ => ⟨W, ρ, S, R, ?_⟩
  unfold bTryAs at o
  match e : fb ρ S with
  | none => simp only [e] at o; exact o
  | some (.nx ρ', S') => simp only [e] at o; exact o
  | some (.brk ρ', S') => simp only [e] at o; exact o
  | some (.cnt ρ', S') => simp only [e] at o; exact o
  | some (.ret d, S') => simp only [e] at o; exact o
  | some (.exc ρ' x, S') =>
    simp only [e] at o
    refine fun W' H' σ' cls od F R' xv => ?_
    cases e1 : mx x.c with
    | none => simp only [e1] at o; exact False.elim o
    | some b =>
      have eb := hmx _ _ e1
      refine ⟨b, by rw [xv.1]; exact eb, fun hb a ha => ?_, fun hb => ?_⟩
      · subst hb
        simp only [e1] at o
        refine ⟨W', ρ'.set i (.ex x), S', (R'.toEx (e := some (a, cls, od)) hH).setO ⟨a, od, cls, rfl, rfl, xv⟩, ?_⟩
        have cl : ∀ {k : Rho → SOut} {P : L2.St → Hp → Prop} {ρ2 : Rho} {S2 : Sto}, OutS X.K ca H0 Wx mr W H D (clr i ρ2 S2 k) →
            (∀ ρ3, OutS X.K ca H0 Wx mr W H D (some (k ρ3, S2)) → ∀ W2 H2 σ2, FutS H0 W H W2 H2 → Rep X.K ca H0 W2 H2 σ2 ρ3 S2 → P σ2 H2) →
            ∀ W2 H2 σ2, FutS H0 W' H' W2 H2 → Rep X.K ca ⟨H0.h, some (a, cls, od)⟩ W2 H2 σ2 ρ2 S2 → P (σ2.set i none) H2 := fun {k P ρ2 S2} h g W2 H2 σ2 F2 R2 => by
          unfold clr at h
          by_cases hz : (ρ2.set i .no).all notEx = true
          · rw [if_pos hz] at h
            exact g _ h W2 H2 _ (F.trans F2) (Rep.ofEx (R2.setO (v := none) (x := .no) trivial) hz)
          · rw [if_neg hz] at h; exact False.elim h
        match e2 : fs (ρ'.set i (.ex x)) S' with
        | none => simp only [e2, suA] at o; exact False.elim o
        | some (.nx ρ2, S2) => simp only [e2, suA] at o; exact cl o fun ρ3 h => h
        | some (.brk ρ2, S2) => simp only [e2, suA] at o; exact cl o fun ρ3 h => h
        | some (.cnt ρ2, S2) => simp only [e2, suA] at o; exact cl o fun ρ3 h => h
        | some (.ret d, S2) => simp only [e2, suA] at o; exact fun W2 H2 v F2 w s q => o W2 H2 v (F.trans F2) w s q
        | some (.exc ρ2 z, S2) => simp only [e2, suA] at o; exact False.elim o
      · subst hb
        simp only [e1] at o
        exact o W' H' σ' cls od F R' xv
/-! ### in the suite -/
def exAt (ρ : Rho) (i : Nat) : Option Xc := match ρ[i]? with
  | some (.ex x) => some x
  | _ => none
theorem exAt_eq {ρ : Rho} {i : Nat} {x : Xc} (h : exAt ρ i = some x) : ρ[i]? = some (.ex x) := by
  unfold exAt at h
  split at h
  next x' e => cases h; exact e
  next => cases h
def xField (tb : List Str) (f : Str) (x : Xc) : Option D := if tb.contains x.c = true then x.fs.bind fun l => l.lookup f else none
def sXf (i : Nat) (tb : List Str) (f : Str) : SE := fun ρ S => match exAt ρ i with
  | none => none
  | some x => mo (xField tb f x) S
theorem DFs.look {K : PySem.W.Frag} {h : Hp} {ad : Nat → Option Addr} {n : Str} {d : D} : ∀ {vfs : List (Str × V)} {fs : List (Str × D)}, DFs K ca h ad vfs fs → fs.lookup n = some d → ∃ v, vfs.lookup n = some v ∧ DV K ca h ad v d
  | _, _, .nil, e => by cases e
  | _, _, .cons (k := k) q r, e => by
    rw [List.lookup_cons] at e ⊢
    cases hk : n == k with
    | true => rw [hk] at e; cases e; exact ⟨_, rfl, q⟩
    | false => rw [hk] at e; exact DFs.look r e
theorem de_xf {a : Addr} {oe : Obj} {cls : Value} {d : Option Addr} {pn : List (Addr × Obj)} {h : Hp} {i : Nat} {tb : List Str} {n f : Str} {np pos : Pos} (hz : Zc cls d oe) (hf : ∃ vs, oe.data = .fields vs) (he : PE (X.suite a ((a, oe) :: pn)) (.Name n np) (tVar i))
    (T : ∀ c ∈ tb, XfC X.K (ca c) ∧ PySem.W.findIn X.K (.ref (ca c)) f = some none) (hb : attributeBase (.Name n np) f X.env (eval (.Name n np) X.env) = eval (.Name n np) X.env := by rfl) :
    DE (X.suite a ((a, oe) :: pn)) ca ⟨h, some (a, cls, d)⟩ Wx .frz (.Attribute (.Name n np) f pos) (sXf i tb f) := by
  by_cases hh : ∃ c, c ∈ tb ∧ cls = .ref (ca c)
  · obtain ⟨c, hc, rfl⟩ := hh
    obtain ⟨T1, T2⟩ := T c hc
    refine PE.imp (pe_xf T1 T2 hz hf he hb) fun σ H Q ⟨W, ρ, S, R, o⟩ => ?_
    unfold sXf at o
    cases e1 : exAt ρ i with
    | none => simp only [e1] at o; exact False.elim o
    | some x =>
      simp only [e1] at o
      obtain ⟨v, k1, a', od, cls, k2, k3, k4, k5⟩ := R.sl i _ (exAt_eq e1)
      cases k3
      subst k2
      refine ⟨_, k1, rfl, rfl, ?_⟩
      unfold xField at o
      by_cases hx : tb.contains x.c = true
      · rw [if_pos hx] at o
        cases e2 : x.fs with
        | none => rw [e2] at o; exact False.elim o
        | some fs =>
          rw [e2] at o k5
          obtain ⟨dd, vfs, rfl, k6, k7⟩ := k5
          have o : OutM X.K ca _ Wx W ρ σ H (mo (fs.lookup f) S) _ := o
          cases e3 : fs.lookup f with
          | none => rw [e3] at o; exact False.elim o
          | some y =>
            rw [e3] at o
            obtain ⟨u, k8, k9⟩ := k7.look e3
            exact ⟨dd, vfs, u, rfl, R.w.sub _ _ k6, k8, o W H (FutG.refl _ _) R u k9⟩
      · rw [if_neg hx] at o; exact False.elim o
  · refine ⟨fun pins s σ H Q I ⟨W, ρ, S, R, o⟩ => ?_⟩
    unfold sXf at o
    cases e1 : exAt ρ i with
    | none => simp only [e1] at o; exact False.elim o
    | some x =>
      simp only [e1] at o
      obtain ⟨v, k1, a', od, cls', k2, k3, k4, k5⟩ := R.sl i _ (exAt_eq e1)
      cases k3
      unfold xField at o
      by_cases hx : tb.contains x.c = true
      · exact absurd ⟨x.c, List.contains_iff_mem.mp hx, k4⟩ hh
      · rw [if_neg hx] at o; exact False.elim o
/-- isinstance(e, c), e the exception of the suite -/
theorem call_isD {a D : Addr} {oe : Obj} {d : Option Addr} {pn : List (Addr × Obj)} (C : ExcC X.K D) (hz : Zc (.ref D) d oe) (hf : ∃ vs, oe.data = .fields vs) : CallR (X.suite a ((a, oe) :: pn)) (.builtin "isinstance")
    (fun xs H Q => ∃ (c : Addr) (b : Bool), xs = [.ref a, .ref c] ∧ (d = none ∨ ∃ dd vfs, d = some dd ∧ H dd = some (.xd vfs)) ∧ PySem.W.kitOne X.K (.ref D) (.ref c) = some b ∧ Q (.bl b) H) := by
  intro pins s σ H xs us Q I r h
  obtain ⟨c, b, rfl, hd, e, q⟩ := h
  cases r with
  | cons rx rr =>
    cases rr with
    | cons rt rr =>
      cases rr
      cases rx; cases rt
      obtain ⟨hget, _⟩ := I.pin (a, oe) (List.mem_append.mpr (.inl List.mem_cons_self))
      obtain ⟨vs, hv⟩ := hf
      have J : ∃ od, PySem.W.InstAt s.heap a oe D od := by
        rcases hd with rfl | ⟨dd, vfs, rfl, ed⟩
        · exact ⟨none, hget, hz.1, by unfold PySem.W.notCls; rw [hv] <;> rfl, by rw [hz.2]; trivial⟩
        · have hx : ObjOk X.prog X.w H s.heap dd (.xd vfs) := I.hok dd _ ed
          obtain ⟨mA, hns, hr⟩ := hx
          obtain ⟨od, ho, hl⟩ := lookIn_ns hns
          exact ⟨some od, hget, hz.1, by unfold PySem.W.notCls; rw [hv] <;> rfl, by rw [hz.2]; exact ho⟩
      obtain ⟨od, J⟩ := J
      exact PySem.W.kia_one (PySem.W.dl_kitx C.hg C.hk C.hs C.hd C.ha C.hn C.ht C.hm) I.kIn J e (fun z => nomatch z) fun tk => ⟨.bl b, H, I.kept (t' := tk) fun _ _ z => z, rfl, q⟩
def sIsE (i : Nat) (tb : List (Str × Bool)) : SE := fun ρ S => match exAt ρ i with
  | none => none
  | some x => mo ((tb.lookup x.c).map D.bl) S
theorem mem_of_lookup {β : Type} {c : Str} {b : β} : ∀ {l : List (Str × β)}, l.lookup c = some b → (c, b) ∈ l
  | [], e => by cases e
  | (k, v) :: r, e => by
    rw [List.lookup_cons] at e
    cases hk : c == k with
    | true => rw [hk] at e; cases e; rw [beq_iff_eq.mp hk]; exact List.mem_cons_self
    | false => rw [hk] at e; exact List.mem_cons_of_mem _ (mem_of_lookup e)
theorem de_isE {a C : Addr} {oe : Obj} {cls : Value} {d : Option Addr} {pn : List (Addr × Obj)} {h : Hp} {i : Nat} {tb : List (Str × Bool)} {n x y : Str} {np cp p pos : Pos} (hz : Zc cls d oe) (hf : ∃ vs, oe.data = .fields vs) (he : PE (X.suite a ((a, oe) :: pn)) (.Name n np) (tVar i))
    (hg : Gl X x) (hm : X.mg x = none) (hv : bootBuiltins x = some (.builtin "isinstance")) (hgc : Gl X y) (hmc : X.mg y = some (.ref C)) (T : ∀ p ∈ tb, ExcC X.K (ca p.1) ∧ PySem.W.kitOne X.K (.ref (ca p.1)) (.ref C) = some p.2)
    (hn : x ≠ "__name__" := by decide) (hdb : (x == ("__debug__" : Str)) = false := by decide) (hdc : (y == ("__debug__" : Str)) = false := by decide)
    (hs1 : starEach [.Name n np, .Name y cp] X.env = (false, eval (.Name n np) X.env) :: starEach [.Name y cp] X.env := by rfl) (hs2 : starEach [.Name y cp] X.env = (false, eval (.Name y cp) X.env) :: starEach [] X.env := by rfl)
    (hpl : (backTo pos (starEach [.Name y cp] X.env)).any (·.1) = false := by rfl) :
    DE (X.suite a ((a, oe) :: pn)) ca ⟨h, some (a, cls, d)⟩ Wx .frz (.Call (.Name x p) [.Name n np, .Name y cp] [] pos) (sIsE i tb) := by
  by_cases hh : ∃ q, q ∈ tb ∧ cls = .ref (ca q.1)
  · obtain ⟨q, hq, rfl⟩ := hh
    obtain ⟨T1, T2⟩ := T q hq
    refine PE.imp (pe_callB (X := X.suite a ((a, oe) :: pn)) (call_isD T1 hz hf) hg hm hv (pa_cons he (pa_cons (pe_glob (v := .ref C) hgc hmc rfl hdc) pa_nil hs2) hs1) hn hdb hs1 hpl) fun σ H Q ⟨W, ρ, S, R, o⟩ => ?_
    unfold sIsE at o
    cases e1 : exAt ρ i with
    | none => simp only [e1] at o; exact False.elim o
    | some x =>
      simp only [e1] at o
      obtain ⟨v, k1, a', od, cls, k2, k3, k4, k5⟩ := R.sl i _ (exAt_eq e1)
      cases k3
      subst k2
      cases e2 : tb.lookup x.c with
      | none => rw [e2] at o; exact False.elim o
      | some b =>
        rw [e2] at o
        obtain ⟨T3, T4⟩ := T _ (mem_of_lookup e2)
        have T4 : PySem.W.kitOne X.K (.ref (ca x.c)) (.ref C) = some b := T4
        have k4 : ca q.1 = ca x.c := Value.ref.inj k4
        refine ⟨_, k1, C, b, rfl, ?_, by rw [k4]; exact T4, o W H (FutG.refl _ _) R _ (.bl b)⟩
        cases e3 : x.fs with
        | none => rw [e3] at k5; exact .inl k5
        | some fs =>
          rw [e3] at k5
          obtain ⟨dd, vfs, k6, k7, _⟩ := k5
          exact .inr ⟨dd, vfs, k6, R.w.sub _ _ k7⟩
  · refine ⟨fun pins s σ H Q I ⟨W, ρ, S, R, o⟩ => ?_⟩
    unfold sIsE at o
    cases e1 : exAt ρ i with
    | none => simp only [e1] at o; exact False.elim o
    | some x =>
      simp only [e1] at o
      obtain ⟨v, k1, a', od, cls', k2, k3, k4, k5⟩ := R.sl i _ (exAt_eq e1)
      cases k3
      cases e2 : tb.lookup x.c with
      | none => rw [e2] at o; exact False.elim o
      | some b => exact absurd ⟨_, mem_of_lookup e2, k4⟩ hh
end
end DL

/-! DL10: calls with keywords, calls of defs without arguments. -/
namespace DL
open PySem PySem.Spec PyProof.Rows L2
section
variable {K : PySem.W.Frag} {x qual : Str} {params : Arguments} {body : List Stmt} {scope : Scope} {dvs : List V} {kws : List (Str × V)} {f : Addr} {fd : FuncData} {ps : List Str}
/-- n values, then all the rest by name, in order -/
theorem FunD.kall (F : FunD K x qual params body scope dvs kws f fd) (n : Nat) (ks : List Str) (hd : dvs ≠ [])
    (h : ∀ (T : Addr) (kV doc pm : Value) (an : Option Addr) (cdv ct : Value) (us its ws : List Value), us.length = n → its.length = dvs.length → ws.length = ks.length →
      ∃ k, bindArgs (PySem.W.fnOf x qual params body scope (.ref T) kV doc pm an cdv ct) ⟨us, ks.zip ws⟩ = seqItems? (.ref T) >>= k ∧ k (some its.toArray) = pure (ps.zip (us ++ ws))) : KBn K fd ps n ks (fun us ws => us ++ ws) (fun vs zs => vs ++ zs) := by
  obtain ⟨oc, od, dV, kV, doc, pm, an, cdv, ct, osl, rfl, lk, hcd, hD, hK⟩ := F.ex
  rcases hD with ⟨e, _⟩ | ⟨_, T, o, its, m, rfl, lT, oT, rT⟩
  · exact absurd e hd
  · refine ⟨fun s us ws X l1 l2 => ?_, fun r1 r2 => r1.append r2⟩
    obtain ⟨k, e1, e2⟩ := h T kV doc pm an cdv ct us its ws l1 rT.length.symm l2
    refine BindsTo.of_looks fun M => ?_
    rw [e1]
    exact looks_items X lT oT (.of_pure e2)
theorem FunD.kall0 (F : FunD K x qual params body scope [] kws f fd) (n : Nat) (ks : List Str)
    (h : ∀ (kV doc pm : Value) (an : Option Addr) (cdv ct : Value) (us ws : List Value), us.length = n → ws.length = ks.length →
      bindArgs (PySem.W.fnOf x qual params body scope .none kV doc pm an cdv ct) ⟨us, ks.zip ws⟩ = pure (ps.zip (us ++ ws))) : KBn K fd ps n ks (fun us ws => us ++ ws) (fun vs zs => vs ++ zs) := by
  obtain ⟨oc, od, dV, kV, doc, pm, an, cdv, ct, osl, rfl, lk, hcd, hD, hK⟩ := F.ex
  rcases hD with ⟨_, rfl⟩ | ⟨e, _⟩
  · exact ⟨fun s us ws X l1 l2 => .of_eq (h kV doc pm an cdv ct us ws l1 l2), fun r1 r2 => r1.append r2⟩
  · exact absurd rfl e
end
theorem run_GN {X : Cx} {k n : Nat} {f : Addr} {fd : FuncData} {ps ks : List Str} {sp : Sp} {E : L2.St → XK} {pins : List (Addr × Obj)} {σ : L2.St} {H : Hp} {s : Shared} {Q : VK} {us ws : List Value} {vs zs : List V} {g : List Value → List Value → List Value} {gV : List V → List V → List V}
    (F : FnG X.prog X.w X.K X.mg X.base k f fd ps sp) (hg : X.A.guards = some []) (hr : Room k X.A) (hb : KBn X.K fd ps n ks g gV) (hx : PassesAt (CXP X.prog X.w) X σ (E σ))
    (I : Inv X pins σ H s) (r : Vals vs us) (rz : Vals zs ws) (l1 : vs.length = n) (l2 : zs.length = ks.length) (h : sp (gV vs zs) H Q (E σ)) : wpAny (model X.prog X.w) X.A (call (.ref f) us (ks.zip ws)) (EP X pins σ Q) X.xe s := by
  refine wpAny_call (codeAny_mono (F.go X.A X.stack s H ⟨us, ks.zip ws⟩ (g us ws) (gV vs zs) Q (E σ) hg hr I.env0 (hb.to s us ws I.kIn (r.length.symm.trans l1) (rz.length.symm.trans l2)) (hb.rel r rz) h) ?_)
  intro res s' hq
  match res, hq with
  | .error e, hq => exact hx pins H s e s' I hq
  | .ok (.ret u), hq => exact I.after hq
def tCallNS (n m : Nat) (sp : Sp) (gV : List V → List V → List V) (E : L2.St → XK) (t tk : TA) : TE := fun σ H Q => t σ H fun vs H1 => tk σ H1 fun zs H2 => vs.length = n ∧ zs.length = m ∧ sp (gV vs zs) H2 Q (E σ)
theorem pe_callGN {X : Cx} {k n : Nat} {f : Addr} {fd : FuncData} {ps ks : List Str} {sp : Sp} {E : L2.St → XK} {x : Str} {p pos : Pos} {e : Expr} {es : List Expr} {kws : List Keyword} {t tk : TA} {g : List Value → List Value → List Value} {gV : List V → List V → List V}
    (F : FnG X.prog X.w X.K X.mg X.base k f fd ps sp) (hG : X.A.guards = some []) (hr : Room k X.A) (hg : Gl X x) (hm : X.mg x = some (.ref f)) (hk : PySem.W.keepIn X.K (.ref f) = true) (hb : KBn X.K fd ps n ks g gV) (hx : ∀ σ, PassesAt (CXP X.prog X.w) X σ (E σ))
    (ha : PA X (e :: es) t) (hkw : PK X kws tk) (hall : (backToKw pos (keywordEach kws X.env)).all (·.1.isSome) = true := by rfl) (hks : (backToKw pos (keywordEach kws X.env)).filterMap (·.1) = ks := by rfl)
    (hdb : (x == ("__debug__" : Str)) = false := by decide) (he : starEach (e :: es) X.env = (false, eval e X.env) :: starEach es X.env := by rfl)
    (hpl : ((backTo pos (starEach (e :: es) X.env)).any (·.1) || (backToKw pos (keywordEach kws X.env)).any (·.1.isNone)) = false := by rfl) :
    PE X (.Call (.Name x p) (e :: es) kws pos) (tCallNS n ks.length sp gV E t tk) :=
  ⟨fun pins s σ H Q I h => wpAny_Call_Name_kw (ld_glob I hg hm (PySem.W.callWith_KW (h₀ := X.base) I.ok.mod.kin hk hall (thn (ha.run pos pins s σ H _ I h) fun us s1 ⟨vs, H1, I1, r, q⟩ =>
    thn (hkw.run pos pins s1 σ H1 _ I1 q) fun ws s2 ⟨zs, H2, I2, rz, l1, l2, q2⟩ => ⟨I2.kIn, by rw [hks]; exact run_GN F hG hr hb (hx σ) I2 r rz l1 l2 q2⟩) hpl he) hdb)⟩
abbrev DPm (X : Cx) (ca : Ca) (H0 : Bs) (Wx : WX) (ms : List Md) (kws : List Keyword) (f : SA) : Prop := PK X kws (tAm X.K ca H0 Wx ms f)
theorem PK.imp {X : Cx} {e : List Keyword} {t t' : TA} (h : PK X e t) (i : ∀ σ H Q, t' σ H Q → t σ H Q) : PK X e t' := ⟨fun pos pins s σ H Q I q => h.run pos pins s σ H Q I (i σ H Q q)⟩
section
variable {X : Cx} {ca : Ca} {H0 : Bs} {Wx : WX} {mr : Md}
theorem dpm_nil : DPm X ca H0 Wx [] [] sNil := PK.imp pk_nil fun σ H Q ⟨W, ρ, S, R, o⟩ => OutM.re R o [] .nil
theorem dpm_cons {m : Md} {ms : List Md} {e : Expr} {kws : List Keyword} {nm : Option Str} {kpos : Pos} {fe : SE} {fr : SA} (he : DE X ca H0 Wx m e fe) (hr : DPm X ca H0 Wx ms kws fr) (hm : m ≠ .fre := by decide) : DPm X ca H0 Wx (m :: ms) (⟨nm, e, kpos⟩ :: kws) (sCons fe fr) := by
  refine PK.imp (pk_cons he hr) fun σ H Q ⟨W, ρ, S, R, o⟩ => ⟨W, ρ, S, R, (OutM.bind o).imp fun d S1 W1 H1 F1 R1 h1 x D1 => ⟨W1, ρ, S1, R1, (OutM.bind h1).imp fun ds S2 W2 H2 F2 R2 h2 xs D2 => ?_⟩⟩
  exact OutM.re R2 h2 (x :: xs) (.cons (DR.later hm F2 D1) (DRm.older F1.dom D2))
theorem DRm.later {K : PySem.W.Frag} {H H1 H2 : Hp} {W1 W2 : Wd} (f : Fut W1 H1 W2 H2) : ∀ {ms : List Bool} {vs : List V} {ds : List D}, DRm K ca H W1 H1 (ms.map pmd) vs ds → DRm K ca H W2 H2 (ms.map pmd) vs ds
  | [], _, _, .nil => .nil
  | true :: _, _, _, .cons q r => .cons (DR.later (by decide) f q) (DRm.later f r)
  | false :: _, _, _, .cons q r => .cons (DR.later (by decide) f q) (DRm.later f r)
theorem DRm.length {K : PySem.W.Frag} {H H1 : Hp} {W1 : Wd} : ∀ {ms : List Md} {vs : List V} {ds : List D}, DRm K ca H W1 H1 ms vs ds → vs.length = ms.length
  | _, _, _, .nil => rfl
  | _, _, _, .cons _ r => congrArg (· + 1) (DRm.length r)
def sCallN (sem : Sem1) (fa fk : SA) : SE := fun ρ => mb (fa ρ) fun ds => mb (fk ρ) fun es S => sem (ds ++ es) S
theorem de_callN {k : Nat} {f : Addr} {fd : FuncData} {ps ks : List Str} {ms ns : List Bool} {sem : Sem1} {x : Str} {p pos : Pos} {e : Expr} {es : List Expr} {kws : List Keyword} {fa fk : SA}
    (F : FnG X.prog X.w X.K X.mg X.base k f fd ps (spD X.K ca (ms ++ ns) mr sem)) (hG : X.A.guards = some []) (hr : Room k X.A) (hg : Gl X x) (hm : X.mg x = some (.ref f)) (hk : PySem.W.keepIn X.K (.ref f) = true) (hb : KBn X.K fd ps ms.length ks (fun us ws => us ++ ws) (fun vs zs => vs ++ zs))
    (tk : Takes X Wx) (ha : DAm X ca H0 Wx (ms.map pmd) (e :: es) fa) (hkw : DPm X ca H0 Wx (ns.map pmd) kws fk) (hn : ns.length = ks.length := by rfl)
    (hmr : mr = .frz ∨ mr = .fre := by first | exact .inl rfl | exact .inr rfl) (hall : (backToKw pos (keywordEach kws X.env)).all (·.1.isSome) = true := by rfl) (hks : (backToKw pos (keywordEach kws X.env)).filterMap (·.1) = ks := by rfl)
    (hdb : (x == ("__debug__" : Str)) = false := by decide) (he : starEach (e :: es) X.env = (false, eval e X.env) :: starEach es X.env := by rfl)
    (hpl : ((backTo pos (starEach (e :: es) X.env)).any (·.1) || (backToKw pos (keywordEach kws X.env)).any (·.1.isNone)) = false := by rfl) :
    DE X ca H0 Wx mr (.Call (.Name x p) (e :: es) kws pos) (sCallN sem fa fk) := by
  refine PE.imp (pe_callGN (E := WE Wx) F hG hr hg hm hk hb (fun σ => passAt tk σ) ha hkw hall hks hdb he hpl) fun σ H Q ⟨W, ρ, S, R, o⟩ => ⟨W, ρ, S, R, (OutM.bind o).imp fun as S1 W1 H1 F1 R1 h1 vs D1 => ⟨W1, ρ, S1, R1, ?_⟩⟩
  have o1 := OutM.bind h1
  cases e1 : fk ρ S1 with
  | none => rw [e1] at o1; exact o1.elim
  | some pr =>
    obtain ⟨ex, S2⟩ := pr
    rw [e1] at o1
    cases ex with
    | error z => exact o1
    | ok bs =>
      refine fun W2 H2 F2 R2 zs D2 => ⟨by rw [D1.length, List.length_map], by rw [D2.length, List.length_map]; exact hn, W2.cal, as ++ bs, S2, R2.w.cal, R2.s.cal, fun a p h => ?_, (Bos.args R2.w (DRm.later F2 D1)).app (Bos.args R2.w D2), ?_⟩
      · by_cases c : calmO (W2.ow a) = true
        · rw [cal_calm c] at h; cases h
        · rw [cal_ob (by simpa using c)] at h
          rw [← h]; simpa using c
      · exact outF_of (Hr := H) hmr R2 ((o1 W2 H2 F2 R2).imp fun d S3 W3 H3 F3 R3 q v r => q v (DR.older (fun a o ha => (Fut.trans' F1 F2).dom a o ha) r))
/-- a def that takes nothing, or whose parameters all have defaults -/
theorem de_call0 {k : Nat} {f : Addr} {fd : FuncData} {ps : List Str} {ns : List Bool} {sem : Sem1} {dvs : List V} {ds : List Value} {dds : List D} {x : Str} {p pos : Pos}
    (F : FnG X.prog X.w X.K X.mg X.base k f fd ps (spD X.K ca ns mr sem)) (hG : X.A.guards = some []) (hr : Room k X.A) (hg : Gl X x) (hm : X.mg x = some (.ref f)) (hk : PySem.W.keepIn X.K (.ref f) = true) (hb : Binds X.K fd ps ds) (hd : Vals dvs ds)
    (hq : DVs X.K ca (fun _ => none) (fun _ => none) dvs dds) (hs : dds.all isScal = true) (tk : Takes X Wx) (hn : ns.length = dds.length)
    (hmr : mr = .frz ∨ mr = .fre := by first | exact .inl rfl | exact .inr rfl) (hdb : (x == ("__debug__" : Str)) = false := by decide) :
    DE X ca H0 Wx mr (.Call (.Name x p) [] [] pos) (sCallU sem dds sNil) := by
  refine PE.imp (pe_callG0 (E := WE Wx) F hG hr hg hm hk hb hd (fun σ => passAt tk σ) hdb) fun σ H Q ⟨W, ρ, S, R, o⟩ => ?_
  refine ⟨W.cal, dds, S, R.w.cal, R.s.cal, fun a p h => ?_, (show Bos X.K ca W.cal H ns ([] ++ dvs) dds from Bos.cons_ ns hn hq hs), ?_⟩
  · by_cases c : calmO (W.ow a) = true
    · rw [cal_calm c] at h; cases h
    · rw [cal_ob (by simpa using c)] at h
      rw [← h]; simpa using c
  · exact outF_of (Hr := H) hmr R o
end
end DL

/-! DL11: a def by its promise, small words, the law's end. -/
namespace DL
open PySem PySem.Spec PyProof.Rows L2
/-! ### what stands of a def that is called -/
/-- x can be called: j of its defaults left out or not; ks: by keyword -/
structure CalF (P : Program) (w : World) (K : PySem.W.Frag) (mg : Str → Option Value) (base : Heap) (ca : Ca) (x : Str) (k : Nat) (ms : List Bool) (mr : Md) (sem : Sem1) (dds : List D) (kns : List (List Str)) : Prop where
  ex : ∃ (a : Addr) (fd : FuncData) (ps : List Str), mg x = some (.ref a) ∧ PySem.W.keepIn K (.ref a) = true ∧ FnG P w K mg base k a fd ps (spD K ca ms mr sem) ∧
    (∀ j, j ≤ dds.length → ∃ dvs ds, Vals dvs ds ∧ Binds K fd ps ds ∧ DVs K ca (fun _ => none) (fun _ => none) dvs (dds.drop j)) ∧
    (∀ ks, ks ∈ kns → KBn K fd ps (ms.length - ks.length) ks (fun us ws => us ++ ws) (fun vs zs => vs ++ zs))
  sc : dds.all isScal = true
theorem CalF.sem' {P : Program} {w : World} {K : PySem.W.Frag} {mg : Str → Option Value} {base : Heap} {ca : Ca} {x : Str} {k : Nat} {ms : List Bool} {mr : Md} {sem sem' : Sem1} {dds : List D} {kns : List (List Str)} (C : CalF P w K mg base ca x k ms mr sem dds kns)
    (h : ∀ ds S r, sem' ds S = some r → sem ds S = some r) : CalF P w K mg base ca x k ms mr sem' dds kns := by
  obtain ⟨⟨a, fd, ps, h1, h2, h3, h4, h5⟩, h6⟩ := C
  exact ⟨⟨a, fd, ps, h1, h2, h3.sem h, h4, h5⟩, h6⟩
section
variable {X : Cx} {ca : Ca} {H0 : Bs} {Wx : WX} {mr m : Md}
theorem all_drop {α : Type} {p : α → Bool} {l : List α} (h : l.all p = true) (j : Nat) : (l.drop j).all p = true :=
  List.all_eq_true.mpr fun x hx => List.all_eq_true.mp h x (List.mem_of_mem_drop hx)
theorem de_callF {k : Nat} {ms : List Bool} {sem : Sem1} {dds : List D} {kns : List (List Str)} {x : Str} {p pos : Pos} {e : Expr} {es : List Expr} {fa : SA} (n j : Nat)
    (C : CalF X.prog X.w X.K X.mg X.base ca x k ms mr sem dds kns) (hG : X.A.guards = some []) (hr : Room k X.A) (hg : Gl X x) (tk : Takes X Wx) (ha : DAm X ca H0 Wx ((ms.take n).map pmd) (e :: es) fa)
    (hj : j ≤ dds.length := by decide) (hn : (ms.drop n).length = (dds.drop j).length := by rfl)
    (hmr : mr = .frz ∨ mr = .fre := by first | exact .inl rfl | exact .inr rfl)
    (hdb : (x == ("__debug__" : Str)) = false := by decide) (he : starEach (e :: es) X.env = (false, eval e X.env) :: starEach es X.env := by rfl) (hpl : (backTo pos (starEach es X.env)).any (·.1) = false := by rfl) :
    DE X ca H0 Wx mr (.Call (.Name x p) (e :: es) [] pos) (sCallU sem (dds.drop j) fa) := by
  obtain ⟨⟨a, fd, ps, h1, h2, h3, h4, h5⟩, h6⟩ := C
  obtain ⟨dvs, ds, k1, k2, k3⟩ := h4 j hj
  rw [← List.take_append_drop n ms] at h3
  exact de_call h3 hG hr hg h1 h2 k2 k1 k3 (all_drop h6 j) tk ha hn hmr hdb he hpl
theorem de_callF0 {k : Nat} {ms : List Bool} {sem : Sem1} {dds : List D} {kns : List (List Str)} {x : Str} {p pos : Pos}
    (C : CalF X.prog X.w X.K X.mg X.base ca x k ms mr sem dds kns) (hG : X.A.guards = some []) (hr : Room k X.A) (hg : Gl X x) (tk : Takes X Wx) (hn : ms.length = dds.length := by rfl)
    (hmr : mr = .frz ∨ mr = .fre := by first | exact .inl rfl | exact .inr rfl) (hdb : (x == ("__debug__" : Str)) = false := by decide) :
    DE X ca H0 Wx mr (.Call (.Name x p) [] [] pos) (sCallU sem dds sNil) := by
  obtain ⟨⟨a, fd, ps, h1, h2, h3, h4, h5⟩, h6⟩ := C
  obtain ⟨dvs, ds, k1, k2, k3⟩ := h4 0 (Nat.zero_le _)
  rw [List.drop_zero] at k3
  exact de_call0 h3 hG hr hg h1 h2 k2 k1 k3 h6 tk hn hmr hdb
theorem de_callFN {k : Nat} {ms ns : List Bool} {sem : Sem1} {dds : List D} {kns : List (List Str)} {x : Str} {p pos : Pos} {e : Expr} {es : List Expr} {kws : List Keyword} {fa fk : SA} (ks : List Str)
    (C : CalF X.prog X.w X.K X.mg X.base ca x k (ms ++ ns) mr sem dds kns) (hG : X.A.guards = some []) (hr : Room k X.A) (hg : Gl X x) (tk : Takes X Wx) (ha : DAm X ca H0 Wx (ms.map pmd) (e :: es) fa) (hkw : DPm X ca H0 Wx (ns.map pmd) kws fk) (hk : ks ∈ kns := by decide)
    (hn : ns.length = ks.length := by rfl) (hmr : mr = .frz ∨ mr = .fre := by first | exact .inl rfl | exact .inr rfl) (hall : (backToKw pos (keywordEach kws X.env)).all (·.1.isSome) = true := by rfl) (hks : (backToKw pos (keywordEach kws X.env)).filterMap (·.1) = ks := by rfl)
    (hdb : (x == ("__debug__" : Str)) = false := by decide) (he : starEach (e :: es) X.env = (false, eval e X.env) :: starEach es X.env := by rfl)
    (hpl : ((backTo pos (starEach (e :: es) X.env)).any (·.1) || (backToKw pos (keywordEach kws X.env)).any (·.1.isNone)) = false := by rfl) :
    DE X ca H0 Wx mr (.Call (.Name x p) (e :: es) kws pos) (sCallN sem fa fk) := by
  obtain ⟨⟨a, fd, ps, h1, h2, h3, h4, h5⟩, h6⟩ := C
  have hb := h5 ks hk
  rw [List.length_append, hn, Nat.add_sub_cancel] at hb
  exact de_callN h3 hG hr hg h1 h2 hb tk ha hkw hn hmr hall hks hdb he hpl
/-! ### small words -/
/-- a scalar stands in any way -/
def sScal (f : SE) : SE := fun ρ => mb (f ρ) fun d => if isScal d = true then mp d else mf
theorem de_scal {e : Expr} {f : SE} (h : DE X ca H0 Wx .frz e f) : DE X ca H0 Wx m e (sScal f) :=
  PE.imp h fun σ H Q ⟨W, ρ, S, R, o⟩ => ⟨W, ρ, S, R, (OutM.bind o).imp fun d S1 W1 H1 F1 R1 h1 x D1 => by
    by_cases hs : isScal d = true
    · rw [if_pos hs] at h1
      exact OutM.re R1 h1 x (DR.scal hs D1)
    · rw [if_neg hs] at h1; exact False.elim h1⟩
def sNeg (f : SE) : SE := fun ρ => mb (f ρ) fun d => mo ((asInt d).map fun i => .int (-i))
theorem de_neg {e : Expr} {f : SE} {pos : Pos} (h : DE X ca H0 Wx .frz e f) : DE X ca H0 Wx m (.UnaryOp .USub e pos) (sNeg f) :=
  PE.imp (pe_un un_neg h) fun σ H Q ⟨W, ρ, S, R, o⟩ => ⟨W, ρ, S, R, (OutM.bind o).imp fun d S1 W1 H1 F1 R1 h1 x D1 => by
    cases e : asInt d with
    | none => rw [e] at h1; exact False.elim h1
    | some i =>
      rw [e] at h1
      rw [asInt_eq e] at D1
      exact ⟨i, DV.ofInt D1, OutM.re R1 h1 _ (DR.scal rfl (.int _))⟩⟩
theorem Room.u65 {k : Nat} {A : Around} (r : Room k A) : A.units + 65 < cLine := by have := r.un; omega
end
/-! ### the end -/
section
variable {P : Program} {w : World} {K : PySem.W.Frag} {mg mb : Str → Option Value} {k : Nat} {fa a : Addr} {fd : FuncData} {x : Str} {sp : Sp} {s₁ : Shared} {vs : List Value} {ns : List Int}
theorem law_end (KX : K.In s₁.heap) (hns : s₁.heap.Ns mainGlobals mg) (hb : s₁.heap.Ns builtinsNs mb) (hbb : ∀ x : Str, x ≠ "__name__" → mb x = bootBuiltins x) (hlim : s₁.heap.NoLimit) (hg : s₁.gens = #[])
    (ha : s₁.heap.get? a = some { cls := .type "list", data := .seq vs.toArray }) (hi : IntsAre vs ns) (hl : ns.length ≤ sizeLine) (hr : Room k callerA) (F : ∀ base : Heap, K.In base → base.Ns mainGlobals mg → FnG P w K mg base k fa fd [x] sp)
    (hbind : ∀ (s : Shared) (u : Value), BindsTo s fd ⟨[u], []⟩ [(x, u)]) (hsp : ∀ H : Hp, Only H → SqL K H a (ns.map V.int) → sp [.ref a] H (fun v _ => v = .bl true) fun _ _ _ => False) :
    codeAny (model P w) callerA (.call (.ref fa) ⟨[.ref a], []⟩) (fun r s' => r = .ok (.ret (.bool true)) ∧ OldK s₁.heap s'.heap ∧ s'.os = s₁.os ∧ AllBare s'.gens) s₁ := by
  have rv := vals_ints hi
  have nl := hi.length
  have main : ∀ H : Hp, Only H → SqL K H a (ns.map V.int) → HOk P w H s₁.heap → (∀ b u, H b = some u → b = a ∧ K.lookup a = none) →
      codeAny (model P w) callerA (.call (.ref fa) ⟨[.ref a], []⟩) (fun r s' => r = .ok (.ret (.bool true)) ∧ OldK s₁.heap s'.heap ∧ s'.os = s₁.os ∧ AllBare s'.gens) s₁ := by
    intro H hO hS hok hA
    have un : ∀ {b : Addr}, (b = a → False) → H b = none := fun {b} z => by
      cases q : H b with
      | none => rfl
      | some u => exact (z (hA b u q).1).elim
    have nsB : ∀ {b : Addr} {m : Str → Option Value}, s₁.heap.Ns b m → (hidT s₁.heap H).Ns b m := fun {b m} ⟨o, es, ep, e, dd, r⟩ => ⟨o, es, ep, hidT_get e (un fun z => by
      rw [z, ha] at e; cases e
      exact Data.noConfusion dd), dd, r⟩
    have KB : K.In (hidT s₁.heap H) := fun b o e => hidT_get (KX b o e) (by
      cases q : H b with
      | none => rfl
      | some u =>
        obtain ⟨z1, z2⟩ := hA b u q
        rw [z1, z2] at e; cases e)
    obtain ⟨mc, g1, g2⟩ := hlim
    have M : Mod K mg (hidT s₁.heap H) := ⟨KB, nsB hns, ⟨mb, nsB hb, hbb⟩, ⟨mc, nsB g1, g2⟩⟩
    have e0 : Env0 P w K mg (hidT s₁.heap H) callerA [] s₁ H := ⟨rfl, M, fun b o e => of_hidT e, Nat.le_of_eq (hidT_size _ _), trivial, fun b z => absurd z List.not_mem_nil, hok, .of_eq hg⟩
    have run := (F _ KB (nsB hns)).go callerA [] s₁ H ⟨[.ref a], []⟩ [.ref a] [.ref a] _ _ rfl hr e0 (hbind s₁ (.ref a)) (.cons rfl .nil) (hsp H hO hS)
    refine codeAny_mono run fun r s' h => ?_
    match r, h with
    | .error e, h =>
      obtain ⟨_, _, _, _, _, _, _, _, _, _, _, _, z⟩ := h
      exact z.elim
    | .ok (.ret u), h =>
      obtain ⟨v, H', os, bare, un, hok', r', q⟩ := h
      obtain rfl : v = .bl true := q
      obtain rfl : u = Value.bool true := r'
      refine ⟨rfl, OldK.of_keep fun b o e => ?_, os, bare⟩
      cases q : H b with
      | none => exact un.keep b o e q List.not_mem_nil List.not_mem_nil
      | some u =>
        rcases hO b with z | ⟨ob, xs, z⟩
        · rw [q] at z; cases z
        · obtain ⟨e1, _⟩ := hok b _ z
          obtain ⟨e2, _⟩ := hok' b _ (un.frzs b ob _ z)
          rw [e] at e1; cases e1; exact e2
  cases hk : K.lookup a with
  | some o =>
    have e := (KX a o hk).symm.trans ha
    cases e
    have sq : SqL K (fun _ => none) a (ns.map V.int) := .inr ⟨_, vs.toArray, _, hk, rfl, rfl, rfl, by rw [List.size_toArray, nl]; exact hl, by simpa using rv⟩
    exact main (fun _ => none) (fun _ => .inl rfl) sq (fun b u z => nomatch z) (fun b u z => nomatch z)
  | none =>
    have sq : ∀ o, SqL K (upd (fun _ => none) a (.frz o (.lst (ns.map V.int)))) a (ns.map V.int) := fun o => .inl (.inr ⟨o, upd_same⟩)
    refine main _ (fun b => ?_) (sq { cls := .type "list", data := .seq vs.toArray }) (fun b u z => ?_) (fun b u z => ?_)
    · by_cases h : b = a
      · subst h; exact .inr ⟨_, _, upd_same⟩
      · exact .inl (upd_ne h)
    · by_cases h : b = a
      · subst h
        rw [upd_same] at z; cases z
        exact ⟨ha, by rw [List.length_map]; exact hl, vs, _, rv, ha⟩
      · rw [upd_ne h] at z; cases z
    · by_cases h : b = a
      · exact ⟨h, hk⟩
      · rw [upd_ne h] at z; cases z
end
/-- the law's def is handed the script, a list of ints, and returns True -/
theorem walk_end {l : PySem.W.OpenLaw} {n k : Nat} {q : Program} {loose : List Str} {XP : (Str → Option Value) → Heap → Prop} {YP : World → Heap → Prop} {d : DefRec} {K : Params → PySem.W.Frag} {x : Str} {sem : Sem1} {mr : Md}
    (hn : l.most = some n) (hn2 : n ≤ sizeLine) (hdf : d.params.defaults = []) (hr : Room k callerA) (hY : ∀ (w : World) (h : Heap), YP w h → (K w.params).In h)
    (F : ∀ (w : World) (mg : Str → Option Value) (fa : Addr) (h : Heap), (K w.params).In h → h.Ns mainGlobals mg → mg d.name = some (.ref fa) →
      ∃ (fd : FuncData) (ca : Ca), (∀ (s : Shared) (u : Value), BindsTo s fd ⟨[u], []⟩ [(x, u)]) ∧ ∀ base : Heap, (K w.params).In base → base.Ns mainGlobals mg → FnG l.prog w (K w.params) mg base k fa fd [x] (spD (K w.params) ca [true] mr sem))
    (hmr : mr = .frz) (hs : ∀ ns : List Int, ns.length ≤ n → (∀ z ∈ ns, Builtin.Int.intBits z ≤ 1048576) → ∃ S', sem [.rol (ns.map D.int)] [] = some (.ok (.bl true), S')) :
    PySem.W.WalkO q loose XP YP l.row.toRowW d [] (fun f vs => PySem.call f vs) := by
  refine Att.attach_callB hn hdf fun w s₀ s₁ mg mb fa o pm cd doc a vs ns G Y ho hd hcd hmg hobj hints hlen hbits hg => ?_
  have KX := hY w _ Y
  obtain ⟨fd, ca, hb, hF⟩ := F w mg fa _ KX G.T.g hmg
  refine law_end KX G.T.g G.T.b G.T.builtins G.T.nolimit hg hobj hints (Nat.le_trans hlen hn2) hr hF hb fun H hO hS => ?_
  obtain ⟨S', e⟩ := hs ns hlen hbits
  have nt : ∀ b xs, H b ≠ some (HO.tup xs) := fun b xs z => by
    rcases hO b with q | ⟨_, _, q⟩ <;> (rw [q] at z; cases z)
  refine ⟨⟨H, fun _ => none, fun _ => none⟩, [.rol (ns.map D.int)], [], ⟨fun _ _ h => h, fun b xs z => absurd z (nt b xs), fun _ _ h => (nomatch h), fun _ _ h => (nomatch h)⟩, ⟨fun n ob h => by simp at h, fun _ _ => rfl⟩, fun _ _ h => (nomatch h), .kept (.rol hS (DVs.ints ns)) .nil, ?_⟩
  rw [e]
  subst hmr
  exact fun W' H' v _ _ _ r => DV.ofBl r
end DL

/-! DL12: what the top has written, by name. -/
namespace DL
open PySem PySem.Spec PyProof.Rows L2
/-- a constant of the module -/
def GlC (K : PySem.W.Frag) (mg : Str → Option Value) (ca : Ca) (x : Str) (d : D) : Prop := ∃ u v, mg x = some u ∧ RelV v u ∧ DV K ca (fun _ => none) (fun _ => none) v d
/-- an error class with an own __init__ that keeps fs -/
def ExI (P : Program) (w : World) (K : PySem.W.Frag) (mg : Str → Option Value) (base : Heap) (ca : Ca) (c : Str) (fs : List Str) : Prop :=
  ∃ (C fI : Addr) (fd : FuncData) (ps : List Str), ca c = C ∧ mg c = some (.ref C) ∧ OexC K C ∧ PySem.W.findIn K (.ref C) "__init__" = some (some (.ref fI)) ∧ PySem.W.typeIn K (.ref fI) = some (.type "function") ∧
    FnOk P w K mg base (CXP P w) 1 fI fd ps (spXI C fs) ∧ Binds K fd ps []
/-- an error class of texts -/
def ExT (K : PySem.W.Frag) (mg : Str → Option Value) (ca : Ca) (c : Str) : Prop :=
  ∃ (C : Addr) (bmB : List Value) (B newId initId : String), ca c = C ∧ mg c = some (.ref C) ∧ ExcBaseFacts B newId initId bmB ∧ PySem.W.excIn K C bmB newId = true ∧ PySem.W.keepIn K (.ref C) = true ∧
    PySem.W.subIn K (.ref C) (.type "BaseException") = some true ∧ PySem.W.typeIn K (.ref C) = some (.type "type")
/-- a class in an except clause: what it takes -/
def TrF (K : PySem.W.Frag) (mg : Str → Option Value) (ca : Ca) (x : Str) (tb : List (Str × Bool)) : Prop := ∃ C, mg x = some (.ref C) ∧ ∀ p ∈ tb, PySem.W.exmOne K (.ref (ca p.1)) (.ref C) = some p.2
/-- a class that isinstance asks for -/
def IsF (K : PySem.W.Frag) (mg : Str → Option Value) (ca : Ca) (x : Str) (tb : List (Str × Bool)) : Prop := ∃ C, mg x = some (.ref C) ∧ ∀ p ∈ tb, ExcC K (ca p.1) ∧ PySem.W.kitOne K (.ref (ca p.1)) (.ref C) = some p.2
/-- a field of errors -/
def XfF (K : PySem.W.Frag) (ca : Ca) (tb : List Str) (f : Str) : Prop := ∀ c ∈ tb, XfC K (ca c) ∧ PySem.W.findIn K (.ref (ca c)) f = some none
/-! constants -/
abbrev cI (i : Int) : SE := fun _ => mp (.int i)
abbrev cS (x : Str) : SE := fun _ => mp (.str x)
abbrev cB (b : Bool) : SE := fun _ => mp (.bl b)
abbrev cN : SE := fun _ => mp .non
abbrev cG (d : D) : SE := fun _ => mp d
section
variable {X : Cx} {ca : Ca} {H0 : Bs} {Wx : WX} {mr m : Md}
theorem de_gl {x : Str} {pos : Pos} {d : D} (G : GlC X.K X.mg ca x d) (hg : Gl X x := by rfl) (hd : (x == ("__debug__" : Str)) = false := by decide) (i : isScal d = true := by rfl) : DE X ca H0 Wx m (.Name x pos) (fun _ => mp d) := by
  obtain ⟨u, v, h1, h2, h3⟩ := G
  exact de_glob hg h1 h2 h3 hd i
theorem ds_raiseF {c : Str} {fs : List Str} {e : Expr} {es : List Expr} {fa : SA} {p pos pos' : Pos} (hc : X.calm = true) (tk : Takes X Wx) (E : ExI X.prog X.w X.K X.mg X.base ca c fs) (hr : Room 2 X.A) (ha : DA X ca H0 Wx .frz (e :: es) fa) (hg : Gl X c := by rfl)
    (hdb : (c == ("__debug__" : Str)) = false := by decide) (he : starEach (e :: es) X.env = (false, eval e X.env) :: starEach es X.env := by rfl) (hpl : (backTo pos (starEach es X.env)).any (·.1) = false := by rfl) :
    DS X ca H0 Wx mr (.Raise (some (.Call (.Name c p) (e :: es) [] pos)) none pos') (bRaise c fs fa) := by
  obtain ⟨C, fI, fd, ps, h1, h2, h3, h4, h5, h6, h7⟩ := E
  exact ds_raise hc tk h1 h3 h4 h5 h6 hr h7 hg h2 ha hdb he hpl
theorem ds_raiseTF {c : Str} {e : Expr} {f : SE} {p pos pos' : Pos} (hc : X.calm = true) (tk : Takes X Wx) (E : ExT X.K X.mg ca c) (he : DE X ca H0 Wx .bor e f) (hg : Gl X c := by rfl)
    (hs : starEach [e] X.env = (false, eval e X.env) :: starEach [] X.env := by rfl) (hdb : (c == ("__debug__" : Str)) = false := by decide) :
    DS X ca H0 Wx mr (.Raise (some (.Call (.Name c p) [e] [] pos)) none pos') (bRaiseT c f) := by
  obtain ⟨C, bmB, B, newId, initId, h1, h2, h3, h4, h5, h6, h7⟩ := E
  exact ds_raiseT hc tk h1 h3 h4 h2 h5 (raises_own h6 h7) hg he hs hdb
theorem ds_tryAsF {x n : Str} {i : Nat} {tb : List (Str × Bool)} {body suite : List Stmt} {b₀ : Stmt} {np pos pos' : Pos} {fb fs : SS} (hN : X.N.Nodup) (hi : X.N[i]? = some n) (T : TrF X.K X.mg ca x tb) (tk : Takes X Wx)
    (hb : ∀ (W : WX) (pn : List (Addr × Obj)) (xe : Value → Shared → Prop), Takes (X.tr pn xe) W → PassesOwn (model X.prog X.w) X.A X.env xe → DSs (X.tr pn xe) ca H0 W mr body fb)
    (hsu : ∀ (a : Addr) (oe : Obj) (cls : Value) (d : Option Addr) (pn : List (Addr × Obj)), Zc cls d oe → (∃ vs, oe.data = .fields vs) → DSs (X.suite a ((a, oe) :: pn)) ca ⟨H0.h, some (a, cls, d)⟩ (fun _ _ _ _ => False) mr (b₀ :: suite) fs)
    (hH : H0.ex = none := by rfl) (hs : X.stack = X.env :: X.outer := by rfl) (hf : X.env.frame = some X.env.locals := by rfl) (hln : X.env.kindOf n = some .local := by rfl) (hg : Gl X x := by rfl) (hd : (x == ("__debug__" : Str)) = false := by decide) :
    DS X ca H0 Wx mr (.Try body [.ExceptHandler (some (.Name x np)) (some n) (b₀ :: suite) pos'] [] [] pos) (bTryAs i (fun c => tb.lookup c) fb fs) := by
  obtain ⟨C, h1, h2⟩ := T
  exact ds_tryAs hH hs hf hN hi hln ⟨hg, hd, .inl h1⟩ (fun d b e => h2 _ (mem_of_lookup e)) tk hb hsu
theorem de_isF {a : Addr} {oe : Obj} {cls : Value} {d : Option Addr} {pn : List (Addr × Obj)} {h : Hp} {i : Nat} {tb : List (Str × Bool)} {n y : Str} {np cp p pos : Pos} (hz : Zc cls d oe) (hf : ∃ vs, oe.data = .fields vs) (he : PE (X.suite a ((a, oe) :: pn)) (.Name n np) (tVar i))
    (hm : X.mg "isinstance" = none) (T : IsF X.K X.mg ca y tb) (hg : Gl X "isinstance" := by rfl) (hgc : Gl X y := by rfl) (hdc : (y == ("__debug__" : Str)) = false := by decide)
    (hs1 : starEach [.Name n np, .Name y cp] X.env = (false, eval (.Name n np) X.env) :: starEach [.Name y cp] X.env := by rfl) (hs2 : starEach [.Name y cp] X.env = (false, eval (.Name y cp) X.env) :: starEach [] X.env := by rfl)
    (hpl : (backTo pos (starEach [.Name y cp] X.env)).any (·.1) = false := by rfl) :
    DE (X.suite a ((a, oe) :: pn)) ca ⟨h, some (a, cls, d)⟩ Wx .frz (.Call (.Name "isinstance" p) [.Name n np, .Name y cp] [] pos) (sIsE i tb) := by
  obtain ⟨C, h1, h2⟩ := T
  exact de_isE hz hf he hg hm rfl hgc h1 h2 (by decide) (by decide) hdc hs1 hs2 hpl
end
/-- the j-th def within a class -/
def clsDef (s : Stmt) (j : Nat) : Stmt := match s with
  | .ClassDef _ _ _ body _ _ _ _ _ _ _ => body.getD j (.Pass ⟨0, 0, 0, 0⟩)
  | _ => .Pass ⟨0, 0, 0, 0⟩
def caOf (l : List (Str × Addr)) : Ca := fun c => (l.lookup c).getD 0
section
variable {P : Program} {w : World} {K : PySem.W.Frag} {mg : Str → Option Value} {base : Heap} {ca : Ca} {h : Heap} {x : Str} {f : Addr} {fd : FuncData} {ps : List Str} {k : Nat} {ms : List Bool} {mr : Md} {sem : Sem1}
theorem mkF {qual : Str} {st : Stmt} {oc : Value} {od an : Option Addr} {osl : Array (Option Value)} {kV doc pm cdv ct : Value} (l : K.lookup f = some ⟨oc, od, .func (PySem.W.fnOf x qual (defArgs st) (defBody st) (defScope st) .none kV doc pm an cdv ct), osl⟩)
    (c : PySem.W.codeIn K cdv qual = true) (k : PySem.W.keepIn K (.ref f) = true) : FunD K x qual (defArgs st) (defBody st) (defScope st) [] [] f (PySem.W.fnOf x qual (defArgs st) (defBody st) (defScope st) .none kV doc pm an cdv ct) :=
  ⟨⟨oc, od, .none, kV, doc, pm, an, cdv, ct, osl, rfl, l, c, .inl ⟨rfl, rfl⟩, .inl rfl⟩, k⟩
theorem mkFD {qual : Str} {st : Stmt} {oc : Value} {od an : Option Addr} {osl : Array (Option Value)} {kV doc pm cdv ct : Value} {T : Addr} {o : Obj} {its : List Value} {n : Nat} {dvs : List V} (l : K.lookup f = some ⟨oc, od, .func (PySem.W.fnOf x qual (defArgs st) (defBody st) (defScope st) (.ref T) kV doc pm an cdv ct), osl⟩)
    (c : PySem.W.codeIn K cdv qual = true) (k : PySem.W.keepIn K (.ref f) = true) (t : K.lookup T = some o) (ho : o.data = .seq its.toArray n) (hv : Vals dvs its) (hd : dvs ≠ []) : FunD K x qual (defArgs st) (defBody st) (defScope st) dvs [] f (PySem.W.fnOf x qual (defArgs st) (defBody st) (defScope st) (.ref T) kV doc pm an cdv ct) :=
  ⟨⟨oc, od, .ref T, kV, doc, pm, an, cdv, ct, osl, rfl, l, c, .inr ⟨hd, T, o, its, n, rfl, t, ho, hv⟩, .inl rfl⟩, k⟩
theorem calF0 (hm : mg x = some (.ref f)) (hk : PySem.W.keepIn K (.ref f) = true) (F : FnG P w K mg base k f fd ps (spD K ca ms mr sem)) (hb : Binds K fd ps []) : CalF P w K mg base ca x k ms mr sem [] [] :=
  ⟨⟨f, fd, ps, hm, hk, F, fun j _ => ⟨[], [], .nil, hb, by rw [List.drop_nil]; exact .nil⟩, fun ks h => by cases h⟩, rfl⟩
theorem calFD {dds : List D} {kns : List (List Str)} (hm : mg x = some (.ref f)) (hk : PySem.W.keepIn K (.ref f) = true) (F : FnG P w K mg base k f fd ps (spD K ca ms mr sem))
    (hb : ∀ j, j ≤ dds.length → ∃ dvs ds, Vals dvs ds ∧ Binds K fd ps ds ∧ DVs K ca (fun _ => none) (fun _ => none) dvs (dds.drop j)) (hs : dds.all isScal = true)
    (hn : ∀ ks, ks ∈ kns → KBn K fd ps (ms.length - ks.length) ks (fun us ws => us ++ ws) (fun vs zs => vs ++ zs)) : CalF P w K mg base ca x k ms mr sem dds kns :=
  ⟨⟨f, fd, ps, hm, hk, F, hb, hn⟩, hs⟩
theorem glTup {A : Addr} {td : Option Addr} {its : List Value} {n : Nat} {sl : Array (Option Value)} {vs : List V} {ds : List D} (hm : mg x = some (.ref A)) (l : K.lookup A = some ⟨.type "tuple", td, .seq its.toArray n, sl⟩) (hs : its.length ≤ sizeLine) (hv : Vals vs its)
    (hd : DVs K ca (fun _ => none) (fun _ => none) vs ds) : GlC K mg ca x (.tup ds) :=
  ⟨.ref A, .ref A, hm, rfl, .tup (.inr (.inr ⟨_, its.toArray, n, l, rfl, rfl, by rw [List.size_toArray]; exact hs, by simpa using hv⟩)) hd⟩
theorem mkXT {c : Str} {C : Addr} {bmB : List Value} {B newId initId : String} (h1 : ca c = C) (h2 : mg c = some (.ref C)) (h3 : ExcBaseFacts B newId initId bmB) (h4 : PySem.W.excIn K C bmB newId = true) (h5 : PySem.W.keepIn K (.ref C) = true)
    (h6 : PySem.W.subIn K (.ref C) (.type "BaseException") = some true) (h7 : PySem.W.typeIn K (.ref C) = some (.type "type")) : ExT K mg ca c := ⟨C, bmB, B, newId, initId, h1, h2, h3, h4, h5, h6, h7⟩
end
end DL

/-! DL13: running what the defs compute. -/
namespace DL
open PySem PySem.Spec PyProof.Rows L2
@[simp] theorem mb_e {α β : Type} (x : M α) (k : α → M β) (S : Sto) : mb x k S = (match x S with | none => none | some (.error e, S1) => some (.error e, S1) | some (.ok a, S1) => k a S1) := rfl
@[simp] theorem mp_e {α : Type} (a : α) (S : Sto) : mp a S = some (.ok a, S) := rfl
@[simp] theorem mf_e {α : Type} (S : Sto) : (mf : M α) S = none := rfl
@[simp] theorem mo_s {α : Type} (a : α) (S : Sto) : mo (some a) S = some (.ok a, S) := rfl
@[simp] theorem mo_n {α : Type} (S : Sto) : mo (none : Option α) S = none := rfl
@[simp] theorem sb_e {α : Type} (x : M α) (ρ : Rho) (k : α → Sto → Option (SOut × Sto)) (S : Sto) : sb x ρ k S = (match x S with | none => none | some (.error e, S1) => some (.exc ρ e, S1) | some (.ok a, S1) => k a S1) := rfl
@[simp] theorem bSeq_e (f g : SS) (ρ : Rho) (S : Sto) : bSeq f g ρ S = (match f ρ S with | some (.nx ρ1, S1) => g ρ1 S1 | z => z) := rfl
@[simp] theorem bNil_e (ρ : Rho) (S : Sto) : bNil ρ S = some (.nx ρ, S) := rfl
@[simp] theorem bBrk_e (ρ : Rho) (S : Sto) : bBrk ρ S = some (.brk ρ, S) := rfl
@[simp] theorem bCnt_e (ρ : Rho) (S : Sto) : bCnt ρ S = some (.cnt ρ, S) := rfl
@[simp] theorem bIf_e (c : ST) (f g : SS) (ρ : Rho) (S : Sto) : bIf c f g ρ S = sb (c ρ) ρ (fun k => if k = true then f ρ else g ρ) S := rfl
@[simp] theorem bRet_e (f : SE) (ρ : Rho) (S : Sto) : bRet f ρ S = sb (f ρ) ρ (fun d S => some (.ret d, S)) S := rfl
@[simp] theorem bRetN_e (ρ : Rho) (S : Sto) : bRetN ρ S = some (.ret .non, S) := rfl
@[simp] theorem bExpr_e (f : SE) (ρ : Rho) (S : Sto) : bExpr f ρ S = sb (f ρ) ρ (fun _ S => some (.nx ρ, S)) S := rfl
@[simp] theorem bSet_e (i : Nat) (f : SE) (ρ : Rho) (S : Sto) : bSet i f ρ S = sb (f ρ) ρ (fun d S => if unlk ρ[i]? = true then some (.nx (ρ.set i (.val d)), S) else none) S := rfl
@[simp] theorem bSetOwn_e (i : Nat) (f : SE) (ρ : Rho) (S : Sto) : bSetOwn i f ρ S = sb (f ρ) ρ (fun d S => if (unlk ρ[i]? && isCont d) = true then some (.nx (ρ.set i (.own d)), S) else none) S := rfl
@[simp] theorem bAsg_e (t : D → Rho → Option Rho) (f : SE) (ρ : Rho) (S : Sto) : bAsg t f ρ S = sb (f ρ) ρ (fun d S => match t d ρ with | none => none | some ρ1 => some (.nx ρ1, S)) S := rfl
@[simp] theorem bMut_e (i : Nat) (mu : List D → List D → Option (D × List D)) (fa : SA) (ρ : Rho) (S : Sto) : bMut i mu fa ρ S = (match ownL ρ i with | none => none | some l => sb (fa ρ) ρ (fun ds S => match mu l ds with | none => none | some z => some (.nx (ρ.set i (.own (.lst z.2))), S)) S) := rfl
@[simp] theorem bSetIx_e (i : Nat) (fi fe : SE) (ρ : Rho) (S : Sto) : bSetIx i fi fe ρ S = sb (fe ρ) ρ (fun d S => match ownL ρ i with | none => none | some l => sb (fi ρ) ρ (fun k S => match setAt l k d with | none => none | some l1 => some (.nx (ρ.set i (.own (.lst l1))), S)) S) S := rfl
@[simp] theorem bSetIxO_e (fo fi fe : SE) (ρ : Rho) (S : Sto) : bSetIxO fo fi fe ρ S = sb (fe ρ) ρ (fun d => sb (fo ρ) ρ fun o S => match asObj o with | none => none | some n => sb (fi ρ) ρ (fun k S => match stL S n with | none => none | some l => match setAt l k d with | none => none | some l1 => some (.nx ρ, S.set n (.lst l1))) S) S := rfl
@[simp] theorem bFz_e (i : Nat) (f : SS) (ρ : Rho) (S : Sto) : bFz i f ρ S = (match ρ[i]? with | some (.own d) => f (ρ.set i (.val d)) S | _ => f ρ S) := rfl
@[simp] theorem bRaise_e (c : Str) (fs : List Str) (fa : SA) (ρ : Rho) (S : Sto) : bRaise c fs fa ρ S = sb (fa ρ) ρ (fun ds S => if ds.length ≤ 1000 ∧ ds.length = fs.length then some (.exc ρ ⟨c, some (fs.zip ds).reverse⟩, S) else none) S := rfl
@[simp] theorem bRaiseT_e (c : Str) (f : SE) (ρ : Rho) (S : Sto) : bRaiseT c f ρ S = sb (f ρ) ρ (fun _ S => some (.exc ρ ⟨c, none⟩, S)) S := rfl
@[simp] theorem bTryAs_e (i : Nat) (mx : Str → Option Bool) (fb fs : SS) (ρ : Rho) (S : Sto) : bTryAs i mx fb fs ρ S = (match fb ρ S with | some (.exc ρ1 x, S1) => (match mx x.c with | none => none | some false => some (.exc ρ1 x, S1) | some true => suA i (fs (ρ1.set i (.ex x)) S1)) | z => z) := rfl
@[simp] theorem suA_e (i : Nat) (z : Option (SOut × Sto)) : suA i z = (match z with | some (.nx ρ, S) => clr i ρ S .nx | some (.brk ρ, S) => clr i ρ S .brk | some (.cnt ρ, S) => clr i ρ S .cnt | some (.ret d, S) => some (.ret d, S) | _ => none) := rfl
@[simp] theorem bFor_e (src : SA) (t : D → Rho → Option Rho) (b : SS) (ρ : Rho) (S : Sto) : bFor src t b ρ S = sb (src ρ) ρ (fun ds => forD t b ds ρ) S := rfl
@[simp] theorem forD_n (t : D → Rho → Option Rho) (b : SS) (ρ : Rho) (S : Sto) : forD t b [] ρ S = some (.nx ρ, S) := rfl
@[simp] theorem sVar_e (i : Nat) (ρ : Rho) (S : Sto) : sVar i ρ S = (match ρ[i]? with | some (.val d) => mp d | some (.bo d) => (if isScal d = true then mp d else mf) | _ => mf) S := rfl
@[simp] theorem sVarB_e (i : Nat) (ρ : Rho) (S : Sto) : sVarB i ρ S = (match ρ[i]? with | some (.val d) => mp d | some (.own d) => mp d | some (.lk d) => mp d | some (.bo d) => mp d | _ => mf) S := rfl
@[simp] theorem sVarS_e (i : Nat) (ρ : Rho) (S : Sto) : sVarS i ρ S = (match ρ[i]? with | some (.val d) => mp d | some (.lk d) => mp d | some (.bo d) => mp d | _ => mf) S := rfl
@[simp] theorem sBin_e (o : D → D → Option D) (f g : SE) (ρ : Rho) (S : Sto) : sBin o f g ρ S = mb (f ρ) (fun x => mb (g ρ) fun y S => mo (o (dref S x) (dref S y)) S) S := rfl
@[simp] theorem sBl_e (f : SE) (ρ : Rho) (S : Sto) : sBl f ρ S = mb (f ρ) (fun d => mo (dBl d)) S := rfl
@[simp] theorem sTru_e (f : SE) (ρ : Rho) (S : Sto) : sTru f ρ S = mb (f ρ) (fun d S => mo (dTru (dref S d)) S) S := rfl
@[simp] theorem sAnd_e (f g : ST) (ρ : Rho) (S : Sto) : sAnd f g ρ S = mb (f ρ) (fun k => if k = true then g ρ else mp false) S := rfl
@[simp] theorem sOr_e (f g : ST) (ρ : Rho) (S : Sto) : sOr f g ρ S = mb (f ρ) (fun k => if k = true then mp true else g ρ) S := rfl
@[simp] theorem sNot_e (f : ST) (ρ : Rho) (S : Sto) : sNot f ρ S = mb (f ρ) (fun k => mp (!k)) S := rfl
@[simp] theorem sNotV_e (f : SE) (ρ : Rho) (S : Sto) : sNotV f ρ S = mb (f ρ) (fun d => mb (mo (dBl d)) fun k => mp (.bl (!k))) S := rfl
@[simp] theorem sAndV_e (f g : SE) (ρ : Rho) (S : Sto) : sAndV f g ρ S = mb (f ρ) (fun d => mb (mo (dBl d)) fun k => if k = true then g ρ else mp (.bl false)) S := rfl
@[simp] theorem sOrV_e (f g : SE) (ρ : Rho) (S : Sto) : sOrV f g ρ S = mb (f ρ) (fun d => mb (mo (dBl d)) fun k => if k = true then mp (.bl true) else g ρ) S := rfl
@[simp] theorem sIf_e (c : ST) (f g : SE) (ρ : Rho) (S : Sto) : sIf c f g ρ S = mb (c ρ) (fun k => if k = true then f ρ else g ρ) S := rfl
@[simp] theorem sNil_e (ρ : Rho) (S : Sto) : sNil ρ S = some (.ok [], S) := rfl
@[simp] theorem sCons_e (f : SE) (g : SA) (ρ : Rho) (S : Sto) : sCons f g ρ S = mb (f ρ) (fun d => mb (g ρ) fun ds => mp (d :: ds)) S := rfl
@[simp] theorem sTup_e (f : SA) (ρ : Rho) (S : Sto) : sTup f ρ S = mb (f ρ) (fun ds => if ds.length ≤ sizeLine then mp (.tup ds) else mf) S := rfl
@[simp] theorem sLst_e (f : SA) (ρ : Rho) (S : Sto) : sLst f ρ S = mb (f ρ) (fun ds => if ds.length ≤ sizeLine then mp (.lst ds) else mf) S := rfl
@[simp] theorem sCall_e (o : List D → Option D) (f : SA) (ρ : Rho) (S : Sto) : sCall o f ρ S = mb (f ρ) (fun ds S => mo (o (ds.map (dref S))) S) S := rfl
@[simp] theorem sCallU_e (sem : Sem1) (dds : List D) (f : SA) (ρ : Rho) (S : Sto) : sCallU sem dds f ρ S = mb (f ρ) (fun ds S => sem (ds ++ dds) S) S := rfl
@[simp] theorem sCallN_e (sem : Sem1) (f g : SA) (ρ : Rho) (S : Sto) : sCallN sem f g ρ S = mb (f ρ) (fun ds => mb (g ρ) fun es S => sem (ds ++ es) S) S := rfl
@[simp] theorem sSl_e (f : SE) (l h : SO) (ρ : Rho) (S : Sto) : sSl f l h ρ S = mb (f ρ) (fun d => mb (l ρ) fun lo => mb (h ρ) fun hi S => mo (oSl (dref S d) lo hi) S) S := rfl
@[simp] theorem sNo_e (ρ : Rho) (S : Sto) : sNo ρ S = some (.ok none, S) := rfl
@[simp] theorem sPart_e (f : SE) (ρ : Rho) (S : Sto) : sPart f ρ S = mb (f ρ) (fun d => mo ((dInt d).map some)) S := rfl
@[simp] theorem sObj_e (f : SE) (ρ : Rho) (S : Sto) : sObj f ρ S = mb (f ρ) (fun d S => match obOf d with | some ob => some (.ok (.obj S.length), S ++ [ob]) | none => none) S := rfl
@[simp] theorem sItems_e (f : SE) (ρ : Rho) (S : Sto) : sItems f ρ S = mb (f ρ) (fun d => mo (dItems d)) S := rfl
@[simp] theorem sRng_e (f : SA) (ρ : Rho) (S : Sto) : sRng f ρ S = mb (f ρ) (fun ds => mo (oRng ds)) S := rfl
@[simp] theorem sXf_e (i : Nat) (tb : List Str) (f : Str) (ρ : Rho) (S : Sto) : sXf i tb f ρ S = (match exAt ρ i with | none => none | some x => mo (xField tb f x) S) := rfl
@[simp] theorem sIsE_e (i : Nat) (tb : List (Str × Bool)) (ρ : Rho) (S : Sto) : sIsE i tb ρ S = (match exAt ρ i with | none => none | some x => mo ((tb.lookup x.c).map D.bl) S) := rfl
@[simp] theorem sScal_e (f : SE) (ρ : Rho) (S : Sto) : sScal f ρ S = mb (f ρ) (fun d => if isScal d = true then mp d else mf) S := rfl
@[simp] theorem sNeg_e (f : SE) (ρ : Rho) (S : Sto) : sNeg f ρ S = mb (f ρ) (fun d => mo ((asInt d).map fun i => .int (-i))) S := rfl
@[simp] theorem semB_e (ms : List Bool) (n : Nat) (f : SS) (ds : List D) (S : Sto) : semB ms n f ds S = (match f (parSl ms ds ++ List.replicate (n - ds.length) Sl.no) S with | none => none | some (.nx _, S1) => some (.ok .non, S1) | some (.ret d, S1) => some (.ok d, S1) | some (.exc _ x, S1) => some (.error x, S1) | some (.brk _, _) => none | some (.cnt _, _) => none) := rfl
@[simp] theorem parSl_t (ms : List Bool) (d : D) (ds : List D) : parSl (true :: ms) (d :: ds) = .val d :: parSl ms ds := rfl
@[simp] theorem parSl_f (ms : List Bool) (d : D) (ds : List D) : parSl (false :: ms) (d :: ds) = .bo d :: parSl ms ds := rfl
@[simp] theorem parSl_n (ds : List D) : parSl [] ds = [] := rfl
@[simp] theorem tgName_e (i : Nat) (d : D) (ρ : Rho) : tgName i d ρ = (if unlk ρ[i]? = true then some (ρ.set i (.val d)) else none) := rfl
@[simp] theorem dref_non (S : Sto) : dref S (.non) = .non := rfl
@[simp] theorem dref_bl (b : Bool) (S : Sto) : dref S (.bl b) = .bl b := rfl
@[simp] theorem dref_int (b : Int) (S : Sto) : dref S (.int b) = .int b := rfl
@[simp] theorem dref_str (b : Str) (S : Sto) : dref S (.str b) = .str b := rfl
@[simp] theorem dref_tup (b : List D) (S : Sto) : dref S (.tup b) = .tup b := rfl
@[simp] theorem dref_lst (b : List D) (S : Sto) : dref S (.lst b) = .lst b := rfl
@[simp] theorem dref_rol (b : List D) (S : Sto) : dref S (.rol b) = .rol b := rfl
@[simp] theorem dref_dK (b : List (Key × D)) (S : Sto) : dref S (.dK b) = .dK b := rfl
@[simp] theorem dref_dT (b : List (List Key × D)) (S : Sto) : dref S (.dT b) = .dT b := rfl
@[simp] theorem unlk_val (d : D) : unlk (some (.val d)) = true := rfl
@[simp] theorem unlk_own (d : D) : unlk (some (.own d)) = true := rfl
@[simp] theorem unlk_lk (d : D) : unlk (some (.lk d)) = false := rfl
@[simp] theorem unlk_bo (d : D) : unlk (some (.bo d)) = true := rfl
@[simp] theorem unlk_no  : unlk (some .no) = true := rfl
@[simp] theorem unlk_ex (x : Xc) : unlk (some (.ex x)) = true := rfl
@[simp] theorem dBl_e (b : Bool) : dBl (.bl b) = some b := rfl
@[simp] theorem asInt_i (i : Int) : asInt (.int i) = some i := rfl
@[simp] theorem asObj_o (n : Nat) : asObj (.obj n) = some n := rfl
@[simp] theorem dInt_i (i : Int) : dInt (.int i) = some i := rfl
@[simp] theorem oAdd_i (i j : Int) : oAdd (.int i) (.int j) = some (.int (i + j)) := rfl
@[simp] theorem oSub_i (i j : Int) : oSub (.int i) (.int j) = some (.int (i - j)) := rfl
@[simp] theorem oLt_i (i j : Int) : oLt (.int i) (.int j) = some (.bl (decide (i < j))) := rfl
@[simp] theorem oLe_i (i j : Int) : oLe (.int i) (.int j) = some (.bl (decide (i ≤ j))) := rfl
@[simp] theorem oGt_i (i j : Int) : oGt (.int i) (.int j) = some (.bl (decide (j < i))) := rfl
@[simp] theorem oGe_i (i j : Int) : oGe (.int i) (.int j) = some (.bl (decide (j ≤ i))) := rfl
@[simp] theorem dEq_i (i j : Int) : dEq (.int i) (.int j) = some (.bl (decide (i = j))) := rfl
@[simp] theorem dNe_i (i j : Int) : dNe (.int i) (.int j) = some (.bl (!decide (i = j))) := rfl
@[simp] theorem dEq_s (i j : Str) : dEq (.str i) (.str j) = some (.bl (decide (i = j))) := rfl
@[simp] theorem dNe_s (i j : Str) : dNe (.str i) (.str j) = some (.bl (!decide (i = j))) := rfl
@[simp] theorem oIx_l (l : List D) (i : Int) : oIx (.lst l) (.int i) = atI l i := rfl
@[simp] theorem oIx_r (l : List D) (i : Int) : oIx (.rol l) (.int i) = atI l i := rfl
@[simp] theorem oIx_t (l : List D) (i : Int) : oIx (.tup l) (.int i) = atI l i := rfl
@[simp] theorem oIx_s (z : Str) (i : Int) : oIx (.str z) (.int i) = (if z.length ≤ sizeLine then (atI z.cps.toList i).map fun c => .str ⟨#[c]⟩ else none) := rfl
@[simp] theorem oLen_l (l : List D) : oLen [.lst l] = some (.int l.length) := rfl
@[simp] theorem oLen_r (l : List D) : oLen [.rol l] = some (.int l.length) := rfl
@[simp] theorem oLen_t (l : List D) : oLen [.tup l] = some (.int l.length) := rfl
@[simp] theorem oLen_s (z : Str) : oLen [.str z] = (if z.length ≤ sizeLine then some (.int z.length) else none) := rfl
@[simp] theorem oInt_i (i : Int) : oInt [.int i] = some (.int i) := rfl
@[simp] theorem oRepr_b (b : Bool) : oRepr [.bl b] = some (.str (if b then "True" else "False")) := rfl
@[simp] theorem dTru_b (b : Bool) : dTru (.bl b) = some b := rfl
@[simp] theorem isScal_i (i : Int) : isScal (.int i) = true := rfl
@[simp] theorem isScal_s (i : Str) : isScal (.str i) = true := rfl
@[simp] theorem isScal_o (i : Nat) : isScal (.obj i) = true := rfl
@[simp] theorem isScal_b (i : Bool) : isScal (.bl i) = true := rfl
@[simp] theorem isScal_t (i : List D) : isScal (.tup i) = true := rfl
@[simp] theorem isCont_l (i : List D) : isCont (.lst i) = true := rfl
@[simp] theorem obOf_l (l : List D) : obOf (.lst l) = some (.lst l) := rfl
@[simp] theorem dItems_l (l : List D) : dItems (.lst l) = some l := rfl
@[simp] theorem dItems_r (l : List D) : dItems (.rol l) = some l := rfl
@[simp] theorem dItems_t (l : List D) : dItems (.tup l) = some l := rfl
@[simp] theorem dItems_s (x : Str) : dItems (.str x) = some (x.cps.toList.map fun c => .str ⟨#[c]⟩) := rfl
@[simp] theorem oMod_i (i j : Int) : oMod (.int i) (.int j) = if 0 < j then some (.int (i % j)) else none := by
  by_cases h : 0 < j <;> simp [oMod, o2I, cMod, h]
@[simp] theorem oDiv_i (i j : Int) : oDiv (.int i) (.int j) = if 0 < j ∧ j < 1073741824 then some (.int (i / j)) else none := by
  by_cases h : 0 < j ∧ j < 1073741824
  · rw [if_pos h]
    show (if cDiv i j = true then some (D.int (i / j)) else none) = _
    rw [if_pos (show cDiv i j = true from cdec_t h)]
  · rw [if_neg h]
    show (if cDiv i j = true then some (D.int (i / j)) else none) = _
    rw [if_neg (show ¬ cDiv i j = true from fun z => h (cdec_iff.mp z))]
@[simp] theorem oMul_i (i j : Int) : oMul (.int i) (.int j) = if cMul i j = true then some (.int (i * j)) else none := by
  by_cases h : cMul i j = true <;> simp [oMul, o2I, h]
theorem cMul_r {i j : Int} (h : -(2 ^ 64) < j) (h2 : j < 2 ^ 64) : cMul i j = true := by unfold cMul; rw [Bool.or_eq_true]; exact .inr (cdec_t ⟨h, h2⟩)
theorem cMul_l {i j : Int} (h : -(2 ^ 64) < i) (h2 : i < 2 ^ 64) : cMul i j = true := by unfold cMul; rw [Bool.or_eq_true]; exact .inl (cdec_t ⟨h, h2⟩)
@[simp] theorem sM1_s (o : Str → D → Option D) (f g : SE) (ρ : Rho) (S : Sto) : sM1 o f g ρ S = mb (f ρ) (fun x => match x with | .str z => mb (g ρ) fun y S => mo (o z (dref S y)) S | _ => mf) S := rfl
@[simp] theorem forD_c (t : D → Rho → Option Rho) (b : SS) (d : D) (r : List D) (ρ : Rho) (S : Sto) : forD t b (d :: r) ρ S = (match t d ρ with | none => none | some ρ1 => match b ρ1 S with | some (.nx ρ2, S2) => forD t b r ρ2 S2 | some (.cnt ρ2, S2) => forD t b r ρ2 S2 | some (.brk ρ2, S2) => some (.nx ρ2, S2) | z => z) := rfl
theorem ixN_nat {n : Nat} {i : Int} (h0 : 0 ≤ i) (h : i < n) : ixN n i = some i.toNat := by unfold ixN; rw [if_pos h0, if_pos h]
@[simp] theorem ownL_e (ρ : Rho) (i : Nat) (l : List D) (h : ρ[i]? = some (.own (.lst l))) : ownL ρ i = some l := by unfold ownL; rw [h]
@[simp] theorem stL_0 (l : List D) (tl : Sto) : stL (.lst l :: tl) 0 = some l := rfl
@[simp] theorem dref_0 (l : List D) (tl : Sto) : dref (.lst l :: tl) (.obj 0) = .lst l := rfl
@[simp] theorem atI_0 {α : Type} (a : α) (l : List α) : atI (a :: l) 0 = some a := by simp [atI, ixN]
@[simp] theorem atI_1 {α : Type} (a b : α) (l : List α) : atI (a :: b :: l) 1 = some b := by unfold atI; rw [ixN_nat (by omega) (by simp only [List.length_cons]; omega)]; rfl
@[simp] theorem setAt_0 (a : D) (l : List D) (d : D) : setAt (a :: l) (.int 0) d = some (d :: l) := by simp [setAt, ixN]
@[simp] theorem setAt_1 (a b : D) (l : List D) (d : D) : setAt (a :: b :: l) (.int 1) d = some (a :: d :: l) := by unfold setAt; simp only [asInt_i]; rw [ixN_nat (by omega) (by simp only [List.length_cons]; omega)]; rfl
theorem atI_int {ds : List Int} {i : Int} (h0 : 0 ≤ i) (h : i < ds.length) : ∃ k, atI (ds.map D.int) i = some (.int k) := by
  unfold atI
  rw [ixN_nat h0 (by rw [List.length_map]; exact h)]
  have z : i.toNat < ds.length := by omega
  exact ⟨ds[i.toNat], by simp [z]⟩
/-! the drawn numbers' box: an object of the store, the digits and the place -/
abbrev bx (ds : List Int) (at_ : Int) : Ob := .lst [.lst (ds.map .int), .int at_]
end DL

/-! DL14: texts. -/
namespace DL
open PySem PySem.Spec PyProof.Rows L2
theorem len_app (a b : Str) : (a ++ b).length = a.length + b.length := by
  show (a.cps ++ b.cps).size = _
  rw [Array.size_append]; rfl
theorem len_one (c : Nat) : (⟨#[c]⟩ : Str).length = 1 := rfl
theorem foldl_size : ∀ (k : Nat) (x acc : Array Nat), ((List.replicate k x).foldl (· ++ ·) acc).size = acc.size + k * x.size
  | 0, x, acc => by simp
  | k + 1, x, acc => by
    rw [List.replicate_succ, List.foldl_cons, foldl_size k x, Array.size_append, Nat.succ_mul]; omega
theorem len_mul (x : Str) (n : Int) : (Txt.mul x n).length = n.toNat * x.length := by
  unfold Txt.mul
  by_cases h : n < 1
  · rw [if_pos h, show n.toNat = 0 by omega, Nat.zero_mul]; rfl
  · rw [if_neg h]
    by_cases h2 : (n == 1 || x.length == 0) = true
    · rw [if_pos h2]
      rcases Bool.or_eq_true_iff.mp h2 with e | e
      · rw [beq_iff_eq.mp e]; simp
      · rw [beq_iff_eq.mp e]; rfl
    · rw [if_neg h2]
      show ((List.replicate n.toNat x.cps).foldl (· ++ ·) #[]).size = _
      rw [foldl_size]
      show 0 + n.toNat * x.cps.size = n.toNat * x.cps.size
      omega
theorem len_cut (z : Str) (lo hi : Option Int) : (cutS z lo hi).length ≤ z.length := by
  unfold cutS
  show (List.toArray _).size ≤ z.cps.size
  rw [List.size_toArray, List.length_take, List.length_drop, Array.length_toList]
  omega
theorem line_eq : sizeLine = 16777216 := by decide
theorem add_s {a b : Str} (h : a.length + b.length ≤ 16777216) : oAdd (.str a) (.str b) = some (.str (a ++ b)) := by
  show (if a.length + b.length ≤ sizeLine then some (D.str (a ++ b)) else none) = _
  rw [line_eq, if_pos h]
theorem mul_s {a : Str} {n : Int} (h0 : -1000000 ≤ n) (h1 : n ≤ 1000000) (h : a.length * n.toNat ≤ 1000000) : oMul (.str a) (.int n) = some (.str (Txt.mul a n)) := by
  show cif (-1000000 ≤ n ∧ n ≤ 1000000 ∧ a.length * n.toNat ≤ 1000000) (some (D.str (Txt.mul a n))) none = _
  rw [cif_pos ⟨h0, h1, h⟩]
theorem sl_s {a : Str} {lo hi : Option Int} (h : a.length ≤ 16777216) : oSl (.str a) lo hi = some (.str (cutS a lo hi)) := by
  show (if a.length ≤ sizeLine then some (D.str (cutS a lo hi)) else none) = _
  rw [line_eq, if_pos h]
theorem len_s {a : Str} (h : a.length ≤ 16777216) : oLen [.str a] = some (.int a.length) := by
  rw [oLen_s, line_eq, if_pos h]
theorem ix_s {z : Str} {i : Int} (h : z.length ≤ 16777216) (h0 : 0 ≤ i) (h1 : i < z.length) : ∃ c, oIx (.str z) (.int i) = some (.str ⟨#[c]⟩) ∧ c ∈ z.cps.toList := by
  rw [oIx_s, line_eq, if_pos h]
  unfold atI
  rw [ixN_nat h0 (by rw [Array.length_toList]; exact h1)]
  have hz : i.toNat < z.cps.toList.length := by rw [Array.length_toList]; show i.toNat < z.length; omega
  exact ⟨z.cps.toList[i.toNat], by simp [List.getElem?_eq_getElem hz], List.getElem_mem hz⟩
theorem split_part {x y p : Str} (h : p ∈ Txt.split x y) : p.length ≤ x.length := by
  unfold Txt.split at h
  split at h
  · rw [List.mem_singleton.mp h]; exact Nat.le_refl _
  · split at h
    · rw [List.mem_singleton.mp h]; exact Nat.le_refl _
    · unfold Builtin.Str.partsBetween at h
      obtain ⟨q, _, e⟩ := List.mem_map.mp h
      rw [← e]
      show (x.cps.extract q.1 q.2).size ≤ x.cps.size
      rw [Array.size_extract]; omega
theorem sp_s {z b : Str} (h : b.length ≠ 0) (h2 : z.length + 2 ≤ 16777216) : oSplit z (.str b) = some (.lst ((Txt.split z b).map D.str)) := by
  show (if b.length ≠ 0 ∧ z.length + 2 ≤ sizeLine then some (D.lst ((Txt.split z b).map D.str)) else none) = _
  rw [line_eq, if_pos ⟨h, h2⟩]
theorem rng_1 {j : Int} (h0 : 0 ≤ j) (h1 : j < 2 ^ 62) : oRng [.int j] = some (dRng 0 j.toNat) := by
  show (cif (-(2 ^ 62) ≤ j ∧ j < 2 ^ 62) (some (dRng 0 j.toNat)) none) = _
  rw [cif_pos ⟨by omega, h1⟩]
theorem rng_2 {i j : Int} (h0 : -(2 ^ 62) ≤ i) (h1 : i < 2 ^ 62) (h2 : -(2 ^ 62) ≤ j) (h3 : j < 2 ^ 62) : oRng [.int i, .int j] = some (dRng i (j - i).toNat) := by
  show (cif (-(2 ^ 62) ≤ i ∧ i < 2 ^ 62 ∧ -(2 ^ 62) ≤ j ∧ j < 2 ^ 62) (some (dRng i (j - i).toNat)) none) = _
  rw [cif_pos ⟨h0, h1, h2, h3⟩]
theorem dRng_len (i : Int) (n : Nat) : (dRng i n).length = n := by unfold dRng; rw [List.length_map, List.length_range]
theorem dRng_mem {i : Int} {n : Nat} {d : D} (h : d ∈ dRng i n) : ∃ k : Int, d = .int k ∧ i ≤ k ∧ k < i + n := by
  unfold dRng at h
  obtain ⟨j, hj, e⟩ := List.mem_map.mp h
  have := List.mem_range.mp hj
  exact ⟨i + j, e.symm, by omega, by omega⟩
theorem in_s (neg : Bool) (c : Nat) (z : Str) : oIn neg (.str ⟨#[c]⟩) (.str z) = some (.bl (if neg then !decide (c ∈ z.cps.toList) else decide (c ∈ z.cps.toList))) := rfl
theorem app_l {l : List D} {d : D} (h : l.length < 16777216) : uAppend l [d] = some (.non, l ++ [d]) := by
  show (if l.length < sizeLine then some (D.non, l ++ [d]) else none) = _
  rw [line_eq, if_pos h]
theorem ok_app {a b : Str} (h : PyData.strOk a = true) (h2 : PyData.strOk b = true) : PyData.strOk (a ++ b) = true := by
  unfold PyData.strOk at h h2 ⊢
  show (a.cps ++ b.cps).all _ = true
  rw [Array.all_append, h, h2]; rfl
theorem ok_one {c : Nat} {z : Str} (h : PyData.strOk z = true) (hc : c ∈ z.cps.toList) : PyData.strOk ⟨#[c]⟩ = true := by
  unfold PyData.strOk at h ⊢
  rw [← Array.all_toList, List.all_eq_true] at h
  simpa using h c hc
theorem ok_fold : ∀ (k : Nat) (x acc : Array Nat), acc.all (· < 0x110000) = true → x.all (· < 0x110000) = true → ((List.replicate k x).foldl (· ++ ·) acc).all (· < 0x110000) = true
  | 0, x, acc, h, _ => by simpa using h
  | k + 1, x, acc, h, h2 => by
    rw [List.replicate_succ, List.foldl_cons]
    exact ok_fold k x _ (by rw [Array.all_append, h, h2]; rfl) h2
theorem ok_mul {x : Str} {n : Int} (h : PyData.strOk x = true) : PyData.strOk (Txt.mul x n) = true := by
  unfold Txt.mul
  split
  · decide +kernel
  · split
    · exact h
    · exact ok_fold _ _ _ (by decide +kernel) h
end DL

/-! DL15: loops by invariants, slots that are not locked, data that equal themselves. -/
namespace DL
open PySem PySem.Spec PyProof.Rows L2
/-- a slot that may be set -/
abbrev U := {s : Sl // unlk (some s) = true}
@[simp] theorem unlk_U (v : U) : unlk (some v.1) = true := v.2
abbrev uV (d : D) : U := ⟨.val d, rfl⟩
abbrev uO (d : D) : U := ⟨.own d, rfl⟩
abbrev uN : U := ⟨.no, rfl⟩
/-! for -/
theorem forD_inv {t : D → Rho → Option Rho} {b : SS} (I : List D → Rho → Sto → Prop) (R : SOut → Sto → Prop)
    (hs : ∀ d L ρ S, I (d :: L) ρ S → ∃ ρ1, t d ρ = some ρ1 ∧ ∃ o S', b ρ1 S = some (o, S') ∧ (match o with | .nx ρ' => I L ρ' S' | .cnt ρ' => I L ρ' S' | .brk ρ' => R (.nx ρ') S' | o => R o S'))
    (he : ∀ ρ S, I [] ρ S → R (.nx ρ) S) : ∀ (L : List D) (ρ : Rho) (S : Sto), I L ρ S → ∃ o S', forD t b L ρ S = some (o, S') ∧ R o S'
  | [], ρ, S, h => ⟨_, _, forD_n t b ρ S, he ρ S h⟩
  | d :: L, ρ, S, h => by
    obtain ⟨ρ1, e1, o, S', e2, h2⟩ := hs d L ρ S h
    rw [forD_c, e1]
    simp only [e2]
    cases o with
    | nx ρ' => exact forD_inv I R hs he L ρ' S' h2
    | cnt ρ' => exact forD_inv I R hs he L ρ' S' h2
    | brk ρ' => exact ⟨_, _, rfl, h2⟩
    | ret d => exact ⟨_, _, rfl, h2⟩
    | exc ρ' x => exact ⟨_, _, rfl, h2⟩
theorem forD_nx {t : D → Rho → Option Rho} {b : SS} (I : List D → Rho → Sto → Prop)
    (hs : ∀ d L ρ S, I (d :: L) ρ S → ∃ ρ1, t d ρ = some ρ1 ∧ ∃ ρ' S', b ρ1 S = some (.nx ρ', S') ∧ I L ρ' S') : ∀ (L : List D) (ρ : Rho) (S : Sto), I L ρ S → ∃ ρ' S', forD t b L ρ S = some (.nx ρ', S') ∧ I [] ρ' S'
  | [], ρ, S, h => ⟨_, _, forD_n t b ρ S, h⟩
  | d :: L, ρ, S, h => by
    obtain ⟨ρ1, e1, ρ', S', e2, h2⟩ := hs d L ρ S h
    rw [forD_c, e1]
    simp only [e2]
    exact forD_nx I hs L ρ' S' h2
theorem dRng_zero (lo : Int) : dRng lo 0 = [] := rfl
theorem dRng_succ (lo : Int) (n : Nat) : dRng lo (n + 1) = .int lo :: dRng (lo + 1) n := by
  unfold dRng
  rw [List.range_succ_eq_map, List.map_cons, List.map_map]
  simp only [Int.natCast_zero, Int.add_zero, List.cons.injEq, true_and]
  apply List.map_congr_left
  intro i _
  simp only [Function.comp, D.int.injEq]
  omega
/-- a range by its turns -/
theorem rng_inv {t : D → Rho → Option Rho} {b : SS} (I : Nat → Rho → Sto → Prop) (R : SOut → Sto → Prop) (lo : Int) (n : Nat)
    (hs : ∀ i ρ S, i < n → I i ρ S → ∃ ρ1, t (.int (lo + i)) ρ = some ρ1 ∧ ∃ o S', b ρ1 S = some (o, S') ∧ (match o with | .nx ρ' => I (i + 1) ρ' S' | .cnt ρ' => I (i + 1) ρ' S' | .brk ρ' => R (.nx ρ') S' | o => R o S'))
    (he : ∀ ρ S, I n ρ S → R (.nx ρ) S) {ρ : Rho} {S : Sto} (h : I 0 ρ S) : ∃ o S', forD t b (dRng lo n) ρ S = some (o, S') ∧ R o S' := by
  refine forD_inv (fun L ρ S => ∃ i, i + L.length = n ∧ L = dRng (lo + i) L.length ∧ I i ρ S) R (fun d L ρ S ⟨i, h1, h2, h3⟩ => ?_) (fun ρ S ⟨i, h1, h2, h3⟩ => he ρ S (by rw [← h1]; exact h3)) _ ρ S ⟨0, by rw [dRng_len]; omega, by rw [dRng_len]; simp, h⟩
  rw [List.length_cons] at h1
  rw [List.length_cons, dRng_succ] at h2
  injection h2 with h4 h5
  subst h4
  obtain ⟨ρ1, e1, o, S', e2, h6⟩ := hs i ρ S (by omega) h3
  refine ⟨ρ1, e1, o, S', e2, ?_⟩
  have e : lo + (i + 1 : Nat) = lo + i + 1 := by omega
  cases o <;> first | exact h6 | exact ⟨i + 1, by omega, by rw [e]; exact h5, h6⟩
theorem rng_nx {t : D → Rho → Option Rho} {b : SS} (I : Nat → Rho → Sto → Prop) (lo : Int) (n : Nat)
    (hs : ∀ i ρ S, i < n → I i ρ S → ∃ ρ1, t (.int (lo + i)) ρ = some ρ1 ∧ ∃ ρ' S', b ρ1 S = some (.nx ρ', S') ∧ I (i + 1) ρ' S')
    {ρ : Rho} {S : Sto} (h : I 0 ρ S) : ∃ ρ' S', forD t b (dRng lo n) ρ S = some (.nx ρ', S') ∧ I n ρ' S' := by
  obtain ⟨o, S', e, ρ', rfl, h2⟩ := rng_inv I (fun o S => ∃ ρ', o = .nx ρ' ∧ I n ρ' S) lo n (fun i ρ S hi hh => by
    obtain ⟨ρ1, e1, ρ', S', e2, h3⟩ := hs i ρ S hi hh
    exact ⟨ρ1, e1, _, S', e2, h3⟩) (fun ρ S hh => ⟨ρ, rfl, hh⟩) h
  exact ⟨ρ', S', e, h2⟩
/-! while -/
theorem whD_inv {fc : ST} {fb : SS} (I : Nat → Rho → Sto → Prop) (R : SOut → Sto → Prop)
    (hs : ∀ m ρ S, I m ρ S → (fc ρ S = some (.ok false, S) ∧ R (.nx ρ) S) ∨ (fc ρ S = some (.ok true, S) ∧ ∃ o S', fb ρ S = some (o, S') ∧ (match o with | .nx ρ' => ∃ m', m' < m ∧ I m' ρ' S' | .cnt ρ' => ∃ m', m' < m ∧ I m' ρ' S' | .brk ρ' => R (.nx ρ') S' | o => R o S'))) :
    ∀ (k m : Nat) (ρ : Rho) (S : Sto), m < k → I m ρ S → ∃ o S', whD fc fb k ρ S = some (o, S') ∧ R o S'
  | 0, m, ρ, S, hk, _ => by omega
  | k + 1, m, ρ, S, hk, h => by
    unfold whD
    rcases hs m ρ S h with ⟨e, h2⟩ | ⟨e, o, S', e2, h2⟩
    · simp only [e]; exact ⟨_, _, rfl, h2⟩
    · simp only [e, e2]
      cases o with
      | nx ρ' => obtain ⟨m', hm, h3⟩ := h2; exact whD_inv I R hs k m' ρ' S' (by omega) h3
      | cnt ρ' => obtain ⟨m', hm, h3⟩ := h2; exact whD_inv I R hs k m' ρ' S' (by omega) h3
      | brk ρ' => exact ⟨_, _, rfl, h2⟩
      | ret d => exact ⟨_, _, rfl, h2⟩
      | exc ρ' x => exact ⟨_, _, rfl, h2⟩
theorem bWhile_inv {fc : ST} {fb : SS} (I : Nat → Rho → Sto → Prop) (R : SOut → Sto → Prop)
    (hs : ∀ m ρ S, I m ρ S → (fc ρ S = some (.ok false, S) ∧ R (.nx ρ) S) ∨ (fc ρ S = some (.ok true, S) ∧ ∃ o S', fb ρ S = some (o, S') ∧ (match o with | .nx ρ' => ∃ m', m' < m ∧ I m' ρ' S' | .cnt ρ' => ∃ m', m' < m ∧ I m' ρ' S' | .brk ρ' => R (.nx ρ') S' | o => R o S')))
    (m : Nat) {ρ : Rho} {S : Sto} (h : I m ρ S) : ∃ o S', bWhile fc fb ρ S = some (o, S') ∧ R o S' := by
  obtain ⟨o, S', e, r⟩ := whD_inv I R hs (m + 1) m ρ S (Nat.lt_succ_self m) h
  exact ⟨o, S', bWhile_of e, r⟩
/-! data that are compared -/
def wf : Nat → D → Bool
  | _, .non => true
  | _, .bl _ => true
  | _, .int _ => true
  | _, .str x => PyData.strOk x
  | n + 1, .tup l => l.all (wf n)
  | n + 1, .lst l => l.all (wf n)
  | n + 1, .rol l => l.all (wf n)
  | _, _ => false
theorem wf_mono : ∀ {n m : Nat} {d : D}, n ≤ m → wf n d = true → wf m d = true
  | n, m, .non, _, _ => by cases m <;> rfl
  | n, m, .bl _, _, _ => by cases m <;> rfl
  | n, m, .int _, _, _ => by cases m <;> rfl
  | n, m, .str x, _, h => by cases m <;> cases n <;> exact h
  | n + 1, m + 1, .tup l, g, h => List.all_eq_true.mpr fun d hd => wf_mono (Nat.le_of_succ_le_succ g) (List.all_eq_true.mp h d hd)
  | n + 1, m + 1, .lst l, g, h => List.all_eq_true.mpr fun d hd => wf_mono (Nat.le_of_succ_le_succ g) (List.all_eq_true.mp h d hd)
  | n + 1, m + 1, .rol l, g, h => List.all_eq_true.mpr fun d hd => wf_mono (Nat.le_of_succ_le_succ g) (List.all_eq_true.mp h d hd)
  | 0, _, .tup _, _, h => by cases h
  | 0, _, .lst _, _, h => by cases h
  | 0, _, .rol _, _, h => by cases h
  | n, _, .dK _, _, h => by cases n <;> cases h
  | n, _, .dT _, _, h => by cases n <;> cases h
  | n, _, .ins _ _, _, h => by cases n <;> cases h
  | n, _, .obj _, _, h => by cases n <;> cases h
  | n + 1, 0, .tup _, g, _ => by omega
  | n + 1, 0, .lst _, g, _ => by omega
  | n + 1, 0, .rol _, g, _ => by omega
theorem wfs_of {n : Nat} (ih : ∀ d, wf n d = true → pyOk d = true ∧ PyData.canLay0 (py d) = true ∧ PyData.depth (py d) ≤ n) : ∀ l : List D, l.all (wf n) = true → pyOks l = true ∧ PyData.canLayAll0 (pys l) = true ∧ PyData.depthAll (pys l) ≤ n
  | [], _ => ⟨rfl, rfl, Nat.zero_le _⟩
  | d :: r, h => by
    rw [List.all_cons, Bool.and_eq_true] at h
    obtain ⟨a1, a2, a3⟩ := ih d h.1
    obtain ⟨b1, b2, b3⟩ := wfs_of ih r h.2
    refine ⟨by simp [pyOks, a1, b1], by simp [pys, PyData.canLayAll0, a2, b2], ?_⟩
    simp only [pys, PyData.depthAll]
    omega
theorem wf_of : ∀ (n : Nat) (d : D), wf n d = true → pyOk d = true ∧ PyData.canLay0 (py d) = true ∧ PyData.depth (py d) ≤ n
  | n, .non, _ => ⟨rfl, rfl, Nat.zero_le _⟩
  | n, .bl _, _ => ⟨rfl, rfl, Nat.zero_le _⟩
  | n, .int _, _ => ⟨rfl, rfl, Nat.zero_le _⟩
  | n, .str x, h => ⟨rfl, by cases n <;> exact h, Nat.zero_le _⟩
  | n + 1, .tup l, h => by
    obtain ⟨a, b, c⟩ := wfs_of (wf_of n) l h
    exact ⟨a, b, by simp only [py, PyData.depth]; omega⟩
  | n + 1, .lst l, h => by
    obtain ⟨a, b, c⟩ := wfs_of (wf_of n) l h
    exact ⟨a, b, by simp only [py, PyData.depth]; omega⟩
  | n + 1, .rol l, h => by
    obtain ⟨a, b, c⟩ := wfs_of (wf_of n) l h
    exact ⟨a, b, by simp only [py, PyData.depth]; omega⟩
  | 0, .tup _, h => by cases h
  | 0, .lst _, h => by cases h
  | 0, .rol _, h => by cases h
  | n, .dK _, h => by cases n <;> cases h
  | n, .dT _, h => by cases n <;> cases h
  | n, .ins _ _, h => by cases n <;> cases h
  | n, .obj _, h => by cases n <;> cases h
theorem wf_eqOk {n : Nat} {d : D} (h : wf n d = true) (hn : n ≤ 64 := by decide) : eqOk d = true := by
  obtain ⟨a, b, c⟩ := wf_of n d h
  unfold eqOk SeqAt.shaped
  rw [a, b, decide_eq_true (by omega)]; rfl
theorem eqAll_refl {n : Nat} (ih : ∀ d, wf n d = true → eqD d d = true) : ∀ l : List D, l.all (wf n) = true → PyData.eqvAll (pys l) (pys l) = true
  | [], _ => rfl
  | d :: r, h => by
    rw [List.all_cons, Bool.and_eq_true] at h
    have h1 := ih d h.1
    unfold eqD at h1
    simp only [pys, PyData.eqvAll, h1, eqAll_refl ih r h.2]; rfl
theorem eqD_refl : ∀ (n : Nat) (d : D), wf n d = true → eqD d d = true
  | n, .non, _ => rfl
  | n, .bl b, _ => by simp [eqD, py, PyData.eqv]
  | n, .int _, _ => by simp [eqD, py, PyData.eqv]
  | n, .str x, h => by simp [eqD, py, PyData.eqv]
  | n + 1, .tup l, h => by have := eqAll_refl (eqD_refl n) l h; simp [eqD, py, PyData.eqv, this]
  | n + 1, .lst l, h => by have := eqAll_refl (eqD_refl n) l h; simp [eqD, py, PyData.eqv, this]
  | n + 1, .rol l, h => by have := eqAll_refl (eqD_refl n) l h; simp [eqD, py, PyData.eqv, this]
  | 0, .tup _, h => by cases h
  | 0, .lst _, h => by cases h
  | 0, .rol _, h => by cases h
  | n, .dK _, h => by cases n <;> cases h
  | n, .dT _, h => by cases n <;> cases h
  | n, .ins _ _, h => by cases n <;> cases h
  | n, .obj _, h => by cases n <;> cases h
theorem dEq_g {a b : D} (ha : eqOk a = true) (hb : eqOk b = true) : dEq a b = some (.bl (eqD a b)) := by
  cases a <;> cases b <;> first | (simp only [dEq, ha, hb]; rfl) | (rw [dEq_i]; simp [eqD, py, PyData.eqv, beq_eq_decide]) | (rw [dEq_s]; simp [eqD, py, PyData.eqv, beq_eq_decide])
theorem dNe_g {a b : D} (ha : eqOk a = true) (hb : eqOk b = true) : dNe a b = some (.bl (!eqD a b)) := by
  cases a <;> cases b <;> first | (simp only [dNe, ha, hb]; rfl) | (rw [dNe_i]; simp [eqD, py, PyData.eqv, beq_eq_decide]) | (rw [dNe_s]; simp [eqD, py, PyData.eqv, beq_eq_decide])
theorem dEq_self {n : Nat} {d : D} (h : wf n d = true) (hn : n ≤ 64 := by decide) : dEq d d = some (.bl true) := by
  rw [dEq_g (wf_eqOk h hn) (wf_eqOk h hn), eqD_refl n d h]
theorem dNe_self {n : Nat} {d : D} (h : wf n d = true) (hn : n ≤ 64 := by decide) : dNe d d = some (.bl false) := by
  rw [dNe_g (wf_eqOk h hn) (wf_eqOk h hn), eqD_refl n d h]; rfl
/-! signs of texts -/
abbrev cs (t : Str) : List Nat := t.cps.toList
def chr (c : Nat) : Str := ⟨#[c]⟩
def txt (l : List Nat) : Str := ⟨l.toArray⟩
@[simp] theorem cs_app (a b : Str) : cs (a ++ b) = cs a ++ cs b := by
  show (a.cps ++ b.cps).toList = _
  rw [Array.toList_append]
@[simp] theorem cs_txt (l : List Nat) : cs (txt l) = l := rfl
@[simp] theorem cs_chr (c : Nat) : cs (chr c) = [c] := rfl
theorem txt_cs (t : Str) : txt (cs t) = t := by
  obtain ⟨⟨l⟩⟩ := t
  rfl
theorem len_cs (t : Str) : (cs t).length = t.length := Array.length_toList
theorem cs_inj {a b : Str} (h : cs a = cs b) : a = b := by rw [← txt_cs a, ← txt_cs b, h]
theorem txt_app (a b : List Nat) : txt a ++ txt b = txt (a ++ b) := cs_inj (by simp)
theorem foldl_cs : ∀ (k : Nat) (x acc : Array Nat), ((List.replicate k x).foldl (· ++ ·) acc).toList = acc.toList ++ (List.replicate k x.toList).flatten
  | 0, x, acc => by simp
  | k + 1, x, acc => by
    rw [List.replicate_succ, List.foldl_cons, foldl_cs k x, List.replicate_succ, List.flatten_cons, Array.toList_append, List.append_assoc]
theorem cs_mul (x : Str) (n : Int) : cs (Txt.mul x n) = (List.replicate n.toNat (cs x)).flatten := by
  unfold Txt.mul
  by_cases h : n < 1
  · rw [if_pos h, show n.toNat = 0 by omega]; rfl
  · rw [if_neg h]
    by_cases h2 : (n == 1 || x.length == 0) = true
    · rw [if_pos h2]
      rcases Bool.or_eq_true_iff.mp h2 with e | e
      · rw [beq_iff_eq.mp e]; simp
      · have l0 : cs x = [] := List.length_eq_zero_iff.mp (by rw [len_cs]; exact beq_iff_eq.mp e)
        rw [l0]; simp
    · rw [if_neg h2]
      show ((List.replicate n.toNat x.cps).foldl (· ++ ·) #[]).toList = _
      rw [foldl_cs]; rfl
theorem mem_mul {c : Nat} {x : Str} {n : Int} (h : c ∈ cs (Txt.mul x n)) : c ∈ cs x := by
  rw [cs_mul] at h
  obtain ⟨l, h1, h2⟩ := List.mem_flatten.mp h
  rw [(List.mem_replicate.mp h1).2] at h2; exact h2
theorem mem_cut {c : Nat} {z : Str} {lo hi : Option Int} (h : c ∈ cs (cutS z lo hi)) : c ∈ cs z := by
  unfold cutS at h
  exact List.mem_of_mem_drop (List.mem_of_mem_take h)
theorem ok_cs {t : Str} (h : ∀ c ∈ cs t, c < 0x110000) : PyData.strOk t = true := by
  unfold PyData.strOk
  rw [← Array.all_toList, List.all_eq_true]
  intro c hc
  simpa using h c hc
theorem cs_ok {t : Str} (h : PyData.strOk t = true) : ∀ c ∈ cs t, c < 0x110000 := by
  unfold PyData.strOk at h
  rw [← Array.all_toList, List.all_eq_true] at h
  intro c hc
  simpa using h c hc
theorem chr_eq (c d : Nat) : (decide (chr c = chr d)) = decide (c = d) := by
  by_cases h : c = d
  · rw [h]; simp
  · have : chr c ≠ chr d := fun z => h (by injection z with z; simpa using z)
    rw [decide_eq_false h, decide_eq_false this]
/-! the second object of a store -/
@[simp] theorem stL_1 (b : Ob) (l : List D) (tl : Sto) : stL (b :: .lst l :: tl) 1 = some l := rfl
@[simp] theorem dref_1 (b : Ob) (l : List D) (tl : Sto) : dref (b :: .lst l :: tl) (.obj 1) = .lst l := rfl
end DL

/-! DL16: list comprehensions, isinstance. -/
namespace DL
open PySem PySem.Spec PyProof.Rows L2
/-! ### slots forgotten -/
def wipeR (ρ : Rho) : List Nat → Rho
  | [] => ρ
  | v :: vs => (wipeR ρ vs).set v .no
theorem wipe_get (σ : L2.St) : ∀ (vs : List Nat) (i : Nat), (wipe σ vs)[i]? = if i ∈ vs then (σ[i]?).map (fun _ => none) else σ[i]?
  | [], i => by simp [wipe]
  | v :: vs, i => by
    unfold wipe
    by_cases h : v = i
    · subst h
      have e := wipe_get σ vs v
      by_cases hl : v < σ.length
      · rw [List.getElem?_set_self (by rw [wipe_length]; exact hl), if_pos List.mem_cons_self, List.getElem?_eq_getElem hl]; rfl
      · rw [List.getElem?_eq_none (by rw [List.length_set, wipe_length]; omega), if_pos List.mem_cons_self, List.getElem?_eq_none (by omega)]; rfl
    · rw [List.getElem?_set_ne h, wipe_get σ vs i]
      have h2 : i ≠ v := fun z => h z.symm
      simp [h2]
theorem wipe_idem (σ : L2.St) (vs : List Nat) : wipe (wipe σ vs) vs = wipe σ vs := by
  apply List.ext_getElem?
  intro i
  rw [wipe_get, wipe_get]
  by_cases h : i ∈ vs
  · rw [if_pos h, if_pos h]; cases σ[i]? <;> rfl
  · rw [if_neg h, if_neg h]
theorem wipe_set {σ : L2.St} {vs : List Nat} {i : Nat} {x : Option V} (h : i ∈ vs) : wipe (σ.set i x) vs = wipe σ vs := by
  apply List.ext_getElem?
  intro j
  rw [wipe_get, wipe_get]
  by_cases hj : j ∈ vs
  · rw [if_pos hj, if_pos hj]
    by_cases hi : i = j
    · subst hi
      by_cases hl : i < σ.length
      · rw [List.getElem?_set_self hl, List.getElem?_eq_getElem hl]; rfl
      · rw [List.getElem?_eq_none (by rw [List.length_set]; omega), List.getElem?_eq_none (by omega)]
    · rw [List.getElem?_set_ne hi]
  · rw [if_neg hj, if_neg hj, List.getElem?_set_ne (fun z : i = j => hj (by rw [← z]; exact h))]
section
variable {K : PySem.W.Frag} {ca : Ca} {H0 : Bs} {H H' H1 : Hp} {W W' W1 : Wd} {σ : L2.St} {ρ : Rho} {S S' : Sto} {a : Addr} {o : HO}
theorem Rep.wipe (R : Rep K ca H0 W H σ ρ S) : ∀ vs : List Nat, Rep K ca H0 W H (L2.wipe σ vs) (wipeR ρ vs) S
  | [] => R
  | v :: vs => (Rep.wipe R vs).setO trivial
theorem Rep.ofFut (R : Rep K ca H0 W H σ ρ S) (F : Fut W H W' H') (w : WOk W' H') (s : RepS K ca W' H' S') : Rep K ca H0 W' H' σ ρ S' where
  w := w
  s := s
  len := R.len
  sl := fun i x e => by
    obtain ⟨v, h1, h2⟩ := R.sl i x e
    refine ⟨v, h1, h2.mono F.hf F.ad fun b o hb hc => F.keep b o hb ?_⟩
    rcases hc with hc | hc | ⟨hc, _⟩
    · rw [hc]; rfl
    · rw [hc]; rfl
    · exact calmS_O hc
  h0 := fun a o e => by
    obtain ⟨o', h⟩ := R.h0 a o e
    exact F.dom a o' h
/-- a new object of no one's is changed -/
theorem Rep.mutFree (R : Rep K ca H0 W H σ ρ S) (h00 : H0 a = none) (h1 : W.hf a = none) (h2 : W.ow a = none) (h3 : ∃ o, H a = some o) (ht : ∀ xs, o ≠ .tup xs) : Rep K ca H0 W (upd H a o) σ ρ S := by
  have ne : ∀ b, b ≠ a → upd H a o b = H b := fun b h => upd_ne h
  refine ⟨⟨fun b x e => ?_, fun b xs e => ?_, R.w.dis, fun b q e => ?_⟩, ⟨fun n ob e => ?_, R.s.fin⟩, R.len, fun i x e => ?_, fun b x e => ?_⟩
  · have hb : b ≠ a := fun z => by subst z; rw [h1] at e; cases e
    rw [ne b hb]; exact R.w.sub b x e
  · by_cases h : b = a
    · subst h; rw [upd_same] at e; cases e; exact absurd rfl (ht xs)
    · rw [ne b h] at e; exact R.w.tup b xs e
  · by_cases h : b = a
    · subst h; exact ⟨o, upd_same⟩
    · obtain ⟨o', h'⟩ := R.w.dom b q e; exact ⟨o', by rw [ne b h]; exact h'⟩
  · obtain ⟨b, k1, k2, k3⟩ := R.s.at_ n ob e
    have hb : b ≠ a := fun z => by subst z; rw [h2] at k2; cases k2
    exact ⟨b, k1, k2, k3.mono (fun u h => by rw [ne b hb]; exact h) (Same.refl _) fun _ _ h => h⟩
  · obtain ⟨v, k1, k2⟩ := R.sl i x e
    refine ⟨v, k1, k2.mono (Same.refl _) (fun _ _ h => h) fun b u hb hc => ⟨?_, rfl⟩⟩
    have hb' : b ≠ a := fun z => by
      subst z
      rcases hc with hc | hc | ⟨_, o2, hc⟩
      · rw [h2] at hc; cases hc
      · rw [h2] at hc; cases hc
      · rw [h00] at hc; cases hc
    rw [ne b hb']; exact hb
  · obtain ⟨o', h⟩ := R.h0 b x e
    by_cases hb : b = a
    · subst hb; exact ⟨o, upd_same⟩
    · exact ⟨o', by rw [ne b hb]; exact h⟩
theorem Fut.mutNew (F : Fut W1 H1 W H) (h : H1 a = none) : Fut W1 H1 W (upd H a o) where
  hf := F.hf
  ad := F.ad
  keep := fun b u hb hc => by
    have hb' : b ≠ a := fun z => by subst z; rw [h] at hb; cases hb
    obtain ⟨k1, k2⟩ := F.keep b u hb hc
    exact ⟨by rw [upd_ne hb']; exact k1, k2⟩
  new := FutG.new F
  dom := fun b u hb => by
    obtain ⟨o', h'⟩ := F.dom b u hb
    by_cases hx : b = a
    · subst hx; exact ⟨o, upd_same⟩
    · exact ⟨o', by rw [upd_ne hx]; exact h'⟩
/-- what stood of no one's stands -/
theorem Fut.free (F : Fut W H W' H') (h1 : W.hf a = none) (h2 : W.ow a = none) (h3 : H a = some o) : H' a = some o ∧ W'.ow a = none ∧ W'.hf a = none := by
  obtain ⟨k1, k2⟩ := F.keep a o h3 (by rw [h2]; rfl)
  refine ⟨k1, k2.trans h2, ?_⟩
  cases e : W'.hf a with
  | none => rfl
  | some u =>
    have := FutG.new F a u e h1
    rw [h3] at this; cases this
end
/-! ### comprehensions -/
def mq {α : Type} (x : M α) : M α := fun S => match x S with
  | some (.ok a, S') => some (.ok a, S')
  | _ => none
def sYes : ST := fun _ => mp true
def lcD (tgt : D → Rho → Option Rho) (ft : ST) (fe : SE) (ρ : Rho) : List D → List D → M D
  | out, [] => mp (.lst out)
  | out, d :: r => match tgt d ρ with
    | none => mf
    | some ρ1 => mb (mq (ft ρ1)) fun b => if b = true then mb (mq (fe ρ1)) fun y => if out.length < sizeLine then lcD tgt ft fe ρ (out ++ [y]) r else mf else lcD tgt ft fe ρ out r
def sLc (vs : List Nat) (src : SA) (tgt : D → Rho → Option Rho) (ft : ST) (fe : SE) : SE := fun ρ => mb (src ρ) fun ds => lcD tgt ft fe (wipeR ρ vs) [] ds
section
variable (K : PySem.W.Frag) (ca : Ca) (H0 : Bs)
def tGw (vs : List Nat) (tgt : D → Rho → Option Rho) : TG := fun v σ H Q => ∃ W ρ S d ρ', Rep K ca H0 W H σ ρ S ∧ DV K ca W.hf W.ad v d ∧ tgt d ρ = some ρ' ∧ ∀ σ', L2.wipe σ' vs = L2.wipe σ vs → Rep K ca H0 W H σ' ρ' S → Q σ' H
def tGws (vs : List Nat) (tgt : List D → Rho → Option Rho) : TGs := fun us σ H Q => ∃ W ρ S ds ρ', Rep K ca H0 W H σ ρ S ∧ DVs K ca W.hf W.ad us ds ∧ tgt ds ρ = some ρ' ∧ ∀ σ', L2.wipe σ' vs = L2.wipe σ vs → Rep K ca H0 W H σ' ρ' S → Q σ' H
end
abbrev DGw (X : Cx) (ca : Ca) (H0 : Bs) (vs : List Nat) (tg : Expr) (f : D → Rho → Option Rho) : Prop := PG X tg (tGw X.K ca H0 vs f)
abbrev DGws (X : Cx) (ca : Ca) (H0 : Bs) (vs : List Nat) (tg : List Expr) (f : List D → Rho → Option Rho) : Prop := PGs X tg (tGws X.K ca H0 vs f)
section
variable {X : Cx} {ca : Ca} {H0 : Bs} {Wx : WX} {mr m : Md} {vs : List Nat}
theorem dgw_name {i : Nat} {x : Str} {pos : Pos} (hN : X.N.Nodup) (hi : X.N[i]? = some x) (hx : Loc X.env.scope x) (hv : i ∈ vs) (hf : X.fn x = true ∨ X.env.scope.names.lookup x = some .local := by first | exact .inl rfl | exact .inr rfl | assumption) : DGw X ca H0 vs (.Name x pos) (tgName i) :=
  PG.imp (pg_name hN hi hx hf) fun v σ H Q ⟨W, ρ, S, d, ρ', R, q, e, k⟩ => by
    unfold tgName at e
    by_cases hu : unlk ρ[i]? = true
    · rw [if_pos hu] at e; cases e
      exact k _ (wipe_set hv) (R.set ⟨v, rfl, q⟩)
    · rw [if_neg hu] at e; cases e
theorem dgws_nil : DGws X ca H0 vs [] tgNil := PGs.imp pgs_nil fun us σ H Q ⟨W, ρ, S, ds, ρ', R, q, e, k⟩ => by
  cases q with
  | nil => cases e; exact ⟨rfl, k σ rfl R⟩
  | cons _ _ => cases e
theorem dgws_cons {e : Expr} {es : List Expr} {t : D → Rho → Option Rho} {u : List D → Rho → Option Rho} (h1 : DGw X ca H0 vs e t) (h2 : DGws X ca H0 vs es u)
    (hs : (assignEach (e :: es) X.env).map (·.2) = assign e X.env :: (assignEach es X.env).map (·.2) := by rfl) : DGws X ca H0 vs (e :: es) (tgCons t u) :=
  PGs.imp (pgs_cons h1 h2 hs) fun us σ H Q ⟨W, ρ, S, ds, ρ', R, q, e, k⟩ => by
    cases q with
    | nil => cases e
    | cons q r =>
      obtain ⟨ρ1, e1, e2⟩ := Option.bind_eq_some_iff.mp e
      exact ⟨_, _, rfl, W, ρ, S, _, ρ1, R, q, e1, fun σ1 z1 R1 => ⟨W, ρ1, S, _, ρ', R1, r, e2, fun σ2 z2 R2 => k σ2 (z2.trans z1) R2⟩⟩
theorem dgw_tup {es : List Expr} {k n : Nat} {u : List D → Rho → Option Rho} {pos : Pos} (hc : X.calm = true) (h : DGws X ca H0 vs es u)
    (hn : (assignEach es X.env).length = n := by rfl) (hst : (assignEach es X.env).findIdx? (·.1) = none := by rfl) : DGw X ca H0 vs (.Tuple es k pos) (tgTup n u) :=
  PG.imp (PG.or (pg_tup hc h hn hst) (pg_lst hc h hn hst)) fun v σ H Q ⟨W, ρ, S, d, ρ', R, q, e, k⟩ => by
    cases d with
    | tup l =>
      have e : (if l.length = n then u l ρ else none) = some ρ' := e
      obtain ⟨a, us, rfl, h1, h2⟩ := DV.ofTup q
      by_cases hl : l.length = n
      · rw [if_pos hl] at e
        exact .inl ⟨a, us, rfl, R.w.tupOf h1, by rw [h2.length]; exact hl, W, ρ, S, l, ρ', R, h2, e, k⟩
      · rw [if_neg hl] at e; cases e
    | lst l =>
      have e : (if l.length = n then u l ρ else none) = some ρ' := e
      obtain ⟨a, us, rfl, h1, h2⟩ := DV.ofLst q
      by_cases hl : l.length = n
      · rw [if_pos hl] at e
        exact .inr ⟨a, us, rfl, .inl (.inl (R.w.sub _ _ h1)), by rw [h2.length]; exact hl, W, ρ, S, l, ρ', R, h2, e, k⟩
      · rw [if_neg hl] at e; cases e
    | _ => cases e
theorem PTs.imp {X : Cx} {e : List Expr} {t t' : TT} (h : PTs X e t) (i : ∀ σ H Q, t' σ H Q → t σ H Q) : PTs X e t' := ⟨fun pins s σ H Q I q => h.run pins s σ H Q I (i σ H Q q)⟩
theorem dts_nil : PTs X [] (tT X.K ca H0 Wx sYes) := PTs.imp pts_nil fun σ H Q ⟨W, ρ, S, R, o⟩ => o W H (FutG.refl _ _) R
theorem dts_one {c : Expr} {f : ST} (h : DT X ca H0 Wx c f) : PTs X [c] (tT X.K ca H0 Wx f) := pts_one h
abbrev Wn : WX := fun _ _ _ _ => False
theorem lc_of {K : PySem.W.Frag} {src : SA} {tgt : D → Rho → Option Rho} {ft : ST} {fe : SE} {σ : L2.St} {H : Hp} {Q : VK} (h : tE K ca H0 Wx m (sLc vs src tgt ft fe) σ H Q) :
    tLc (tI K ca H0 Wx src) (tGw K ca H0 vs tgt) (tT K ca H0 Wn ft) (tE K ca H0 Wn .frz fe) vs σ H Q := by
  obtain ⟨W, ρ, S, R, h⟩ := h
  refine ⟨W, ρ, S, R, (OutM.bind h).imp fun ds S1 W1 H1 F1 R1 h1 J y D hD => ?_⟩
  refine ⟨fun i mm H' => mm = ds.length - i ∧ ∃ W' S' acc out, Fut W1 H1 W' H' ∧ Rep K ca H0 W' H' σ ρ S' ∧ W'.hf D = none ∧ W'.ow D = none ∧ H' D = some (.lst acc) ∧ DVs K ca W'.hf W'.ad acc out ∧
    OutM K ca H0 Wx W1 ρ σ H1 (lcD tgt ft fe (wipeR ρ vs) out (ds.drop i) S') (fun d _ W'' H'' => ∀ v, DR K ca m H W'' H'' v d → Q v H''), ?_, ?_⟩
  · obtain ⟨f1, f2⟩ := R1.w.free hD
    exact ⟨ds.length, by simp, W1, S1, [], [], Fut.laid R1.w hD, R1.laid hD (fun _ z => by cases z), f1, f2, upd_same, .nil, by rw [List.drop_zero]; exact h1⟩
  rintro i m' H2 ⟨rfl, W2, S2, acc, out, F2, R2, d1, d2, d3, q, h2⟩
  have h00 : H0 D = none := none_of_dom R1.h0 hD
  obtain ⟨y1, y2⟩ := y i W2 H2 (Fut.s F2 R1.h0) R2.w
  by_cases hi : i < ds.length
  · have e1 : ds[i]? = some ds[i] := by simp [hi]
    obtain ⟨go, y3⟩ := y1 _ e1
    rw [List.drop_eq_getElem_cons hi] at h2
    refine .inr ⟨go, fun H' => ∃ W' S' acc out, Fut W1 H1 W' H' ∧ Rep K ca H0 W' H' σ ρ S' ∧ W'.hf D = none ∧ W'.ow D = none ∧ H' D = some (.lst acc) ∧ DVs K ca W'.hf W'.ad acc out ∧
      OutM K ca H0 Wx W1 ρ σ H1 (lcD tgt ft fe (wipeR ρ vs) out (ds.drop (i + 1)) S') (fun d _ W'' H'' => ∀ v, DR K ca m H W'' H'' v d → Q v H''), fun H' n => ⟨_, by omega, rfl, n⟩, fun x H3 yl => ?_⟩
    obtain ⟨W3, F3, R3, qx⟩ := y3 x H3 yl σ ρ S2 R2
    obtain ⟨g1, g2, g3⟩ := Fut.free F3 d1 d2 d3
    have F13 := Fut.trans' F2 F3
    unfold lcD at h2
    cases et : tgt ds[i] (wipeR ρ vs) with
    | none => simp only [et] at h2; exact False.elim h2
    | some ρ1 =>
      simp only [et] at h2
      refine ⟨W3, wipeR ρ vs, S2, _, ρ1, R3.wipe vs, qx, et, fun σ2 z2 RR => ⟨by rw [z2, wipe_idem], W3, ρ1, S2, RR, ?_⟩⟩
      have q3 := q.mono F3.hf F3.ad
      unfold mb mq at h2
      cases e2 : ft ρ1 S2 with
      | none => simp only [e2] at h2; exact False.elim h2
      | some r =>
        obtain ⟨r, S3⟩ := r
        cases r with
        | error z => simp only [e2] at h2; exact False.elim h2
        | ok b =>
          simp only [e2] at h2
          intro W4 H4 F4 R4
          obtain ⟨k1, k2, k3⟩ := Fut.free F4 g3 g2 g1
          have F14 := Fut.trans' F13 F4
          have R4' := R3.ofFut F4 R4.w R4.s
          have q4 := q3.mono F4.hf F4.ad
          cases b with
          | false => exact ⟨W4, S3, acc, out, F14, R4', k3, k2, k1, q4, h2⟩
          | true =>
            refine ⟨W4, ρ1, S3, R4, ?_⟩
            simp only [if_true] at h2
            cases e3 : fe ρ1 S3 with
            | none => simp only [e3] at h2; exact False.elim h2
            | some r =>
              obtain ⟨r, S4⟩ := r
              cases r with
              | error z => simp only [e3] at h2; exact False.elim h2
              | ok y =>
                simp only [e3] at h2
                intro W5 H5 F5 R5 v Dv
                obtain ⟨j1, j2, j3⟩ := Fut.free F5 k3 k2 k1
                by_cases hz : out.length < sizeLine
                · rw [if_pos hz] at h2
                  have q5 := q4.mono F5.hf F5.ad
                  refine ⟨acc, j1, by rw [q5.length]; exact hz, W5, S4, acc ++ [v], out ++ [y], Fut.mutNew (Fut.trans' F14 F5) hD, (R4'.ofFut F5 R5.w R5.s).mutFree h00 j3 j2 ⟨_, j1⟩ (fun _ z => by cases z), j3, j2, upd_same, q5.app (.cons Dv .nil), h2⟩
                · rw [if_neg hz] at h2; exact False.elim h2
  · rw [List.drop_eq_nil_of_le (by omega)] at h2
    refine .inl ⟨y2 (by omega), ?_⟩
    have h3 : ∀ W' H', Fut W1 H1 W' H' → Rep K ca H0 W' H' σ ρ S2 → ∀ v, DR K ca m H W' H' v (.lst out) → Q v H' := h2
    have hH : H D = none := none_of_dom F1.dom hD
    cases m with
    | frz => exact h3 (W2.fz D (.lst acc)) H2 ((F2.trans (FutG.fz d1 hD))) (R2.fz d3 d1 d2) (.ref D) (DV.lst upd_same (q.mono (same_upd d1) fun _ _ h => h))
    | bor => exact h3 W2 H2 F2 R2 (.ref D) ⟨D, acc, rfl, d3, by rw [d2]; rfl, q⟩
    | sta => exact h3 W2 H2 F2 R2 (.ref D) ⟨D, acc, rfl, d3, by rw [d2]; rfl, q⟩
    | fre => exact h3 W2 H2 F2 R2 (.ref D) ⟨D, acc, rfl, hH, d1, d2, d3, q⟩
theorem de_lc {elt tg iter : Expr} {ifs : List Expr} {scope : Scope} {own : List (Str × Nat)} {pos : Pos} {src : SA} {tgt : D → Rho → Option Rho} {ft : ST} {fe : SE} (hc : X.calm = true) (hN : X.N.Nodup) (hi : DI X ca H0 Wx tg iter src) (ok : BlkOk X.N X.env.scope scope own)
    (hg : ∀ (s : Shared) (H : Hp) (C : Addr) (cl : List (Str × Addr)) (fp : List Addr), DGw (X.blk s H scope (compEnvC scope cl C X.env) fp) ca H0 (own.map (·.2)) tg tgt) (ht : ∀ (s : Shared) (H : Hp) (C : Addr) (cl : List (Str × Addr)) (fp : List Addr), PTs (X.blk s H scope (compEnvC scope cl C X.env) fp) ifs (tT X.K ca H0 Wn ft))
    (he : ∀ (s : Shared) (H : Hp) (C : Addr) (cl : List (Str × Addr)) (fp : List Addr), DE (X.blk s H scope (compEnvC scope cl C X.env) fp) ca H0 Wn .frz elt fe) (hs : ∀ x, foldedSetIterable iter X.env x = pure x := by intro _; rfl) :
    DE X ca H0 Wx m (.ListComp elt [⟨tg, iter, ifs, 0⟩] scope pos) (sLc (own.map (·.2)) src tgt ft fe) :=
  PE.imp (pe_lc hc hN hi ok hg ht he hs) fun σ H Q h => lc_of h
theorem ds_setLc {i : Nat} {y : Str} {py : Pos} {elt tg iter : Expr} {ifs : List Expr} {scope : Scope} {own : List (Str × Nat)} {pos spos : Pos} {src : SA} {tgt : D → Rho → Option Rho} {ft : ST} {fe : SE} (hc : X.calm = true) (hN : X.N.Nodup) (hy : X.N[i]? = some y) (hyl : X.env.scope.names.lookup y = some .local)
    (hsw : swapsWith (.ListComp elt [⟨tg, iter, ifs, 0⟩] scope pos) (some (.Name y py)) spos.line X.env = pure true) (hi : DI X ca H0 Wx tg iter src) (ok : BlkOk X.N X.env.scope scope own)
    (hg : ∀ (s : Shared) (H : Hp) (C : Addr) (cl : List (Str × Addr)) (fp : List Addr), DGw (X.blk s H scope (compEnvC scope cl C X.env) fp) ca H0 (own.map (·.2)) tg tgt) (ht : ∀ (s : Shared) (H : Hp) (C : Addr) (cl : List (Str × Addr)) (fp : List Addr), PTs (X.blk s H scope (compEnvC scope cl C X.env) fp) ifs (tT X.K ca H0 Wn ft))
    (he : ∀ (s : Shared) (H : Hp) (C : Addr) (cl : List (Str × Addr)) (fp : List Addr), DE (X.blk s H scope (compEnvC scope cl C X.env) fp) ca H0 Wn .frz elt fe) (hs : ∀ x, foldedSetIterable iter X.env x = pure x := by intro _; rfl) :
    DS X ca H0 Wx mr (.Assign [.Name y py] (.ListComp elt [⟨tg, iter, ifs, 0⟩] scope pos) spos) (bSet i (sLc (own.map (·.2)) src tgt ft fe)) :=
  PS.imp (ps_setLc hc hN hy hyl hsw hi ok hg ht he hs) fun D σ H ⟨W, ρ, S, R, o⟩ => lc_of (m := .frz) ⟨W, ρ, S, R, (OutS.bind R o).imp fun d S' W' H' F R' h v r => by
    by_cases hu : unlk ρ[i]? = true
    · rw [if_pos hu] at h
      exact h W' H' _ (FutG.refl _ _) (R'.set ⟨v, rfl, r⟩)
    · rw [if_neg hu] at h; exact False.elim h⟩
theorem ds_setOwnLc {i : Nat} {y : Str} {py : Pos} {elt tg iter : Expr} {ifs : List Expr} {scope : Scope} {own : List (Str × Nat)} {pos spos : Pos} {src : SA} {tgt : D → Rho → Option Rho} {ft : ST} {fe : SE} (hc : X.calm = true) (hN : X.N.Nodup) (hy : X.N[i]? = some y) (hyl : X.env.scope.names.lookup y = some .local)
    (hsw : swapsWith (.ListComp elt [⟨tg, iter, ifs, 0⟩] scope pos) (some (.Name y py)) spos.line X.env = pure true) (hi : DI X ca H0 Wx tg iter src) (ok : BlkOk X.N X.env.scope scope own)
    (hg : ∀ (s : Shared) (H : Hp) (C : Addr) (cl : List (Str × Addr)) (fp : List Addr), DGw (X.blk s H scope (compEnvC scope cl C X.env) fp) ca H0 (own.map (·.2)) tg tgt) (ht : ∀ (s : Shared) (H : Hp) (C : Addr) (cl : List (Str × Addr)) (fp : List Addr), PTs (X.blk s H scope (compEnvC scope cl C X.env) fp) ifs (tT X.K ca H0 Wn ft))
    (he : ∀ (s : Shared) (H : Hp) (C : Addr) (cl : List (Str × Addr)) (fp : List Addr), DE (X.blk s H scope (compEnvC scope cl C X.env) fp) ca H0 Wn .frz elt fe) (hs : ∀ x, foldedSetIterable iter X.env x = pure x := by intro _; rfl) :
    DS X ca H0 Wx mr (.Assign [.Name y py] (.ListComp elt [⟨tg, iter, ifs, 0⟩] scope pos) spos) (bSetOwn i (sLc (own.map (·.2)) src tgt ft fe)) :=
  PS.imp (ps_setLc hc hN hy hyl hsw hi ok hg ht he hs) fun D σ H ⟨W, ρ, S, R, o⟩ => lc_of (m := .fre) ⟨W, ρ, S, R, (OutS.bindO R o).imp fun d S' W' H' F R' h v r => by
    by_cases hu : (unlk ρ[i]? && isCont d) = true
    · rw [if_pos hu] at h
      have hc := (Bool.and_eq_true_iff.mp hu).2
      have go : ∀ {a : Addr} {u : HO}, H a = none → W'.hf a = none → W'.ow a = none → H' a = some u → Cont X.K ca (W'.take a (.slot i)) H' a d → D.nx (σ.set i (some (.ref a))) H' := fun {a u} h1 h2 h3 h4 h5 =>
        h _ _ _ (FutS.takeNew R.h0 F h1) ((R'.take (none_of_dom R.h0 h1) h2 h3 h4).set ⟨a, rfl, if_pos rfl, none_of_dom R.h0 h1, h5⟩)
      cases d with
      | lst ds => obtain ⟨a, vs, e, h1, h2, h3, h4, q⟩ := r; subst e; exact go h1 h2 h3 h4 ⟨vs, h4, q⟩
      | dK ds => obtain ⟨a, vs, e, h1, h2, h3, h4, q⟩ := r; subst e; exact go h1 h2 h3 h4 ⟨vs, h4, q⟩
      | dT ds => obtain ⟨a, vs, e, h1, h2, h3, h4, q⟩ := r; subst e; exact go h1 h2 h3 h4 ⟨vs, h4, q⟩
      | _ => cases hc
    · rw [if_neg hu] at h; exact False.elim h⟩
/-! ### isinstance with a built-in type -/
def isTy : D → Option String
  | .non => some "NoneType"
  | .bl _ => some "bool"
  | .int _ => some "int"
  | .str _ => some "str"
  | .tup _ => some "tuple"
  | .lst _ => some "list"
  | _ => none
def sIsB (T : String) (fe : SE) : SE := fun ρ => mb (fe ρ) fun d S => mo ((isTy (dref S d)).bind fun t => (kitB t T).map D.bl) S
theorem tyX_of {K : PySem.W.Frag} {W : Wd} {H : Hp} {v : V} {d : D} {t : String} (w : WOk W H) (c : CV K ca W H v d) (e : isTy d = some t) : TyX K H v (.type t) := by
  cases d with
  | non => obtain rfl := DV.ofNon c; cases e; exact .base .non
  | bl b => obtain rfl := DV.ofBl c; cases e; exact .base (.bl b)
  | int i => obtain rfl := DV.ofInt c; cases e; exact .base (.int i)
  | str x => obtain rfl := DV.ofStr c; cases e; exact .base (.str x)
  | lst l => obtain ⟨a, vs, rfl, h, r⟩ := c; cases e; exact .base (.lst h)
  | tup l =>
    obtain ⟨a, vs, rfl, h, r⟩ := DV.ofTup c
    cases e
    rcases h with h | h
    · exact .base (.tup (w.sub _ _ h))
    · rcases h with h | ⟨o, its, n, k1, k2, _⟩
      · rcases h with h | ⟨o, h⟩
        · cases h
        · cases h
      · exact .kTuple k1 k2
  | _ => cases e
theorem de_isB {T : String} {e : Expr} {fe : SE} {y : Str} {cp p pos : Pos} (he : DE X ca H0 Wx .bor e fe) (hg : Gl X "isinstance") (hm : X.mg "isinstance" = none) (hgc : Gl X y) (hmc : X.mg y = none) (hvc : bootBuiltins y = some (.type T))
    (hnc : y ≠ "__name__" := by decide) (hdc : (y == ("__debug__" : Str)) = false := by decide)
    (hs1 : starEach [e, .Name y cp] X.env = (false, eval e X.env) :: starEach [.Name y cp] X.env := by rfl) (hs2 : starEach [.Name y cp] X.env = (false, eval (.Name y cp) X.env) :: starEach [] X.env := by rfl)
    (hpl : (backTo pos (starEach [.Name y cp] X.env)).any (·.1) = false := by rfl) :
    DE X ca H0 Wx m (.Call (.Name "isinstance" p) [e, .Name y cp] [] pos) (sIsB T fe) :=
  PE.imp (pe_callB call_isi hg hm (by rfl) (pa_cons he (pa_cons (pe_bltn (v := .ty T) hgc hmc hvc rfl hnc hdc) pa_nil hs2) hs1) (by decide) (by decide) hs1 hpl) fun σ H Q ⟨W, ρ, S, R, o⟩ => ⟨W, ρ, S, R, (OutM.bind o).imp fun d S1 W1 H1 F1 R1 h1 x D1 => by
    have c := DR.view R1.w R1.s D1
    cases e1 : isTy (dref S1 d) with
    | none => rw [e1] at h1; exact False.elim h1
    | some t =>
      rw [e1] at h1
      have h1 : OutM X.K ca H0 Wx W1 ρ σ H1 (mo ((kitB t T).map D.bl) S1) _ := h1
      cases e2 : kitB t T with
      | none => rw [e2] at h1; exact False.elim h1
      | some b =>
        rw [e2] at h1
        exact ⟨x, .ty T, .type t, .type T, b, rfl, .ty T, tyX_of R1.w c e1, kit_ty e2, h1 W1 H1 (FutG.refl _ _) R1 _ (DR.scal rfl (.bl b))⟩⟩
end
/-! running -/
@[simp] theorem mq_ok {α : Type} (x : M α) (S : Sto) : mq x S = (match x S with | some (.ok a, S') => some (.ok a, S') | _ => none) := rfl
@[simp] theorem sYes_e (ρ : Rho) (S : Sto) : sYes ρ S = some (.ok true, S) := rfl
@[simp] theorem lcD_nil (t : D → Rho → Option Rho) (ft : ST) (fe : SE) (ρ : Rho) (out : List D) (S : Sto) : lcD t ft fe ρ out [] S = some (.ok (.lst out), S) := rfl
theorem lcD_cons (t : D → Rho → Option Rho) (ft : ST) (fe : SE) (ρ : Rho) (out : List D) (d : D) (r : List D) (S : Sto) : lcD t ft fe ρ out (d :: r) S = (match t d ρ with
    | none => none
    | some ρ1 => mb (mq (ft ρ1)) (fun b => if b = true then mb (mq (fe ρ1)) fun y => if out.length < sizeLine then lcD t ft fe ρ (out ++ [y]) r else mf else lcD t ft fe ρ out r) S) := by
  rw [lcD]; cases t d ρ <;> rfl
@[simp] theorem sLc_e (vs : List Nat) (src : SA) (t : D → Rho → Option Rho) (ft : ST) (fe : SE) (ρ : Rho) (S : Sto) : sLc vs src t ft fe ρ S = mb (src ρ) (fun ds => lcD t ft fe (wipeR ρ vs) [] ds) S := rfl
@[simp] theorem sIsB_e (T : String) (fe : SE) (ρ : Rho) (S : Sto) : sIsB T fe ρ S = mb (fe ρ) (fun d S => mo ((isTy (dref S d)).bind fun t => (kitB t T).map D.bl) S) S := rfl
@[simp] theorem wipeR_n (ρ : Rho) : wipeR ρ [] = ρ := rfl
@[simp] theorem wipeR_c (ρ : Rho) (v : Nat) (vs : List Nat) : wipeR ρ (v :: vs) = (wipeR ρ vs).set v .no := rfl
/-- every item by a function -/
theorem lcD_map {t : D → Rho → Option Rho} {ft : ST} {fe : SE} {ρ : Rho} {S : Sto} (g : D → D) : ∀ (L out : List D), out.length + L.length ≤ sizeLine → (∀ d ∈ L, ∃ ρ1, t d ρ = some ρ1 ∧ ft ρ1 S = some (.ok true, S) ∧ fe ρ1 S = some (.ok (g d), S)) →
    lcD t ft fe ρ out L S = some (.ok (.lst (out ++ L.map g)), S)
  | [], out, _, _ => by simp
  | d :: L, out, hl, h => by
    obtain ⟨ρ1, e1, e2, e3⟩ := h d List.mem_cons_self
    rw [List.length_cons] at hl
    have z := lcD_map (ρ := ρ) (S := S) g L (out ++ [g d]) (by rw [List.length_append, List.length_singleton]; omega) (fun x hx => h x (List.mem_cons_of_mem _ hx))
    rw [lcD_cons, e1]
    simp only [mb_e, mq_ok, e2, e3, if_true]
    rw [if_pos (by omega), z, List.append_assoc]; rfl
/-- the items that pass -/
theorem lcD_filter {t : D → Rho → Option Rho} {ft : ST} {fe : SE} {ρ : Rho} {S : Sto} (p : D → Bool) (g : D → D) : ∀ (L out : List D), out.length + L.length ≤ sizeLine → (∀ d ∈ L, ∃ ρ1, t d ρ = some ρ1 ∧ ft ρ1 S = some (.ok (p d), S) ∧ (p d = true → fe ρ1 S = some (.ok (g d), S))) →
    lcD t ft fe ρ out L S = some (.ok (.lst (out ++ (L.filter p).map g)), S)
  | [], out, _, _ => by simp
  | d :: L, out, hl, h => by
    obtain ⟨ρ1, e1, e2, e3⟩ := h d List.mem_cons_self
    rw [List.length_cons] at hl
    rw [lcD_cons, e1]
    cases hp : p d with
    | true =>
      have z := lcD_filter (ρ := ρ) (S := S) p g L (out ++ [g d]) (by rw [List.length_append, List.length_singleton]; omega) (fun x hx => h x (List.mem_cons_of_mem _ hx))
      rw [hp] at e2
      simp only [mb_e, mq_ok, e2, e3 hp, if_true]
      rw [if_pos (by omega), z, List.append_assoc, List.filter_cons_of_pos hp]; rfl
    | false =>
      have z := lcD_filter (ρ := ρ) (S := S) p g L out (by omega) (fun x hx => h x (List.mem_cons_of_mem _ hx))
      rw [hp] at e2
      simp only [mb_e, mq_ok, e2, Bool.false_eq_true, if_false]
      rw [z, List.filter_cons_of_neg (by rw [hp]; exact Bool.false_ne_true)]
end DL

/-! DL17: any and all of ints; masks. -/
namespace DL
open PySem PySem.Spec PyProof.Rows L2
theorem vals_at {ns : List Int} : ∀ {its : List Value} {i : Nat} {v : Value}, Vals (ns.map V.int) its → its[i]? = some v → ∃ n t, ns[i]? = some n ∧ v = .int n t := by
  induction ns with
  | nil =>
    intro its i v h e
    rw [List.map_nil] at h
    cases h
    simp at e
  | cons n r ih =>
    intro its i v h e
    rw [List.map_cons] at h
    cases h with
    | cons q qr =>
      cases i with
      | zero =>
        obtain ⟨t, ht⟩ := q
        exact ⟨n, t, rfl, by simp at e; rw [← e]; exact ht⟩
      | succ i =>
        obtain ⟨k, t, h1, h2⟩ := ih qr (by simpa using e)
        exact ⟨k, t, by simpa using h1, h2⟩
theorem truth_ints {prog : Program} {w : World} {A : Around} {ns : List Int} {its : List Value} (h : Vals (ns.map V.int) its) :
    TruthOf prog w A (fun i v => its.toArray[i]? = some v) (fun i => (ns.map (· != 0)).getD i false) := fun i v s Q E hv hq => by
  obtain ⟨n, t, e1, rfl⟩ := vals_at h (by simpa using hv)
  have hg : (ns.map (· != 0)).getD i false = (n != 0) := by rw [List.getD_eq_getElem?_getD, List.getElem?_map, e1]; rfl
  have hq' : Q ((ns.map (· != 0)).getD i false) s := hq
  rw [hg] at hq'
  exact PyProof.Rows.truthy_int hq'
section
variable {X : Cx}
theorem cr_anyI (hc : X.calm = true) : CallR X (.builtin "any") (fun vs H Q => ∃ (a : Addr) (ns : List Int), vs = [V.ref a] ∧ SqL X.K H a (ns.map V.int) ∧ Q (.bl ((ns.map (· != 0)).any id)) H) := by
  intro pins s σ H vs us Q I r h
  obtain ⟨a, ns, rfl, hs, q⟩ := h
  obtain ⟨its, rv, hl, _⟩ := I.list hs
  rw [Vals.ref1 r]
  have hlen : its.length = (ns.map (· != 0)).length := by rw [List.length_map, ← rv.length, List.length_map]
  refine call_any_walk (iter_any hl.isList fun s₂ e2 st hne => ?_)
  subst e2
  refine ⟨_, _, _, _, _, _, _, rfl, Walks.list (A := X.A.in1) (I.ok.hd hc) _ a hne its.toArray, st, truth_ints rv, fun h' tk hk => ?_⟩
  refine ⟨.bl _, H, I.kept fun b o eo => hk b o (fun hmem => ?_) (Heap.get?_push_of_some _ eo), ?_, q⟩
  · rcases List.mem_cons.mp hmem with e1 | hmem
    · exact absurd (e1 ▸ Heap.lt_size eo) (Nat.lt_irrefl _)
    · cases hmem
  · show Value.bool _ = Value.bool _
    rw [← L2.any_range, List.size_toArray, hlen]
theorem cr_allI (hc : X.calm = true) : CallR X (.builtin "all") (fun vs H Q => ∃ (a : Addr) (ns : List Int), vs = [V.ref a] ∧ SqL X.K H a (ns.map V.int) ∧ Q (.bl ((ns.map (· != 0)).all id)) H) := by
  intro pins s σ H vs us Q I r h
  obtain ⟨a, ns, rfl, hs, q⟩ := h
  obtain ⟨its, rv, hl, _⟩ := I.list hs
  rw [Vals.ref1 r]
  have hlen : its.length = (ns.map (· != 0)).length := by rw [List.length_map, ← rv.length, List.length_map]
  refine call_all_walk (iter_any hl.isList fun s₂ e2 st hne => ?_)
  subst e2
  refine ⟨_, _, _, _, _, _, _, rfl, Walks.list (A := X.A.in1) (I.ok.hd hc) _ a hne its.toArray, st, truth_ints rv, fun h' tk hk => ?_⟩
  refine ⟨.bl _, H, I.kept fun b o eo => hk b o (fun hmem => ?_) (Heap.get?_push_of_some _ eo), ?_, q⟩
  · rcases List.mem_cons.mp hmem with e1 | hmem
    · exact absurd (e1 ▸ Heap.lt_size eo) (Nat.lt_irrefl _)
    · cases hmem
  · show Value.bool _ = Value.bool _
    rw [← L2.all_range, List.size_toArray, hlen]
end
section
variable {X : Cx} {ca : Ca} {H0 : Bs} {Wx : WX} {m : Md}
theorem dvs_ints {K : PySem.W.Frag} {h : Hp} {ad : Nat → Option Addr} : ∀ {ns : List Int} {vs : List V}, DVs K ca h ad vs (ns.map D.int) → vs = ns.map V.int
  | [], _, .nil => rfl
  | n :: r, _, .cons q qr => by rw [dvs_ints qr, DV.ofInt q]; rfl
def oAnyI : List D → Option D
  | [.lst l] => (dInts l).map fun ns => .bl ((ns.map (· != 0)).any id)
  | _ => none
def oAllI : List D → Option D
  | [.lst l] => (dInts l).map fun ns => .bl ((ns.map (· != 0)).all id)
  | _ => none
theorem cd_anyI (hc : X.calm = true) : CallD X ca H0 m (.builtin "any") oAnyI := ⟨_, cr_anyI hc, fun W H S xs ds d Q w s c e F => by
  match ds, c, e with
  | [.lst l], c, e =>
    obtain ⟨v, rfl, a, vs, rfl, h1, r⟩ := c.one
    obtain ⟨ns, e1, e2⟩ := Option.map_eq_some_iff.mp (show (dInts l).map (fun ns => D.bl ((ns.map (· != 0)).any id)) = some d from e)
    subst e2
    rw [dInts_eq e1] at r
    rw [dvs_ints r] at h1
    exact ⟨a, ns, rfl, SqL.of h1, F.scal rfl (.bl _)⟩⟩
theorem cd_allI (hc : X.calm = true) : CallD X ca H0 m (.builtin "all") oAllI := ⟨_, cr_allI hc, fun W H S xs ds d Q w s c e F => by
  match ds, c, e with
  | [.lst l], c, e =>
    obtain ⟨v, rfl, a, vs, rfl, h1, r⟩ := c.one
    obtain ⟨ns, e1, e2⟩ := Option.map_eq_some_iff.mp (show (dInts l).map (fun ns => D.bl ((ns.map (· != 0)).all id)) = some d from e)
    subst e2
    rw [dInts_eq e1] at r
    rw [dvs_ints r] at h1
    exact ⟨a, ns, rfl, SqL.of h1, F.scal rfl (.bl _)⟩⟩
def oAny2 (ds : List D) : Option D := match oAny ds with
  | some d => some d
  | none => oAnyI ds
def oAll2 (ds : List D) : Option D := match oAll ds with
  | some d => some d
  | none => oAllI ds
theorem cd_any2 (hc : X.calm = true) : CallD X ca H0 m (.builtin "any") oAny2 := CallD.or (cd_any hc) (cd_anyI hc) fun x d e => by
  unfold oAny2 at e
  cases h : oAny x with
  | some y => rw [h] at e; exact .inl e
  | none => rw [h] at e; exact .inr e
theorem cd_all2 (hc : X.calm = true) : CallD X ca H0 m (.builtin "all") oAll2 := CallD.or (cd_all hc) (cd_allI hc) fun x d e => by
  unfold oAll2 at e
  cases h : oAll x with
  | some y => rw [h] at e; exact .inl e
  | none => rw [h] at e; exact .inr e
end
theorem band8 (i : Int) : oBand (.int i) (.int 255) = some (.int (i % 256)) := by
  show some (D.int (Builtin.bitAnd i 255)) = _
  rw [PyProof.Rows.bitAnd_m8]
theorem band16 (i : Int) : oBand (.int i) (.int 65535) = some (.int (i % 65536)) := by
  show some (D.int (Builtin.bitAnd i 65535)) = _
  rw [PyProof.Rows.bitAnd_m16]
theorem dInts_ints : ∀ ns : List Int, dInts (ns.map D.int) = some ns := dInts_map
theorem any_ints (ns : List Int) : oAny2 [.lst (ns.map .int)] = some (.bl (ns.any (· != 0))) := by
  unfold oAny2
  cases ns with
  | nil => rfl
  | cons n r =>
    have e : oAny [.lst ((n :: r).map .int)] = none := rfl
    rw [e]
    show (dInts ((n :: r).map D.int)).map _ = _
    rw [dInts_map]
    simp [List.any_map]
end DL

/-! DL18: objects of the program's classes. -/
namespace DL
open PySem PySem.Spec PyProof.Rows L2
/-! ### fields -/
def putD (f : Str) (d : D) : List (Str × D) → List (Str × D)
  | [] => [(f, d)]
  | (g, x) :: r => if g = f then (g, d) :: r else (g, x) :: putD f d r
section
variable {K : PySem.W.Frag} {ca : Ca} {h : Hp} {ad : Nat → Option Addr}
theorem DFs.put {f : Str} {v : V} {d : D} (q : DV K ca h ad v d) : ∀ {vfs : List (Str × V)} {fs : List (Str × D)}, DFs K ca h ad vfs fs → DFs K ca h ad (putF f v vfs) (putD f d fs)
  | _, _, .nil => .cons q .nil
  | _, _, .cons (k := g) p r => by
    unfold putF putD
    by_cases e : g = f
    · rw [if_pos e, if_pos e]; exact .cons q r
    · rw [if_neg e, if_neg e]; exact .cons p (DFs.put q r)
theorem DFs.len : ∀ {vfs : List (Str × V)} {fs : List (Str × D)}, DFs K ca h ad vfs fs → vfs.length = fs.length
  | _, _, .nil => rfl
  | _, _, .cons _ r => congrArg (· + 1) (DFs.len r)
theorem DFs.none {n : Str} : ∀ {vfs : List (Str × V)} {fs : List (Str × D)}, DFs K ca h ad vfs fs → fs.lookup n = none → vfs.lookup n = none
  | _, _, .nil, _ => rfl
  | _, _, .cons (k := k) q r, e => by
    rw [List.lookup_cons] at e ⊢
    cases hk : n == k with
    | true => rw [hk] at e; cases e
    | false => rw [hk] at e; exact DFs.none r e
end
/-- the instance that stands at a number -/
def stI (S : Sto) (n : Nat) : Option (Str × List (Str × D)) := match S[n]? with
  | some (.ins c fs) => some (c, fs)
  | _ => none
theorem stI_eq {S : Sto} {n : Nat} {z : Str × List (Str × D)} (h : stI S n = some z) : S[n]? = some (.ins z.1 z.2) := by
  unfold stI at h
  split at h
  next c fs e => cases h; exact e
  next => cases h
/-- an attribute that the classes of tb have, as facts of the fragment -/
def AttF (K : PySem.W.Frag) (ca : Ca) (tb : List Str) (f : Str) : Prop := ∀ c ∈ tb, Cls K (ca c) ∧ NoAttr K (ca c) f
section
variable {X : Cx} {ca : Ca} {H0 : Bs} {Wx : WX} {mr m : Md}
def eFld (tb : List Str) (f : Str) (fo : SE) : SE := fun ρ => mb (fo ρ) fun o S => match asObj o with
  | none => none
  | some n => match stI S n with
    | none => none
    | some z => if tb.contains z.1 = true then mo (z.2.lookup f) S else none
theorem DR.ofDV {K : PySem.W.Frag} {H W H' v d} (hm : m ≠ .fre) (w : WOk W H') (q : DV K ca W.hf W.ad v d) : DR K ca m H W H' v d := by
  cases m with
  | frz => exact q
  | bor => exact DR.toBor (m := .frz) (H := H) w q
  | sta => exact DR.toSta (m := .frz) (H := H) (by decide) w q
  | fre => exact absurd rfl hm
theorem de_fld {tb : List Str} {f : Str} {e : Expr} {fo : SE} {pos : Pos} (hm : m ≠ .fre) (T : AttF X.K ca tb f) (he : DE X ca H0 Wx .frz e fo) (hb : attributeBase e f X.env (eval e X.env) = eval e X.env := by rfl) :
    DE X ca H0 Wx m (.Attribute e f pos) (eFld tb f fo) :=
  PE.imp (pe_fld he hb) fun σ H Q ⟨W, ρ, S, R, o⟩ => ⟨W, ρ, S, R, (OutM.bind o).imp fun d S1 W1 H1 F1 R1 h1 x D1 => by
    cases e0 : asObj d with
    | none => simp only [e0] at h1; exact False.elim h1
    | some n =>
      simp only [e0] at h1
      rw [asObj_eq e0] at D1
      obtain ⟨a, rfl, ha⟩ := DV.ofObj D1
      cases e1 : stI S1 n with
      | none => simp only [e1] at h1; exact False.elim h1
      | some z =>
        simp only [e1] at h1
        obtain ⟨b, k1, k2, dx, vfs, k3, k4⟩ := R1.s.at_ n _ (stI_eq e1)
        have hb : b = a := by rw [ha] at k1; exact (Option.some.inj k1).symm
        subst hb
        by_cases hc : tb.contains z.1 = true
        · rw [if_pos hc] at h1
          obtain ⟨t1, t2⟩ := T z.1 (List.contains_iff_mem.mp hc)
          cases e2 : z.2.lookup f with
          | none => rw [e2] at h1; exact False.elim h1
          | some y =>
            rw [e2] at h1
            obtain ⟨v, j1, j2⟩ := k4.look e2
            exact ⟨b, _, dx, vfs, v, rfl, k3, t1, t2, j1, h1 W1 H1 (FutG.refl _ _) R1 v (DR.ofDV hm R1.w j2)⟩
        · rw [if_neg hc] at h1; exact False.elim h1⟩
/-! x.f = e -/
def bFld (tb : List Str) (f : Str) (fo fe : SE) : SS := fun ρ => sb (fe ρ) ρ fun d => sb (fo ρ) ρ fun o S => match asObj o with
  | none => none
  | some n => match stI S n with
    | none => none
    | some z => if tb.contains z.1 = true ∧ z.2.length < 1000 then some (.nx ρ, S.set n (.ins z.1 (putD f d z.2))) else none
theorem ds_fld {tb : List Str} {f : Str} {o value : Expr} {fo fe : SE} {pos pos' : Pos} (T : AttF X.K ca tb f) (ho : DE X ca H0 Wx .frz o fo) (hv : DE X ca H0 Wx .frz value fe) (hs : swapsWith value (some (.Attribute o f pos')) pos.line X.env = pure false := by rfl) :
    DS X ca H0 Wx mr (.Assign [.Attribute o f pos'] value pos) (bFld tb f fo fe) :=
  PS.imp (ps_fld ho hv hs) fun D σ H ⟨W, ρ, S, R, o⟩ => ⟨W, ρ, S, R, (OutS.bind R o).imp fun d S1 W1 H1 F1 R1 h v Dv => ⟨W1, ρ, S1, R1, (OutS.bind R1 h).imp fun x S2 W2 H2 F2 R2 h2 u Du => by
    cases e0 : asObj x with
    | none => simp only [e0] at h2; exact False.elim h2
    | some n =>
      simp only [e0] at h2
      rw [asObj_eq e0] at Du
      obtain ⟨a, rfl, ha⟩ := DV.ofObj Du
      cases e1 : stI S2 n with
      | none => simp only [e1] at h2; exact False.elim h2
      | some z =>
        simp only [e1] at h2
        obtain ⟨b, k1, k2, dx, vfs, k3, k4⟩ := R2.s.at_ n _ (stI_eq e1)
        have hb : b = a := by rw [ha] at k1; exact (Option.some.inj k1).symm
        subst hb
        by_cases hc : tb.contains z.1 = true ∧ z.2.length < 1000
        · rw [if_pos hc] at h2
          obtain ⟨t1, t2⟩ := T z.1 (List.contains_iff_mem.mp hc.1)
          refine ⟨b, _, dx, vfs, rfl, k3, t1, t2, by rw [k4.len]; exact hc.2, ?_⟩
          exact h2 W2 _ _ (FutG.mut (by rw [k2]; rfl)) (R2.mutObj (List.getElem?_eq_some_iff.mp (stI_eq e1)).1 k1 k2 (fun _ z => by cases z) ⟨dx, _, upd_same, DFs.put (DV.mono F2.hf F2.ad Dv) k4⟩)
        · rw [if_neg hc] at h2; exact False.elim h2⟩⟩
/-! ### one way or the other -/
def eAlt (f g : SE) : SE := fun ρ S => match f ρ S with
  | some r => some r
  | none => g ρ S
theorem de_alt {e : Expr} {f g : SE} (hf : DE X ca H0 Wx m e f) (hg : DE X ca H0 Wx m e g) : DE X ca H0 Wx m e (eAlt f g) :=
  ⟨fun pins s σ H Q I ⟨W, ρ, S, R, o⟩ => by
    unfold eAlt at o
    cases e1 : f ρ S with
    | some r => rw [e1] at o; exact hf.run pins s σ H Q I ⟨W, ρ, S, R, by rw [e1]; exact o⟩
    | none => rw [e1] at o; exact hg.run pins s σ H Q I ⟨W, ρ, S, R, o⟩⟩
/-! ### methods -/
/-- a method of the class c keeps its promise -/
structure MetF (P : Program) (w : World) (K : PySem.W.Frag) (mg : Str → Option Value) (base : Heap) (ca : Ca) (c m : Str) (k : Nat) (ms : List Bool) (mr : Md) (sem : Sem1) (dds : List D) : Prop where
  ex : ∃ (a : Addr) (fd : FuncData) (ps : List Str), Cls K (ca c) ∧ Meth K (ca c) m a ∧ FnG P w K mg base k a fd ps (spD K ca ms mr sem) ∧
    (∀ j, j ≤ dds.length → ∃ dvs ds, Vals dvs ds ∧ Binds K fd ps ds ∧ DVs K ca (fun _ => none) (fun _ => none) dvs (dds.drop j))
  sc : dds.all isScal = true
def eMeth (c m : Str) (sem : Sem1) (dds : List D) (fo : SE) (fa : SA) : SE := fun ρ => mb (fo ρ) fun o S => match asObj o with
  | none => none
  | some n => match stI S n with
    | none => none
    | some z => if z.1 = c ∧ z.2.lookup m = none then mb (fa ρ) (fun ds S => sem (o :: ds ++ dds) S) S else none
def tMethG (C : Addr) (m : Str) (sp : Sp) (dvs : List V) (E : L2.St → XK) (ta : TE) (t : TA) : TE := fun σ H Q => ta σ H fun x H1 => ∃ a dx fs, x = .ref a ∧ H1 a = some (.ins C dx fs) ∧ fs.lookup m = none ∧
  t σ H1 fun vs H2 => sp (x :: (vs ++ dvs)) H2 Q (E σ)
theorem pe_methG {pl : Sem Bool} {k : Nat} {C g : Addr} {fd : FuncData} {ps : List Str} {sp : Sp} {dvs : List V} {ds : List Value} {E : L2.St → XK} {o e : Expr} {es : List Expr} {m : Str} {apos pos : Pos} {ta : TE} {t : TA}
    (he : PE X o ta) (c : Cls X.K C) (hm : Meth X.K C m g) (F : FnG X.prog X.w X.K X.mg X.base k g fd ps sp) (hG : X.A.guards = some []) (hr : Room k X.A) (hb : Binds X.K fd ps ds) (hd : Vals dvs ds) (hx : ∀ σ, PassesAt (CXP X.prog X.w) X σ (E σ)) (ha : PA X (e :: es) t)
    (hst : starEach (e :: es) X.env = (false, eval e X.env) :: starEach es X.env) (hpl : (backTo pos (starEach es X.env)).any (·.1) = false)
    (ht : eval (.Call (.Attribute o m apos) (e :: es) [] pos) X.env = (do
      let ov ← eval o X.env
      standAt apos.atName
      let (f, first) ← holding [ov] (getMethod ov m pl)
      callWith pos f first (backTo pos (starEach (e :: es) X.env)) (backToKw pos (keywordEach [] X.env)))) :
    PE X (.Call (.Attribute o m apos) (e :: es) [] pos) (tMethG C m sp dvs E ta t) :=
  ⟨fun pins s σ H Q I h => PySem.W.methodCall_KW (pl := pl) (thn (he.run pins s σ H _ I h) fun u s1 ⟨x, H1, I1, rx, b, dx, fs, ex, eb, l, q⟩ => by
    subst ex
    obtain rfl : u = Value.ref b := rx
    exact getmeth_ok I1 eb c hm l (PySem.W.callWith_K (first := [.ref b]) (h₀ := X.base) I.ok.mod.kin hm.kp (thn (ha.run pos pins s1 σ H1 _ I1 q) fun us s2 ⟨vs, H2, I2, r, q2⟩ =>
      ⟨I2.kIn, run_G (us := .ref b :: us) (vs := .ref b :: vs) F hG hr hb hd (hx σ) I2 (.cons rfl r) q2⟩) hst hpl)) ht⟩
theorem pe_methG0 {pl : Sem Bool} {k : Nat} {C g : Addr} {fd : FuncData} {ps : List Str} {sp : Sp} {dvs : List V} {ds : List Value} {E : L2.St → XK} {o : Expr} {m : Str} {apos pos : Pos} {ta : TE}
    (he : PE X o ta) (c : Cls X.K C) (hm : Meth X.K C m g) (F : FnG X.prog X.w X.K X.mg X.base k g fd ps sp) (hG : X.A.guards = some []) (hr : Room k X.A) (hb : Binds X.K fd ps ds) (hd : Vals dvs ds) (hx : ∀ σ, PassesAt (CXP X.prog X.w) X σ (E σ))
    (ht : eval (.Call (.Attribute o m apos) [] [] pos) X.env = (do
      let ov ← eval o X.env
      standAt apos.atName
      let (f, first) ← holding [ov] (getMethod ov m pl)
      callWith pos f first (backTo pos (starEach [] X.env)) (backToKw pos (keywordEach [] X.env)))) :
    PE X (.Call (.Attribute o m apos) [] [] pos) (tMethG C m sp dvs E ta tNil) :=
  ⟨fun pins s σ H Q I h => PySem.W.methodCall_KW (pl := pl) (thn (he.run pins s σ H _ I h) fun u s1 ⟨x, H1, I1, rx, b, dx, fs, ex, eb, l, q⟩ => by
    subst ex
    obtain rfl : u = Value.ref b := rx
    exact getmeth_ok I1 eb c hm l (PySem.W.callWith_K0 (first := [.ref b]) I1.kIn hm.kp (run_G (us := [.ref b]) (vs := [.ref b]) F hG hr hb hd (hx σ) I1 (.cons rfl .nil) q))) ht⟩
theorem cal_ow {W1 : Wd} : ∀ a p, W1.cal.ow a = some p → calmO (some p) = false := fun a p h => by
  by_cases c : calmO (W1.ow a) = true
  · rw [cal_calm c] at h; cases h
  · rw [cal_ob (by simpa using c)] at h
    rw [← h]; simpa using c
/-- the arguments are there: the promise is asked -/
theorem meth_of {c m : Str} {ms ns : List Bool} {sem : Sem1} {dds : List D} {dvs : List V} {fo : SE} {fa : SA} {σ : L2.St} {H : Hp} {Q : VK} (hmr : mr = .frz ∨ mr = .fre) (hq : DVs X.K ca (fun _ => none) (fun _ => none) dvs dds) (hs : dds.all isScal = true) (hn : ns.length = dds.length)
    (h : tE X.K ca H0 Wx mr (eMeth c m sem dds fo fa) σ H Q) :
    tMethG (ca c) m (spD X.K ca (true :: (ms ++ ns)) mr sem) dvs (WE Wx) (tE X.K ca H0 Wx .frz fo) (tAm X.K ca H0 Wx (ms.map pmd) fa) σ H Q := by
  obtain ⟨W, ρ, S, R, o⟩ := h
  refine ⟨W, ρ, S, R, (OutM.bind o).imp fun d S1 W1 H1 F1 R1 h1 x D1 => ?_⟩
  cases e0 : asObj d with
  | none => simp only [e0] at h1; exact False.elim h1
  | some n =>
    simp only [e0] at h1
    obtain rfl := asObj_eq e0
    obtain ⟨a, rfl, ha⟩ := DV.ofObj D1
    cases e1 : stI S1 n with
    | none => simp only [e1] at h1; exact False.elim h1
    | some z =>
      simp only [e1] at h1
      obtain ⟨b, k1, k2, dx, vfs, k3, k4⟩ := R1.s.at_ n _ (stI_eq e1)
      have hb : b = a := by rw [ha] at k1; exact (Option.some.inj k1).symm
      subst hb
      by_cases hc : z.1 = c ∧ z.2.lookup m = none
      · rw [if_pos hc] at h1
        obtain ⟨hc1, hc2⟩ := hc
        refine ⟨b, dx, vfs, rfl, by rw [← hc1]; exact k3, k4.none hc2, W1, ρ, S1, R1, ?_⟩
        have o1 := OutM.bind h1
        cases e2 : fa ρ S1 with
        | none => rw [e2] at o1; exact o1.elim
        | some pr =>
          obtain ⟨ex, S2⟩ := pr
          rw [e2] at o1
          cases ex with
          | error z => exact o1
          | ok as =>
            refine fun W2 H2 F2 R2 vs D2 => ⟨W2.cal, _ :: (as ++ dds), S2, R2.w.cal, R2.s.cal, cal_ow, .kept (DV.obj (F2.ad _ _ ha)) ((Bos.args R2.w D2).app (Bos.cons_ ns hn hq hs)), ?_⟩
            exact outF_of (Hr := H1) hmr R2 ((o1 W2 H2 F2 R2).imp fun d S3 W3 H3 F3 R3 q v r => q v (DR.older (fun a o ho => F1.dom a o ho |>.elim fun o' ho' => F2.dom a o' ho') r))
      · rw [if_neg hc] at h1; exact False.elim h1
theorem de_meth {pl : Sem Bool} {k : Nat} {c m : Str} {ms : List Bool} {sem : Sem1} {dds : List D} {o e : Expr} {es : List Expr} {apos pos : Pos} {fo : SE} {fa : SA} (n j : Nat) (C : MetF X.prog X.w X.K X.mg X.base ca c m k (true :: ms) mr sem dds) (hG : X.A.guards = some []) (hr : Room k X.A) (tk : Takes X Wx)
    (ho : DE X ca H0 Wx .frz o fo) (ha : DAm X ca H0 Wx ((ms.take n).map pmd) (e :: es) fa) (hj : j ≤ dds.length := by decide) (hn : (ms.drop n).length = (dds.drop j).length := by rfl)
    (hmr : mr = .frz ∨ mr = .fre := by first | exact .inl rfl | exact .inr rfl)
    (hst : starEach (e :: es) X.env = (false, eval e X.env) :: starEach es X.env := by rfl) (hpl : (backTo pos (starEach es X.env)).any (·.1) = false := by rfl)
    (ht : eval (.Call (.Attribute o m apos) (e :: es) [] pos) X.env = (do
      let ov ← eval o X.env
      standAt apos.atName
      let (f, first) ← holding [ov] (getMethod ov m pl)
      callWith pos f first (backTo pos (starEach (e :: es) X.env)) (backToKw pos (keywordEach [] X.env))) := by rfl) :
    DE X ca H0 Wx mr (.Call (.Attribute o m apos) (e :: es) [] pos) (eMeth c m sem (dds.drop j) fo fa) := by
  obtain ⟨⟨a, fd, ps, h1, h2, h3, h4⟩, h5⟩ := C
  obtain ⟨dvs, ds, k1, k2, k3⟩ := h4 j hj
  rw [← List.take_append_drop n ms] at h3
  exact PE.imp (pe_methG ho h1 h2 h3 hG hr k2 k1 (fun σ => passAt tk σ) ha hst hpl ht) fun σ H Q h => meth_of hmr k3 (all_drop h5 j) hn h
theorem de_meth0 {pl : Sem Bool} {k : Nat} {c m : Str} {ms : List Bool} {sem : Sem1} {dds : List D} {o : Expr} {apos pos : Pos} {fo : SE} (C : MetF X.prog X.w X.K X.mg X.base ca c m k (true :: ms) mr sem dds) (hG : X.A.guards = some []) (hr : Room k X.A) (tk : Takes X Wx)
    (ho : DE X ca H0 Wx .frz o fo) (hn : ms.length = dds.length := by rfl)
    (hmr : mr = .frz ∨ mr = .fre := by first | exact .inl rfl | exact .inr rfl)
    (ht : eval (.Call (.Attribute o m apos) [] [] pos) X.env = (do
      let ov ← eval o X.env
      standAt apos.atName
      let (f, first) ← holding [ov] (getMethod ov m pl)
      callWith pos f first (backTo pos (starEach [] X.env)) (backToKw pos (keywordEach [] X.env))) := by rfl) :
    DE X ca H0 Wx mr (.Call (.Attribute o m apos) [] [] pos) (eMeth c m sem dds fo sNil) := by
  obtain ⟨⟨a, fd, ps, h1, h2, h3, h4⟩, h5⟩ := C
  obtain ⟨dvs, ds, k1, k2, k3⟩ := h4 0 (Nat.zero_le _)
  rw [List.drop_zero] at k3
  refine PE.imp (pe_methG0 ho h1 h2 h3 hG hr k2 k1 (fun σ => passAt tk σ) ht) fun σ H Q h => ?_
  have z := meth_of (ms := []) (ns := ms) hmr k3 h5 hn h
  obtain ⟨W, ρ, S, R, z⟩ := z
  refine ⟨W, ρ, S, R, z.imp fun d S1 W1 H1 F1 R1 q x D1 => ?_⟩
  obtain ⟨a', dx, fs, y1, y2, y3, W2, ρ2, S2, R2, y4⟩ := q x D1
  exact ⟨a', dx, fs, y1, y2, y3, y4 W2 H1 (FutG.refl _ _) R2 [] .nil⟩
end
end DL

/-! DL19: objects are made; loops over lists of the store. -/
namespace DL
open PySem PySem.Spec PyProof.Rows L2
structure MakF (P : Program) (w : World) (K : PySem.W.Frag) (mg : Str → Option Value) (base : Heap) (ca : Ca) (c : Str) (k : Nat) (ms : List Bool) (sem : Sem1) (dds : List D) : Prop where
  ex : ∃ (f : Addr) (fd : FuncData) (ps : List Str), mg c = some (.ref (ca c)) ∧ Mk K (ca c) f ∧ FnG P w K mg base k f fd ps (spD K ca ms .frz sem) ∧
    (∀ j, j ≤ dds.length → ∃ dvs ds, Vals dvs ds ∧ Binds K fd ps ds ∧ DVs K ca (fun _ => none) (fun _ => none) dvs (dds.drop j))
  sc : dds.all isScal = true
def mkR (n : Nat) : Option (Except Xc D × Sto) → Option (Except Xc D × Sto)
  | some (.ok .non, S) => some (.ok (.obj n), S)
  | some (.error x, S) => some (.error x, S)
  | _ => none
def eMake (c : Str) (sem : Sem1) (dds : List D) (fa : SA) : SE := fun ρ => mb (fa ρ) fun ds S => mkR S.length (sem (.obj S.length :: ds ++ dds) (S ++ [.ins c []]))
section
variable {X : Cx} {ca : Ca} {H0 : Bs} {Wx : WX} {mr m : Md}
def tMakeG (C : Addr) (sp : Sp) (dvs : List V) (E : L2.St → XK) (t : TA) : TE := fun σ H Q => t σ H fun vs H1 => ∀ x dx, H1 x = none → H1 dx = none → dx ≠ x →
  sp (.ref x :: (vs ++ dvs)) (upd (upd H1 dx (.own x)) x (.ins C dx [])) (fun v H2 => v = .non ∧ Q (.ref x) H2) (E σ)
theorem run_makeG {k : Nat} {C f : Addr} {fd : FuncData} {ps : List Str} {sp : Sp} {dvs : List V} {ds : List Value} {E : L2.St → XK} {pins : List (Addr × Obj)} {σ : L2.St} {H : Hp} {s : Shared} {Q : VK} {us : List Value} {vs : List V}
    (M : Mk X.K C f) (F : FnG X.prog X.w X.K X.mg X.base k f fd ps sp) (hG : X.A.guards = some []) (hr : Room (k + 1) X.A) (hb : Binds X.K fd ps ds) (hd : Vals dvs ds) (hx : ∀ σ, PassesAt (CXP X.prog X.w) X σ (E σ)) (I : Inv X pins σ H s) (r : Vals vs us)
    (h : ∀ x dx, H x = none → H dx = none → dx ≠ x → sp (.ref x :: (vs ++ dvs)) (upd (upd H dx (.own x)) x (.ins C dx [])) (fun v H2 => v = .non ∧ Q (.ref x) H2) (E σ)) :
    wpAny (model X.prog X.w) X.A (call (.ref C) us) (EP X pins σ Q) X.xe s := by
  have p := h _ _ (I.hok.fresh (Nat.le_succ s.heap.objs.size)) (I.hok.fresh (Nat.le_refl _)) (Nat.ne_of_lt (Nat.lt_succ_self _))
  have J := Inv.made (C := C) I
  have rr : Vals (V.ref (s.heap.objs.size + 1) :: (vs ++ dvs)) (Value.ref (s.heap.objs.size + 1) :: (us ++ ds)) := .cons rfl (r.append hd)
  have hl : (Value.ref (s.heap.objs.size + 1) :: us ++ ds).length = ps.length := rr.length.symm.trans (F.len _ _ _ _ p)
  have go := F.go _ X.stack _ _ ⟨Value.ref (s.heap.objs.size + 1) :: us, []⟩ (Value.ref (s.heap.objs.size + 1) :: (us ++ ds)) _ _ (E σ) (show (X.A.under (.builtin "type.__call__" ⟨.ref C :: us, []⟩)).guards = some [] from hG)
    (hr.make C us []) (J.env0.make C us []) (hb _ (Value.ref (s.heap.objs.size + 1) :: us) J.kIn hl) rr p
  refine wpAny_call (make_map (f := f) I.kIn M.makes M.init (beq_iff_eq.mp M.fn) (codeAny_mono go ?_))
  intro res s' hq
  match res, hq with
  | .error e, hq => exact hx σ pins _ _ e s' J hq
  | .ok (.ret u), hq =>
    obtain ⟨v, H', J2, rv, ev, q⟩ := J.after hq
    subst ev
    exact ⟨rv, ⟨V.ref (s.heap.objs.size + 1), H', J2, rfl, q⟩⟩
theorem pe_makeG {k : Nat} {C f : Addr} {fd : FuncData} {ps : List Str} {sp : Sp} {dvs : List V} {ds : List Value} {E : L2.St → XK} {x : Str} {e : Expr} {es : List Expr} {p pos : Pos} {t : TA}
    (M : Mk X.K C f) (F : FnG X.prog X.w X.K X.mg X.base k f fd ps sp) (hG : X.A.guards = some []) (hr : Room (k + 1) X.A) (hg : Gl X x) (hm : X.mg x = some (.ref C)) (hb : Binds X.K fd ps ds) (hd : Vals dvs ds) (hx : ∀ σ, PassesAt (CXP X.prog X.w) X σ (E σ))
    (ha : PA X (e :: es) t) (hdb : (x == ("__debug__" : Str)) = false) (he : starEach (e :: es) X.env = (false, eval e X.env) :: starEach es X.env) (hpl : (backTo pos (starEach es X.env)).any (·.1) = false) :
    PE X (.Call (.Name x p) (e :: es) [] pos) (tMakeG C sp dvs E t) :=
  ⟨fun pins s σ H Q I h => wpAny_Call_Name_kw (ld_glob I hg hm (PySem.W.callWith_K (h₀ := X.base) I.ok.mod.kin M.kp (thn (ha.run pos pins s σ H _ I h) fun us s1 ⟨vs, H1, I1, r, q⟩ => ⟨I1.kIn, run_makeG M F hG hr hb hd hx I1 r q⟩) he hpl) hdb)⟩
theorem pe_makeG0 {k : Nat} {C f : Addr} {fd : FuncData} {ps : List Str} {sp : Sp} {dvs : List V} {ds : List Value} {E : L2.St → XK} {x : Str} {p pos : Pos}
    (M : Mk X.K C f) (F : FnG X.prog X.w X.K X.mg X.base k f fd ps sp) (hG : X.A.guards = some []) (hr : Room (k + 1) X.A) (hg : Gl X x) (hm : X.mg x = some (.ref C)) (hb : Binds X.K fd ps ds) (hd : Vals dvs ds) (hx : ∀ σ, PassesAt (CXP X.prog X.w) X σ (E σ))
    (hdb : (x == ("__debug__" : Str)) = false) : PE X (.Call (.Name x p) [] [] pos) (tMakeG C sp dvs E tNil) :=
  ⟨fun pins s σ H Q I h => wpAny_Call_Name_kw (ld_glob I hg hm (PySem.W.callWith_K0 I.kIn M.kp (run_makeG (us := []) M F hG hr hb hd hx I .nil h)) hdb)⟩
theorem DRm.later_ {K : PySem.W.Frag} {H H1 H2 : Hp} {W1 W2 : Wd} (f : Fut W1 H1 W2 H2) : ∀ {ms : List Bool} {vs : List V} {ds : List D}, DRm K ca H W1 H1 (ms.map pmd) vs ds → DRm K ca H W2 H2 (ms.map pmd) vs ds
  | [], _, _, .nil => .nil
  | b :: _, _, _, .cons q r => .cons (DR.later (by cases b <;> decide) f q) (DRm.later_ f r)
theorem make_of {c : Str} {ms ns : List Bool} {sem : Sem1} {dds : List D} {dvs : List V} {fa : SA} {σ : L2.St} {H : Hp} {Q : VK} (hq : DVs X.K ca (fun _ => none) (fun _ => none) dvs dds) (hs : dds.all isScal = true) (hn : ns.length = dds.length)
    (h : tE X.K ca H0 Wx m (eMake c sem dds fa) σ H Q) : tMakeG (ca c) (spD X.K ca (true :: (ms ++ ns)) .frz sem) dvs (WE Wx) (tAm X.K ca H0 Wx (ms.map pmd) fa) σ H Q := by
  obtain ⟨W, ρ, S, R, o⟩ := h
  refine ⟨W, ρ, S, R, ?_⟩
  have o1 := OutM.bind o
  cases e1 : fa ρ S with
  | none => rw [e1] at o1; exact o1.elim
  | some pr =>
    obtain ⟨ex, S1⟩ := pr
    rw [e1] at o1
    cases ex with
    | error z => exact o1
    | ok as =>
      refine fun W1 H1 F1 R1 vs D1 x dx hx hdx hne => ?_
      have h1 : OutM X.K ca H0 Wx W1 ρ σ H1 (mkR S1.length (sem (.obj S1.length :: (as ++ dds)) (S1 ++ [.ins c []]))) _ := o1 W1 H1 F1 R1
      have hx2 : upd H1 dx (.own x) x = none := by rw [upd_ne hne.symm]; exact hx
      obtain ⟨f1, f2⟩ := R1.w.free hx
      have Fl := Fut.trans' (Fut.laid (o := .own x) R1.w hdx) (Fut.laid (o := .ins (ca c) dx []) (R1.laid (o := .own x) hdx (fun _ z => by cases z)).w hx2)
      have Rl := (R1.laid (o := .own x) hdx (fun _ z => by cases z)).laid (o := .ins (ca c) dx []) hx2 (fun _ z => by cases z)
      have Rm := Rl.more (ob := .ins c []) (none_of_dom R1.h0 hx) f1 f2 upd_same ⟨dx, [], upd_same, .nil⟩
      have Fm := Fut.moreNew (S := S1) Rl.s Fl hx
      have adn : (W1.more S1.length x).ad S1.length = some x := if_pos rfl
      have args := (Bos.args R1.w D1).app (Bos.cons_ (K := X.K) (ca := ca) (W := W1.cal) (H := H1) ns hn hq hs)
      refine ⟨(W1.more S1.length x).cal, .obj S1.length :: (as ++ dds), S1 ++ [.ins c []], Rm.w.cal, Rm.s.cal, cal_ow, .kept (DV.obj adn) ?_, ?_⟩
      · have D2 : DRm X.K ca H (W1.more S1.length x) (upd (upd H1 dx (.own x)) x (.ins (ca c) dx [])) (ms.map pmd) vs as := DRm.later_ Fm D1
        exact (Bos.args Rm.w D2).app (Bos.cons_ ns hn hq hs)
      · cases e2 : sem (.obj S1.length :: (as ++ dds)) (S1 ++ [.ins c []]) with
        | none => rw [e2] at h1; exact False.elim h1
        | some r =>
          rw [e2] at h1
          obtain ⟨r, S2⟩ := r
          cases r with
          | error z =>
            exact fun W2 H2 cls od F2 w2 s2 xv => h1 _ H2 cls od (Fut.trans' Fm (Fut.back F2 Rm.w)) ((R1.ofFut Fm Rm.w Rm.s).back F2 w2 s2) xv
          | ok d =>
            cases d with
            | non => exact fun W2 H2 v F2 w2 s2 q => ⟨DV.ofNon q, h1 _ H2 (Fut.trans' Fm (Fut.back F2 Rm.w)) ((R1.ofFut Fm Rm.w Rm.s).back F2 w2 s2) _ (DR.scal rfl (.obj (F2.ad _ _ adn)))⟩
            | _ => exact False.elim h1
theorem de_make {k : Nat} {c : Str} {ms : List Bool} {sem : Sem1} {dds : List D} {e : Expr} {es : List Expr} {p pos : Pos} {fa : SA} (n j : Nat) (C : MakF X.prog X.w X.K X.mg X.base ca c k (true :: ms) sem dds) (hG : X.A.guards = some []) (hr : Room (k + 1) X.A) (hg : Gl X c) (tk : Takes X Wx)
    (ha : DAm X ca H0 Wx ((ms.take n).map pmd) (e :: es) fa) (hj : j ≤ dds.length := by decide) (hn : (ms.drop n).length = (dds.drop j).length := by rfl)
    (hdb : (c == ("__debug__" : Str)) = false := by decide) (he : starEach (e :: es) X.env = (false, eval e X.env) :: starEach es X.env := by rfl) (hpl : (backTo pos (starEach es X.env)).any (·.1) = false := by rfl) :
    DE X ca H0 Wx m (.Call (.Name c p) (e :: es) [] pos) (eMake c sem (dds.drop j) fa) := by
  obtain ⟨⟨f, fd, ps, h1, h2, h3, h4⟩, h5⟩ := C
  obtain ⟨dvs, ds, k1, k2, k3⟩ := h4 j hj
  rw [← List.take_append_drop n ms] at h3
  exact PE.imp (pe_makeG h2 h3 hG hr hg h1 k2 k1 (fun σ => passAt tk σ) ha hdb he hpl) fun σ H Q h => make_of k3 (all_drop h5 j) hn h
theorem de_make0 {k : Nat} {c : Str} {ms : List Bool} {sem : Sem1} {dds : List D} {p pos : Pos} (C : MakF X.prog X.w X.K X.mg X.base ca c k (true :: ms) sem dds) (hG : X.A.guards = some []) (hr : Room (k + 1) X.A) (hg : Gl X c) (tk : Takes X Wx) (hn : ms.length = dds.length := by rfl)
    (hdb : (c == ("__debug__" : Str)) = false := by decide) : DE X ca H0 Wx m (.Call (.Name c p) [] [] pos) (eMake c sem dds sNil) := by
  obtain ⟨⟨f, fd, ps, h1, h2, h3, h4⟩, h5⟩ := C
  obtain ⟨dvs, ds, k1, k2, k3⟩ := h4 0 (Nat.zero_le _)
  rw [List.drop_zero] at k3
  refine PE.imp (pe_makeG0 h2 h3 hG hr hg h1 k2 k1 (fun σ => passAt tk σ) hdb) fun σ H Q h => ?_
  obtain ⟨W, ρ, S, R, z⟩ := make_of (ms := []) (ns := ms) k3 h5 hn h
  exact z W H (FutG.refl _ _) R [] .nil
/-! ### loops over a list of the store: at each turn as it stands then -/
def foD (it : Nat → D → D) (n : Nat) (tgt : D → Rho → Option Rho) (body : SS) : Nat → Nat → SS
  | 0, _, _, _ => none
  | k + 1, i, ρ, S => match stL S n with
    | none => none
    | some l => match l[i]? with
      | none => some (.nx ρ, S)
      | some d => match tgt (it i d) ρ with
        | none => none
        | some ρ1 => match body ρ1 S with
          | some (.nx ρ', S') => foD it n tgt body k (i + 1) ρ' S'
          | some (.cnt ρ', S') => foD it n tgt body k (i + 1) ρ' S'
          | some (.brk ρ', S') => some (.nx ρ', S')
          | z => z
open Classical in
noncomputable def foR (it : Nat → D → D) (n : Nat) (tgt : D → Rho → Option Rho) (body : SS) : SS := fun ρ S => if h : ∃ k r, foD it n tgt body k 0 ρ S = some r then foD it n tgt body h.choose 0 ρ S else none
noncomputable def bForO (it : Nat → D → D) (fo : SE) (tgt : D → Rho → Option Rho) (body : SS) : SS := fun ρ => sb (fo ρ) ρ fun o S => match asObj o with
  | none => none
  | some n => foR it n tgt body ρ S
def itId : Nat → D → D := fun _ d => d
def itEn : Nat → D → D := fun i d => .tup [.int (i : Nat), d]
/-- the iterator hands out what stands in the list at a -/
def YlO (K : PySem.W.Frag) (ca : Ca) (H0 : Bs) (J : It) (a : Addr) (it : Nat → D → D) : Prop := ∀ (i : Nat) (H : Hp) (vs : List V), H a = some (.lst vs) →
  (∀ v, vs[i]? = some v → J.go i H ∧ ∀ x H', J.yld i H x H' → ∀ W σ ρ S d, Rep K ca H0 W H σ ρ S → DV K ca W.hf W.ad v d → ∃ W', Fut W H W' H' ∧ Rep K ca H0 W' H' σ ρ S ∧ DV K ca W'.hf W'.ad x (it i d)) ∧ (vs.length ≤ i → J.stop i H)
def tIO (K : PySem.W.Frag) (ca : Ca) (H0 : Bs) (Wx : WX) (it : Nat → D → D) (fo : SE) : TI := fun σ H R => ∃ W ρ S, Rep K ca H0 W H σ ρ S ∧ OutM K ca H0 Wx W ρ σ H (fo ρ S) fun o S' W' H' => ∃ n a l, asObj o = some n ∧ stL S' n = some l ∧ W'.ad n = some a ∧ ∀ J, YlO K ca H0 J a it → R J H'
theorem ylo_l {K : PySem.W.Frag} {a : Addr} : YlO K ca H0 (Itl K a) a itId := fun i H vs h =>
  ⟨fun v e => ⟨⟨vs, v, SqL.of h, e⟩, fun x H' ⟨eH, y⟩ W σ ρ S d R q => by
    subst eH
    have e2 := y vs (SqL.of h)
    rw [e] at e2; cases e2
    exact ⟨W, FutG.refl _ _, R, q⟩⟩, fun hl => ⟨vs, SqL.of h, hl⟩⟩
theorem ylo_e {K : PySem.W.Frag} {a : Addr} : YlO K ca H0 (Ite K a) a itEn := fun i H vs h =>
  ⟨fun v e => ⟨⟨vs, v, SqL.of h, e⟩, fun x H' ⟨T, u, ey, hT, eH, k⟩ W σ ρ S d R q => by
    subst ey; subst eH
    have e2 := k vs (SqL.of h)
    rw [e] at e2; cases e2
    exact pair_new hT R.w R.h0 (.int _) q R⟩, fun hl => ⟨vs, SqL.of h, hl⟩⟩
theorem forO_of {it : Nat → D → D} {fo : SE} {tgt : D → Rho → Option Rho} {body : SS} {D : Ends} {σ : L2.St} {H : Hp} (h : tS X.K ca H0 Wx mr (bForO it fo tgt body) D σ H) :
    tFor (tIO X.K ca H0 Wx it fo) (tG X.K ca H0 tgt) (tS X.K ca H0 Wx mr body) D σ H := by
  obtain ⟨W0, ρ0, S0, R0, o⟩ := h
  refine ⟨W0, ρ0, S0, R0, (OutS.bind R0 o).imp fun o S1 W1 H1 F1 R1 h1 => ?_⟩
  cases e0 : asObj o with
  | none => simp only [e0] at h1; exact False.elim h1
  | some n =>
    simp only [e0] at h1
    unfold foR at h1
    by_cases hh : ∃ k r, foD it n tgt body k 0 ρ0 S1 = some r
    · rw [dif_pos hh] at h1
      obtain ⟨r0, hr0⟩ : ∃ r, foD it n tgt body hh.choose 0 ρ0 S1 = some r := hh.choose_spec
      generalize hh.choose = k0 at h1 hr0
      have hS : ∃ l, stL S1 n = some l := by
        cases k0 with
        | zero => cases hr0
        | succ k =>
          unfold foD at hr0
          cases e : stL S1 n with
          | none => simp only [e] at hr0; cases hr0
          | some l => exact ⟨l, rfl⟩
      obtain ⟨l0, hl0⟩ := hS
      obtain ⟨a, ha, _⟩ := R1.s.at_ n _ (stL_eq hl0)
      refine ⟨n, a, l0, rfl, hl0, ha, fun J y => ?_⟩
      refine ⟨fun i m σ H => ∃ W ρ S, FutS H0 W1 H1 W H ∧ Rep X.K ca H0 W H σ ρ S ∧ OutS X.K ca H0 Wx mr W H D (foD it n tgt body m i ρ S), ⟨k0, W1, ρ0, S1, FutG.refl _ _, R1, h1⟩, ?_⟩
      rintro i m σ H ⟨W, ρ, S, F, R, h⟩
      cases m with
      | zero => exact False.elim h
      | succ m =>
        unfold foD at h
        cases e1 : stL S n with
        | none => simp only [e1] at h; exact False.elim h
        | some l =>
          simp only [e1] at h
          obtain ⟨b, k1, k2, vs, k3, k4⟩ := R.s.at_ n _ (stL_eq e1)
          have hb : b = a := by rw [F.ad n a ha] at k1; exact (Option.some.inj k1).symm
          subst hb
          obtain ⟨y1, y2⟩ := y i H vs k3
          cases e2 : l[i]? with
          | none =>
            simp only [e2] at h
            exact .inl ⟨y2 (by rw [k4.length]; exact List.getElem?_eq_none_iff.mp e2), OutS.nx R h⟩
          | some d =>
            simp only [e2] at h
            obtain ⟨v, e3, qv⟩ := k4.get e2
            obtain ⟨go, y3⟩ := y1 v e3
            refine .inr ⟨go, fun σ' H' => ∃ W ρ S, FutS H0 W1 H1 W H' ∧ Rep X.K ca H0 W H' σ' ρ S ∧ OutS X.K ca H0 Wx mr W H' D (foD it n tgt body m (i + 1) ρ S), fun σ' H' n' => ⟨m, by omega, n'⟩, fun x H' yl => ?_⟩
            obtain ⟨W', F0', R', qx⟩ := y3 x H' yl W σ ρ S d R qv
            have F' := Fut.s F0' R.h0
            cases et : tgt (it i d) ρ with
            | none => simp only [et] at h; exact False.elim h
            | some ρ1 =>
              simp only [et] at h
              refine ⟨W', ρ, S, _, ρ1, R', qx, et, fun σ2 R2 => ⟨W', ρ1, S, R2, ?_⟩⟩
              have h' := OutS.later F' h
              have nxt : ∀ {ρ' : Rho} {S' : Sto}, OutS X.K ca H0 Wx mr W' H' D (foD it n tgt body m (i + 1) ρ' S') → ∀ W2 H2 σ3, FutS H0 W' H' W2 H2 → Rep X.K ca H0 W2 H2 σ3 ρ' S' →
                  ∃ W ρ S, FutS H0 W1 H1 W H2 ∧ Rep X.K ca H0 W H2 σ3 ρ S ∧ OutS X.K ca H0 Wx mr W H2 D (foD it n tgt body m (i + 1) ρ S) := fun {ρ' S'} hh W2 H2 σ3 F2 R3 =>
                ⟨W2, ρ', S', (F.trans F').trans F2, R3, OutS.later F2 hh⟩
              match eb : body ρ1 S with
              | none => simp only [eb] at h'; exact h'
              | some (.nx ρ', S') => simp only [eb] at h'; exact fun W2 H2 σ3 F2 R3 => nxt h' W2 H2 σ3 F2 R3
              | some (.cnt ρ', S') => simp only [eb] at h'; exact fun W2 H2 σ3 F2 R3 => nxt h' W2 H2 σ3 F2 R3
              | some (.brk ρ', S') => simp only [eb] at h'; exact h'
              | some (.ret d, S') => simp only [eb] at h'; exact h'
              | some (.exc ρ' z, S') => simp only [eb] at h'; exact h'
    · rw [dif_neg hh] at h1; exact False.elim h1
theorem di_listO {tg e : Expr} {f : SE} (h : DE X ca H0 Wx .frz e f) : PI X tg e (tIO X.K ca H0 Wx itId f) :=
  PI.imp (pi_list h) fun σ H R ⟨W, ρ, S, Rp, o⟩ => ⟨W, ρ, S, Rp, o.imp fun o S' W' H' F R' ⟨n, a, l, e0, e1, ha, k⟩ v q => by
    rw [asObj_eq e0] at q
    obtain ⟨b, rfl, hb⟩ := DV.ofObj q
    rw [ha] at hb; cases hb
    obtain ⟨c, k1, _, vs, k3, _⟩ := R'.s.at_ n _ (stL_eq e1)
    rw [ha] at k1; cases k1
    exact ⟨_, rfl, ⟨vs, SqL.of k3⟩, k _ ylo_l⟩⟩
theorem di_enumO {e : Expr} {f : SE} {p pos tpos : Pos} {elts : List Expr} {kk : Nat} (hg : Gl X "enumerate") (hm : X.mg "enumerate" = none) (h : DE X ca H0 Wx .frz e f) (hs : starEach [e] X.env = [(false, eval e X.env)] := by rfl) :
    PI X (.Tuple elts kk tpos) (.Call (.Name "enumerate" p) [e] [] pos) (tIO X.K ca H0 Wx itEn f) :=
  PI.imp (pi_enum hg hm (pa_cons h pa_nil hs) hs) fun σ H R ⟨W, ρ, S, Rp, o⟩ => ⟨W, ρ, S, Rp, o.imp fun o S' W' H' F R' ⟨n, a, l, e0, e1, ha, k⟩ v q => by
    rw [asObj_eq e0] at q
    obtain ⟨b, rfl, hb⟩ := DV.ofObj q
    rw [ha] at hb; cases hb
    obtain ⟨c, k1, _, vs, k3, _⟩ := R'.s.at_ n _ (stL_eq e1)
    rw [ha] at k1; cases k1
    exact ⟨_, vs, rfl, SqL.of k3, k _ ylo_e⟩⟩
theorem ds_forO {tg iter : Expr} {body : List Stmt} {it : Nat → D → D} {fo : SE} {tgt : D → Rho → Option Rho} {fb : SS} {pos : Pos} (hp : PassesOwn (model X.prog X.w) X.A X.env X.xe) (hc : X.calm = true) (hi : PI X tg iter (tIO X.K ca H0 Wx it fo)) (hg : DG X ca H0 tg tgt) (hb : DSs X ca H0 Wx mr body fb)
    (hs : ∀ x, foldedSetIterable iter X.env x = pure x := by intro _; rfl) : DS X ca H0 Wx mr (.For tg iter body [] pos) (bForO it fo tgt fb) :=
  PS.imp (ps_for hp hc hi hg hb hs) fun D σ H h => forO_of h
end
end DL

/-! DL20: running objects. -/
namespace DL
open PySem PySem.Spec PyProof.Rows L2
@[simp] theorem eFld_e (tb : List Str) (f : Str) (fo : SE) (ρ : Rho) (S : Sto) : eFld tb f fo ρ S = mb (fo ρ) (fun o S => match asObj o with | none => none | some n => match stI S n with | none => none | some z => if tb.contains z.1 = true then mo (z.2.lookup f) S else none) S := rfl
@[simp] theorem bFld_e (tb : List Str) (f : Str) (fo fe : SE) (ρ : Rho) (S : Sto) : bFld tb f fo fe ρ S = sb (fe ρ) ρ (fun d => sb (fo ρ) ρ fun o S => match asObj o with | none => none | some n => match stI S n with | none => none | some z => if tb.contains z.1 = true ∧ z.2.length < 1000 then some (.nx ρ, S.set n (.ins z.1 (putD f d z.2))) else none) S := rfl
@[simp] theorem eMeth_e (c m : Str) (sem : Sem1) (dds : List D) (fo : SE) (fa : SA) (ρ : Rho) (S : Sto) : eMeth c m sem dds fo fa ρ S = mb (fo ρ) (fun o S => match asObj o with | none => none | some n => match stI S n with | none => none | some z => if z.1 = c ∧ z.2.lookup m = none then mb (fa ρ) (fun ds S => sem (o :: ds ++ dds) S) S else none) S := rfl
@[simp] theorem eMake_e (c : Str) (sem : Sem1) (dds : List D) (fa : SA) (ρ : Rho) (S : Sto) : eMake c sem dds fa ρ S = mb (fa ρ) (fun ds S => mkR S.length (sem (.obj S.length :: ds ++ dds) (S ++ [.ins c []]))) S := rfl
@[simp] theorem eAlt_e (f g : SE) (ρ : Rho) (S : Sto) : eAlt f g ρ S = (match f ρ S with | some r => some r | none => g ρ S) := rfl
@[simp] theorem mkR_ok (n : Nat) (S : Sto) : mkR n (some (.ok .non, S)) = some (.ok (.obj n), S) := rfl
@[simp] theorem mkR_err (n : Nat) (x : Xc) (S : Sto) : mkR n (some (.error x, S)) = some (.error x, S) := rfl
@[simp] theorem bForO_e (it : Nat → D → D) (fo : SE) (t : D → Rho → Option Rho) (b : SS) (ρ : Rho) (S : Sto) : bForO it fo t b ρ S = sb (fo ρ) ρ (fun o S => match asObj o with | none => none | some n => foR it n t b ρ S) S := rfl
theorem foD_mono {it : Nat → D → D} {n : Nat} {t : D → Rho → Option Rho} {b : SS} {r : SOut × Sto} : ∀ {k i : Nat} {ρ : Rho} {S : Sto}, foD it n t b k i ρ S = some r → ∀ k', k ≤ k' → foD it n t b k' i ρ S = some r
  | 0, i, ρ, S, h, _, _ => by cases h
  | k + 1, i, ρ, S, h, 0, hk => by omega
  | k + 1, i, ρ, S, h, k' + 1, hk => by
    unfold foD at h ⊢
    cases e1 : stL S n with
    | none => simp only [e1] at h; cases h
    | some l =>
      simp only [e1] at h ⊢
      cases e2 : l[i]? with
      | none => simp only [e2] at h ⊢; exact h
      | some d =>
        simp only [e2] at h ⊢
        cases e3 : t (it i d) ρ with
        | none => simp only [e3] at h; cases h
        | some ρ1 =>
          simp only [e3] at h ⊢
          match e4 : b ρ1 S with
          | none => simp only [e4] at h; cases h
          | some (.nx ρ', S') => simp only [e4] at h ⊢; exact foD_mono h k' (by omega)
          | some (.cnt ρ', S') => simp only [e4] at h ⊢; exact foD_mono h k' (by omega)
          | some (.brk ρ', S') => simp only [e4] at h ⊢; exact h
          | some (.ret d, S') => simp only [e4] at h ⊢; exact h
          | some (.exc ρ' z, S') => simp only [e4] at h ⊢; exact h
theorem foR_of {it : Nat → D → D} {n : Nat} {t : D → Rho → Option Rho} {b : SS} {k : Nat} {ρ : Rho} {S : Sto} {r : SOut × Sto} (h : foD it n t b k 0 ρ S = some r) : foR it n t b ρ S = some r := by
  have hh : ∃ k r, foD it n t b k 0 ρ S = some r := ⟨k, r, h⟩
  unfold foR
  rw [dif_pos hh]
  obtain ⟨r', h'⟩ := hh.choose_spec
  have a1 := foD_mono h (max k hh.choose) (Nat.le_max_left _ _)
  have a2 := foD_mono h' (max k hh.choose) (Nat.le_max_right _ _)
  rw [h']
  rw [a1] at a2
  exact a2.symm
/-- the list stands still -/
theorem foR_inv {it : Nat → D → D} {n : Nat} {t : D → Rho → Option Rho} {b : SS} (l : List D) (I : Nat → Rho → Sto → Prop) (R : SOut → Sto → Prop) (hl : ∀ i ρ S, i ≤ l.length → I i ρ S → stL S n = some l)
    (hs : ∀ i d ρ S, l[i]? = some d → I i ρ S → ∃ ρ1, t (it i d) ρ = some ρ1 ∧ ∃ o S', b ρ1 S = some (o, S') ∧ (match o with | .nx ρ' => I (i + 1) ρ' S' | .cnt ρ' => I (i + 1) ρ' S' | .brk ρ' => R (.nx ρ') S' | o => R o S'))
    (he : ∀ ρ S, I l.length ρ S → R (.nx ρ) S) {ρ : Rho} {S : Sto} (h : I 0 ρ S) : ∃ o S', foR it n t b ρ S = some (o, S') ∧ R o S' := by
  have go : ∀ (k i : Nat) (ρ : Rho) (S : Sto), i + k = l.length → I i ρ S → ∃ o S', foD it n t b (k + 1) i ρ S = some (o, S') ∧ R o S' := by
    intro k
    induction k with
    | zero =>
      intro i ρ S hi h
      have e1 := hl i ρ S (by omega) h
      have e2 : l[i]? = none := List.getElem?_eq_none (by omega)
      refine ⟨.nx ρ, S, ?_, he ρ S (by rw [show l.length = i by omega]; exact h)⟩
      unfold foD; simp only [e1, e2]
    | succ k ih =>
      intro i ρ S hi h
      have e1 := hl i ρ S (by omega) h
      have e2 : l[i]? = some l[i] := by simp [show i < l.length by omega]
      obtain ⟨ρ1, e3, o, S', e4, h2⟩ := hs i _ ρ S e2 h
      rw [foD]
      simp only [e1, e2, e3, e4]
      cases o with
      | nx ρ' => exact ih (i + 1) ρ' S' (by omega) h2
      | cnt ρ' => exact ih (i + 1) ρ' S' (by omega) h2
      | brk ρ' => exact ⟨_, _, rfl, h2⟩
      | ret d => exact ⟨_, _, rfl, h2⟩
      | exc ρ' x => exact ⟨_, _, rfl, h2⟩
  obtain ⟨o, S', e, r⟩ := go l.length 0 ρ S (by omega) h
  exact ⟨o, S', foR_of e, r⟩
theorem foR_nx {it : Nat → D → D} {n : Nat} {t : D → Rho → Option Rho} {b : SS} (l : List D) (I : Nat → Rho → Sto → Prop) (hl : ∀ i ρ S, i ≤ l.length → I i ρ S → stL S n = some l)
    (hs : ∀ i d ρ S, l[i]? = some d → I i ρ S → ∃ ρ1, t (it i d) ρ = some ρ1 ∧ ∃ ρ' S', b ρ1 S = some (.nx ρ', S') ∧ I (i + 1) ρ' S') {ρ : Rho} {S : Sto} (h : I 0 ρ S) : ∃ ρ' S', foR it n t b ρ S = some (.nx ρ', S') ∧ I l.length ρ' S' := by
  obtain ⟨o, S', e, ρ', rfl, h2⟩ := foR_inv (it := it) (n := n) (t := t) (b := b) l I (fun o S => ∃ ρ', o = .nx ρ' ∧ I l.length ρ' S) hl (fun i d ρ S hd hh => by
    obtain ⟨ρ1, e1, ρ', S', e2, h3⟩ := hs i d ρ S hd hh
    exact ⟨ρ1, e1, _, S', e2, h3⟩) (fun ρ S hh => ⟨ρ, rfl, hh⟩) h
  exact ⟨ρ', S', e, h2⟩
theorem dref_at {S : Sto} {n : Nat} {l : List D} (h : S[n]? = some (.lst l)) : dref S (.obj n) = .lst l := by
  show (match S[n]? with | some (.lst l) => D.lst l | some (.dK l) => .dK l | some (.dT l) => .dT l | some (.ins c fs) => .ins c fs | none => .obj n) = _
  rw [h]
theorem stL_at {S : Sto} {n : Nat} {l : List D} (h : S[n]? = some (.lst l)) : stL S n = some l := by
  unfold stL; rw [h]
theorem stI_at {S : Sto} {n : Nat} {c : Str} {fs : List (Str × D)} (h : S[n]? = some (.ins c fs)) : stI S n = some (c, fs) := by
  unfold stI; rw [h]
end DL
namespace DL
open PySem PySem.Spec PyProof.Rows L2
section
variable {P : Program} {w : World} {K : PySem.W.Frag} {mg : Str → Option Value} {base : Heap} {ca : Ca} {c m : Str} {a f : Addr} {fd : FuncData} {ps : List Str} {k : Nat} {ms : List Bool} {mr : Md} {sem : Sem1}
theorem metF0 (h1 : Cls K (ca c)) (h2 : Meth K (ca c) m a) (F : FnG P w K mg base k a fd ps (spD K ca ms mr sem)) (hb : Binds K fd ps []) : MetF P w K mg base ca c m k ms mr sem [] :=
  ⟨⟨a, fd, ps, h1, h2, F, fun j _ => ⟨[], [], .nil, hb, by rw [List.drop_nil]; exact .nil⟩⟩, rfl⟩
theorem makF0 (h1 : mg c = some (.ref (ca c))) (h2 : Mk K (ca c) f) (F : FnG P w K mg base k f fd ps (spD K ca ms .frz sem)) (hb : Binds K fd ps []) : MakF P w K mg base ca c k ms sem [] :=
  ⟨⟨f, fd, ps, h1, h2, F, fun j _ => ⟨[], [], .nil, hb, by rw [List.drop_nil]; exact .nil⟩⟩, rfl⟩
end
end DL
namespace DL
open PySem PySem.Spec PyProof.Rows L2
section
variable {X : Cx} {ca : Ca} {H0 : Bs} {Wx : WX}
theorem dt_isN {a : Expr} {fa : SE} {pos : Pos} {j pos'} (ha : DE X ca H0 Wx .bor a fa) : DT X ca H0 Wx (.Compare a [.Is] [.Constant .none j pos'] pos) (sBl (sIsN false fa)) :=
  PT.imp (pt_cmp (pc_isN ha)) fun σ H Q h => by
    obtain ⟨W, ρ, S, R, h⟩ := h
    have h := OutM.bind h
    exact ⟨W, ρ, S, R, (OutM.bind h).imp fun d S1 W1 H1 F1 R1 h1 x D1 => ⟨decide (x = .non), rfl, by
      rw [bor_non D1]
      have h2 : OutM X.K ca H0 Wx W1 ρ σ H1 (mp (isN d) S1) fun b _ _ H' => Q b H' := OutM.re R1 h1
      exact OutM.re R1 h2⟩⟩
theorem dt_notN {a : Expr} {fa : SE} {pos : Pos} {j pos'} (ha : DE X ca H0 Wx .bor a fa) : DT X ca H0 Wx (.Compare a [.IsNot] [.Constant .none j pos'] pos) (sBl (sIsN true fa)) :=
  PT.imp (pt_cmp (pc_notN ha)) fun σ H Q h => by
    obtain ⟨W, ρ, S, R, h⟩ := h
    have h := OutM.bind h
    exact ⟨W, ρ, S, R, (OutM.bind h).imp fun d S1 W1 H1 F1 R1 h1 x D1 => ⟨!decide (x = .non), rfl, by
      rw [bor_non D1]
      have h2 : OutM X.K ca H0 Wx W1 ρ σ H1 (mp (!isN d) S1) fun b _ _ H' => Q b H' := OutM.re R1 h1
      exact OutM.re R1 h2⟩⟩
end
end DL

/-! DL21: try with several clauses, some with a name. -/
namespace DL
open PySem PySem.Spec PyProof.Rows L2
/-- the clauses of a try, as they are tried one behind another -/
abbrev Cls := List (Value × Option Nat × (Addr → Value → Option Addr → TS))
def dropA (i : Nat) (D : Ends) : Ends := { nx := fun σ' H' => D.nx (σ'.set i none) H', rt := D.rt, bk := fun σ' H' => D.bk (σ'.set i none) H', ct := fun σ' H' => D.ct (σ'.set i none) H' }
def wMix (K : PySem.W.Frag) (Wout : WX) (D : Ends) : Cls → WX
  | [] => Wout
  | (c, none, ts) :: r => fun cls d σ H => ∃ b, PySem.W.exmOne K cls c = some b ∧ (b = true → ∀ a, H a = none → ts a cls d D σ H) ∧ (b = false → wMix K Wout D r cls d σ H)
  | (c, some i, ts) :: r => fun cls d σ H => ∃ b, PySem.W.exmOne K cls c = some b ∧ (b = true → ∀ a, H a = none → ts a cls d (dropA i D) (σ.set i (some (.ref a))) H) ∧ (b = false → wMix K Wout D r cls d σ H)
inductive MixOk (X : Cx) : List ExceptHandler → Cls → Prop
  | nil : MixOk X [] []
  | plain {x : Str} {c : Value} {ts : Addr → Value → Option Addr → TS} {b₀ : Stmt} {suite : List Stmt} {np pos' : Pos} {hds : List ExceptHandler} {l : Cls} (hc : Names X x c)
      (hsu : ∀ (a : Addr) (oe : Obj) (cls : Value) (d : Option Addr) (pn : List (Addr × Obj)), Zc cls d oe → (∃ vs, oe.data = .fields vs) → PSs (X.suite a ((a, oe) :: pn)) (b₀ :: suite) (ts a cls d)) (r : MixOk X hds l) :
      MixOk X (.ExceptHandler (some (.Name x np)) none (b₀ :: suite) pos' :: hds) ((c, none, ts) :: l)
  | named {x n : Str} {i : Nat} {c : Value} {ts : Addr → Value → Option Addr → TS} {b₀ : Stmt} {suite : List Stmt} {np pos' : Pos} {hds : List ExceptHandler} {l : Cls} (hc : Names X x c) (hi : X.N[i]? = some n) (hln : X.env.kindOf n = some .local)
      (hsu : ∀ (a : Addr) (oe : Obj) (cls : Value) (d : Option Addr) (pn : List (Addr × Obj)), Zc cls d oe → (∃ vs, oe.data = .fields vs) → PSs (X.suite a ((a, oe) :: pn)) (b₀ :: suite) (ts a cls d)) (r : MixOk X hds l) :
      MixOk X (.ExceptHandler (some (.Name x np)) (some n) (b₀ :: suite) pos' :: hds) ((c, some i, ts) :: l)
section
variable {X : Cx} {body : List Stmt} {h₀ : ExceptHandler} {hds : List ExceptHandler} {l : Cls} {pos : Pos} {tb : WX → TS} {Wout : WX}
theorem ps_try_mix (hs : X.stack = X.env :: X.outer) (hf : X.env.frame = some X.env.locals) (hN : X.N.Nodup) (tk : Takes X Wout)
    (hb : ∀ (W : WX) (pn : List (Addr × Obj)) (xe : Value → Shared → Prop), Takes (X.tr pn xe) W → PassesOwn (model X.prog X.w) X.A X.env xe → PSs (X.tr pn xe) body (tb W))
    (hh : MixOk X (h₀ :: hds) l) : PS X (.Try body (h₀ :: hds) [] [] pos) (fun D σ H => tb (wMix X.K Wout D l) D σ H) := by
  refine ⟨fun pins s σ H D I h => ?_⟩
  have ok := I.ok
  have hfr : X.A.frames = some (X.env :: X.outer) := by rw [ok.frames, hs]
  refine wpAny_Try_except ?_
  refine wpAny_mono ((hb (wMix X.K Wout D l) (X.pn ++ pins) (fun e s₁ => wpAny (model X.prog X.w) X.A (noteFrame e X.env) (fun _ s₂ => wpAny (model X.prog X.w) X.A (setFlight e none) (fun _ s₃ =>
    wpAny (model X.prog X.w) X.A (handleBy e X.env (h₀ :: hds)) (SP X pins D) X.xe s₃) X.xe s₂) X.xe s₁) (fun u s' xx => ?_) PassesOwn.looking).run [] s σ H D (I.toTry _) h) (fun f s1 hsp => ?_) (fun e s1 he => he)
  · obtain ⟨a, B, sI, pins', σ', H', cls, d, rfl, J', nb, up, sky, na, os, ag, w⟩ := xx
    have J : Inv X pins σ' H' sI := J'.ofTry ok
    have sky' : Sky B (X.env :: X.outer) a (Zc cls d) X.env.locals s'.heap := by rw [← hs]; exact sky
    show wpAny (model X.prog X.w) X.A (noteFrame (.ref a) X.env) _ _ _
    refine Sky.land Zc.steady hfr hf sky' fun h3 fl3 up3 => ?_
    have J3 : Inv X pins σ' H' { s' with heap := h3 } := J.landed nb fl3.1 (up.trans up3) os ag
    obtain ⟨oe3, vs3, he3, hz3, hd3⟩ := fl3.there
    have nfr : a ∉ frs (X.env :: X.outer) := fun hm => by
      obtain ⟨_, o', e', hnf⟩ := fl3.2.2.1.mem hm
      rw [he3] at e'; cases e'
      exact hnf _ hd3
    have nL : a ≠ X.env.locals := fun z => nfr (List.mem_filterMap.mpr ⟨X.env, List.mem_cons_self, by rw [hf, z]⟩)
    have nF : a ∉ X.fs := fun hm => by
      obtain ⟨e, he, q⟩ := List.mem_filterMap.mp hm
      exact nfr (List.mem_filterMap.mpr ⟨e, List.mem_cons_of_mem _ he, q⟩)
    have S3 := J3.suite he3 hd3 na nL nF
    have LT : PySem.W.Looks (model X.prog X.w) h3 (typeOf (.ref a)) cls := fun A Q E s k q => wpAny_typeOf_ref (k _ _ he3) (by rw [hz3.1]; exact q)
    have test : ∀ {x : Str} {c : Value} {np : Pos} {Q : Value → Shared → Prop} {E : Value → Shared → Prop}, Names X x c → Q c { s' with heap := h3 } → wpAny (model X.prog X.w) (X.A.mark (some (.ref a))) (eval (.Name x np) X.env) Q E { s' with heap := h3 } := fun {x c np Q E} hc q => by
      obtain ⟨hg, hdbg, hm | ⟨hm, hv, hnn⟩⟩ := hc
      · exact ld_glob (X := X.suite a ((a, oe3) :: (X.pn ++ pins))) S3 hg hm q hdbg
      · exact ld_blt (X := X.suite a ((a, oe3) :: (X.pn ++ pins))) S3 hg hm hv q hnn hdbg
    have go : ∀ {hds' : List ExceptHandler} {l' : Cls}, MixOk X hds' l' → wMix X.K Wout D l' cls d σ' H' →
        wpAny (model X.prog X.w) X.A (handleBy (.ref a) X.env hds') (SP X pins D) X.xe { s' with heap := h3 } := by
      intro hds' l' hk
      induction hk with
      | nil =>
        intro w
        refine wpAny_handleBy_nil ?_
        obtain ⟨k1, k2, k3, oe, vs, T, oT, ts', he, hz, hd, h1, hr⟩ := id fl3
        unfold PySem.passOn
        refine wpAny_bind (wpAny_field he hd h1 ?_)
        rw [if_neg (show ¬ ((Value.ref T == Value.none) = true) from by simp)]
        have fin : wpAny (model X.prog X.w) X.A (setFlight (.ref a) X.env.frame) (fun _ s4 => wpAny (model X.prog X.w) X.A (throw (.ref a) : Sem Flow) (SP X pins D) X.xe s4) X.xe { s' with heap := h3 } := by
          rw [hf]
          refine HandSPX.setFlight_upZ fl3 fun h4 hh4 up4 => wpAny_throw (tk _ _ ?_)
          exact ⟨a, B, sI, pins, σ', H', cls, d, rfl, J, nb, (up.trans up3).trans up4, .inr (.inr (by rw [hs]; exact hh4)), na, os, ag, w⟩
        first
          | exact wpAny_bind (wpAny_pure (wpAny_bind fin))
          | exact wpAny_bind fin
      | @plain x c ts b₀ suite np pos' hds2 l2 hc hsu r ih =>
        intro w
        obtain ⟨b, hb1, hyes, hno⟩ := w
        refine wpAny_handleBy_cons (codeAny_handlers_test ?_) (by intro q; cases q)
        refine test hc ((PySem.W.exm_one (M := model X.prog X.w) (J3.kIn) LT hb1).here ?_)
        cases b with
        | true =>
          refine codeAny_handlers_suite ?_
          refine HandSPX.lands_againZ fl3 fun h4 fl4 up4 => ?_
          have J4 : Inv X pins σ' H' { s' with heap := h4 } := J.landed nb fl4.1 ((up.trans up3).trans up4) os ag
          obtain ⟨oe4, vs4, he4, hz4, hd4⟩ := fl4.there
          refine wpAny_mono ((hsu a oe4 cls d (X.pn ++ pins) hz4 ⟨_, hd4⟩).run [] _ _ H' _ (J4.suite he4 hd4 na nL nF) (hyes rfl a na)) (fun f s6 hsp => ?_) (fun _ _ z => False.elim z)
          cases f <;> first
            | (obtain ⟨σ6, H6, S6, q6⟩ := hsp; exact ⟨_, _, S6.unsuite ok, q6⟩)
            | (obtain ⟨v6, σ6, H6, S6, r6, q6⟩ := hsp; exact ⟨_, _, _, S6.unsuite ok, r6, q6⟩)
        | false => exact ih (hno rfl)
      | @named x n i c ts b₀ suite np pos' hds2 l2 hc hi hln hsu r ih =>
        intro w
        have hloc : Loc X.env.scope n := .inl hln
        obtain ⟨b, hb1, hyes, hno⟩ := w
        refine wpAny_handleBy_cons (codeAny_handlers_test ?_) (by intro q; cases q)
        refine test hc ((PySem.W.exm_one (M := model X.prog X.w) (J3.kIn) LT hb1).here ?_)
        cases b with
        | true =>
          refine codeAny_handlers_suite_as ?_
          refine HandSPX.lands_againZ fl3 fun h4 fl4 up4 => ?_
          have J4 : Inv X pins σ' H' { s' with heap := h4 } := J.landed nb fl4.1 ((up.trans up3).trans up4) os ag
          obtain ⟨oe4, vs4, he4, hz4, hd4⟩ := fl4.there
          refine store_ok (X := X.suite a ((a, oe4) :: (X.pn ++ pins))) (v := .ref a) (J4.suite he4 hd4 na nL nF) hN hi hloc rfl (fun s5 S5 => ?_) (.inr hln)
          refine wpAny_mono ((hsu a oe4 cls d (X.pn ++ pins) hz4 ⟨_, hd4⟩).run [] s5 _ H' _ S5 (hyes rfl a na)) (fun f s6 hsp => ?_) (fun _ _ z => False.elim z)
          have end_ : ∀ {σ6 : L2.St} {H6 : Hp} {Q : Shared → Prop}, Inv (X.suite a ((a, oe4) :: (X.pn ++ pins))) [] σ6 H6 s6 → (∀ s7, Inv X pins (σ6.set i none) H6 s7 → Q s7) →
              wpAny (model X.prog X.w) X.A (do bindName X.env n .none; unbindBehindTheSuite X.env n pos') (fun _ s7 => Q s7) X.xe s6 := fun {σ6 H6 Q} S6 hq => gone_ok (S6.unsuite ok) hN hi hln hq
          cases f <;> first
            | (obtain ⟨σ6, H6, S6, q6⟩ := hsp; exact end_ S6 fun s7 J7 => ⟨_, _, J7, q6⟩)
            | (obtain ⟨v6, σ6, H6, S6, r6, q6⟩ := hsp; exact end_ S6 fun s7 J7 => ⟨_, _, _, J7, r6, q6⟩)
        | false => exact ih (hno rfl)
    exact go hh w
  · cases f with
    | next =>
      obtain ⟨σ', H', J', q⟩ := hsp
      exact wpAny_execs_nil ⟨σ', H', J'.ofTry ok, q⟩
    | brk =>
      obtain ⟨σ', H', J', q⟩ := hsp
      exact ⟨σ', H', J'.ofTry ok, q⟩
    | cont =>
      obtain ⟨σ', H', J', q⟩ := hsp
      exact ⟨σ', H', J'.ofTry ok, q⟩
    | ret u =>
      obtain ⟨v, σ', H', J', r, q⟩ := hsp
      exact ⟨v, σ', H', J'.ofTry ok, r, q⟩
end
/-! on data -/
abbrev Cl := (Str → Option Bool) × Option Nat × SS
def trM : List Cl → Xc → Rho → Sto → Option (SOut × Sto)
  | [], x, ρ, S => some (.exc ρ x, S)
  | (mx, none, fs) :: r, x, ρ, S => match mx x.c with
    | none => none
    | some false => trM r x ρ S
    | some true => match fs ρ S with
      | some (.exc _ _, _) => none
      | z => z
  | (mx, some i, fs) :: r, x, ρ, S => match mx x.c with
    | none => none
    | some false => trM r x ρ S
    | some true => suA i (fs (ρ.set i (.ex x)) S)
def bTryM (l : List Cl) (fb : SS) : SS := fun ρ S => match fb ρ S with
  | some (.exc ρ' x, S') => trM l x ρ' S'
  | r => r
inductive MxD (X : Cx) (ca : Ca) (H0 : Bs) (mr : Md) : List ExceptHandler → Cls → List Cl → Prop
  | nil : MxD X ca H0 mr [] [] []
  | plain {x : Str} {c : Value} {mx : Str → Option Bool} {b₀ : Stmt} {suite : List Stmt} {np pos' : Pos} {fs : SS} {hds : List ExceptHandler} {l : Cls} {cl : List Cl} (hc : Names X x c) (hmx : ∀ d b, mx d = some b → PySem.W.exmOne X.K (.ref (ca d)) c = some b)
      (hsu : ∀ (a : Addr) (oe : Obj) (cls : Value) (d : Option Addr) (pn : List (Addr × Obj)), Zc cls d oe → (∃ vs, oe.data = .fields vs) → DSs (X.suite a ((a, oe) :: pn)) ca H0 (fun _ _ _ _ => False) mr (b₀ :: suite) fs)
      (r : MxD X ca H0 mr hds l cl) : MxD X ca H0 mr (.ExceptHandler (some (.Name x np)) none (b₀ :: suite) pos' :: hds) ((c, none, fun a cls d => tS X.K ca H0 (fun _ _ _ _ => False) mr fs) :: l) ((mx, none, fs) :: cl)
  | named {x n : Str} {i : Nat} {c : Value} {mx : Str → Option Bool} {b₀ : Stmt} {suite : List Stmt} {np pos' : Pos} {fs : SS} {hds : List ExceptHandler} {l : Cls} {cl : List Cl} (hi : X.N[i]? = some n) (hln : X.env.kindOf n = some .local) (hc : Names X x c) (hmx : ∀ d b, mx d = some b → PySem.W.exmOne X.K (.ref (ca d)) c = some b)
      (hsu : ∀ (a : Addr) (oe : Obj) (cls : Value) (d : Option Addr) (pn : List (Addr × Obj)), Zc cls d oe → (∃ vs, oe.data = .fields vs) → DSs (X.suite a ((a, oe) :: pn)) ca ⟨H0.h, some (a, cls, d)⟩ (fun _ _ _ _ => False) mr (b₀ :: suite) fs)
      (r : MxD X ca H0 mr hds l cl) : MxD X ca H0 mr (.ExceptHandler (some (.Name x np)) (some n) (b₀ :: suite) pos' :: hds) ((c, some i, fun a cls d => tS X.K ca ⟨H0.h, some (a, cls, d)⟩ (fun _ _ _ _ => False) mr fs) :: l) ((mx, some i, fs) :: cl)
theorem MxD.ok {X : Cx} {ca : Ca} {H0 : Bs} {mr : Md} {hds : List ExceptHandler} {l : Cls} {cl : List Cl} (h : MxD X ca H0 mr hds l cl) : MixOk X hds l := by
  induction h with
  | nil => exact .nil
  | plain hc hmx hsu r ih => exact .plain hc hsu ih
  | named hi hln hc hmx hsu r ih => exact .named hc hi hln hsu ih
theorem MxD.mix {X : Cx} {ca : Ca} {H0 : Bs} {Wx : WX} {mr : Md} {hds : List ExceptHandler} {l : Cls} {cl : List Cl} (hH : H0.ex = none) (h : MxD X ca H0 mr hds l cl) {W : Wd} {H : Hp} {D : Ends} {x : Xc} {ρ' : Rho} {S' : Sto}
    (o : OutS X.K ca H0 Wx mr W H D (trM cl x ρ' S')) : OutS X.K ca H0 (wMix X.K Wx D l) mr W H D (some (.exc ρ' x, S')) := by
  induction h with
  | nil => exact o
  | @plain y c mx b₀ suite np pos' fs hds l cl hc hmx hsu r ih =>
    unfold trM at o
    refine fun W' H' σ' cls od F R' xv => ?_
    cases e1 : mx x.c with
    | none => simp only [e1] at o; exact False.elim o
    | some b =>
      have eb := hmx _ _ e1
      refine ⟨b, by rw [xv.1]; exact eb, fun hb a ha => ?_, fun hb => ?_⟩
      · subst hb
        simp only [e1] at o
        refine ⟨W', ρ', S', R', ?_⟩
        match e2 : fs ρ' S' with
        | none => simp only [e2] at o; exact False.elim o
        | some (.nx ρ2, S2) => simp only [e2] at o; exact fun W2 H2 σ2 F2 R2 => o W2 H2 σ2 (F.trans F2) R2
        | some (.brk ρ2, S2) => simp only [e2] at o; exact fun W2 H2 σ2 F2 R2 => o W2 H2 σ2 (F.trans F2) R2
        | some (.cnt ρ2, S2) => simp only [e2] at o; exact fun W2 H2 σ2 F2 R2 => o W2 H2 σ2 (F.trans F2) R2
        | some (.ret d, S2) => simp only [e2] at o; exact fun W2 H2 v F2 w s q => o W2 H2 v (F.trans F2) w s q
        | some (.exc ρ2 z, S2) => simp only [e2] at o; exact False.elim o
      · subst hb
        simp only [e1] at o
        exact ih o W' H' σ' cls od F R' xv
  | @named y n i c mx b₀ suite np pos' fs hds l cl hi hln hc hmx hsu r ih =>
    unfold trM at o
    refine fun W' H' σ' cls od F R' xv => ?_
    cases e1 : mx x.c with
    | none => simp only [e1] at o; exact False.elim o
    | some b =>
      have eb := hmx _ _ e1
      refine ⟨b, by rw [xv.1]; exact eb, fun hb a ha => ?_, fun hb => ?_⟩
      · subst hb
        simp only [e1] at o
        refine ⟨W', ρ'.set i (.ex x), S', (R'.toEx (e := some (a, cls, od)) hH).setO ⟨a, od, cls, rfl, rfl, xv⟩, ?_⟩
        have cl : ∀ {k : Rho → SOut} {P : L2.St → Hp → Prop} {ρ2 : Rho} {S2 : Sto}, OutS X.K ca H0 Wx mr W H D (clr i ρ2 S2 k) →
            (∀ ρ3, OutS X.K ca H0 Wx mr W H D (some (k ρ3, S2)) → ∀ W2 H2 σ2, FutS H0 W H W2 H2 → Rep X.K ca H0 W2 H2 σ2 ρ3 S2 → P σ2 H2) →
            ∀ W2 H2 σ2, FutS H0 W' H' W2 H2 → Rep X.K ca ⟨H0.h, some (a, cls, od)⟩ W2 H2 σ2 ρ2 S2 → P (σ2.set i none) H2 := fun {k P ρ2 S2} h g W2 H2 σ2 F2 R2 => by
          unfold clr at h
          by_cases hz : (ρ2.set i .no).all notEx = true
          · rw [if_pos hz] at h
            exact g _ h W2 H2 _ (F.trans F2) (Rep.ofEx (R2.setO (v := none) (x := .no) trivial) hz)
          · rw [if_neg hz] at h; exact False.elim h
        match e2 : fs (ρ'.set i (.ex x)) S' with
        | none => simp only [e2, suA] at o; exact False.elim o
        | some (.nx ρ2, S2) => simp only [e2, suA] at o; exact cl o fun ρ3 h => h
        | some (.brk ρ2, S2) => simp only [e2, suA] at o; exact cl o fun ρ3 h => h
        | some (.cnt ρ2, S2) => simp only [e2, suA] at o; exact cl o fun ρ3 h => h
        | some (.ret d, S2) => simp only [e2, suA] at o; exact fun W2 H2 v F2 w s q => o W2 H2 v (F.trans F2) w s q
        | some (.exc ρ2 z, S2) => simp only [e2, suA] at o; exact False.elim o
      · subst hb
        simp only [e1] at o
        exact ih o W' H' σ' cls od F R' xv
section
variable {X : Cx} {ca : Ca} {H0 : Bs} {Wx : WX} {mr : Md}
theorem ds_tryM {body : List Stmt} {h₀ : ExceptHandler} {hds : List ExceptHandler} {l : Cls} {cl : List Cl} {pos : Pos} {fb : SS} (hN : X.N.Nodup) (tk : Takes X Wx)
    (hb : ∀ (W : WX) (pn : List (Addr × Obj)) (xe : Value → Shared → Prop), Takes (X.tr pn xe) W → PassesOwn (model X.prog X.w) X.A X.env xe → DSs (X.tr pn xe) ca H0 W mr body fb) (hM : MxD X ca H0 mr (h₀ :: hds) l cl)
    (hH : H0.ex = none := by rfl) (hs : X.stack = X.env :: X.outer := by rfl) (hf : X.env.frame = some X.env.locals := by rfl) : DS X ca H0 Wx mr (.Try body (h₀ :: hds) [] [] pos) (bTryM cl fb) := by
  refine PS.imp (ps_try_mix (tb := fun W => tS X.K ca H0 W mr fb) hs hf hN tk hb hM.ok) fun D σ H ⟨W, ρ, S, R, o⟩ => ⟨W, ρ, S, R, ?_⟩
  unfold bTryM at o
  match e : fb ρ S with
  | none => simp only [e] at o; exact o
  | some (.nx ρ', S') => simp only [e] at o; exact o
  | some (.brk ρ', S') => simp only [e] at o; exact o
  | some (.cnt ρ', S') => simp only [e] at o; exact o
  | some (.ret d, S') => simp only [e] at o; exact o
  | some (.exc ρ' x, S') =>
    simp only [e] at o
    exact hM.mix hH o
theorem mx_plain {x : Str} {tb : List (Str × Bool)} {b₀ : Stmt} {suite : List Stmt} {np pos' : Pos} {fs : SS} {hds : List ExceptHandler} {cl : List Cl} (T : TrF X.K X.mg ca x tb)
    (hsu : ∀ (a : Addr) (oe : Obj) (cls : Value) (d : Option Addr) (pn : List (Addr × Obj)), Zc cls d oe → (∃ vs, oe.data = .fields vs) → DSs (X.suite a ((a, oe) :: pn)) ca H0 (fun _ _ _ _ => False) mr (b₀ :: suite) fs)
    (r : ∃ l, MxD X ca H0 mr hds l cl) (hg : Gl X x := by rfl) (hd : (x == ("__debug__" : Str)) = false := by decide) : ∃ l, MxD X ca H0 mr (.ExceptHandler (some (.Name x np)) none (b₀ :: suite) pos' :: hds) l ((fun c => tb.lookup c, none, fs) :: cl) := by
  obtain ⟨C, h1, h2⟩ := T
  obtain ⟨l, r⟩ := r
  exact ⟨_, .plain ⟨hg, hd, .inl h1⟩ (fun d b e => h2 _ (mem_of_lookup e)) hsu r⟩
theorem mx_named {x n : Str} {i : Nat} {tb : List (Str × Bool)} {b₀ : Stmt} {suite : List Stmt} {np pos' : Pos} {fs : SS} {hds : List ExceptHandler} {cl : List Cl} (hi : X.N[i]? = some n) (T : TrF X.K X.mg ca x tb)
    (hsu : ∀ (a : Addr) (oe : Obj) (cls : Value) (d : Option Addr) (pn : List (Addr × Obj)), Zc cls d oe → (∃ vs, oe.data = .fields vs) → DSs (X.suite a ((a, oe) :: pn)) ca ⟨H0.h, some (a, cls, d)⟩ (fun _ _ _ _ => False) mr (b₀ :: suite) fs)
    (r : ∃ l, MxD X ca H0 mr hds l cl) (hln : X.env.kindOf n = some .local := by rfl) (hg : Gl X x := by rfl) (hd : (x == ("__debug__" : Str)) = false := by decide) : ∃ l, MxD X ca H0 mr (.ExceptHandler (some (.Name x np)) (some n) (b₀ :: suite) pos' :: hds) l ((fun c => tb.lookup c, some i, fs) :: cl) := by
  obtain ⟨C, h1, h2⟩ := T
  obtain ⟨l, r⟩ := r
  exact ⟨_, .named hi hln ⟨hg, hd, .inl h1⟩ (fun d b e => h2 _ (mem_of_lookup e)) hsu r⟩
theorem mx_nil : ∃ l, MxD X ca H0 mr [] l [] := ⟨_, .nil⟩
theorem ds_tryMF {body : List Stmt} {h₀ : ExceptHandler} {hds : List ExceptHandler} {cl : List Cl} {pos : Pos} {fb : SS} (hN : X.N.Nodup) (tk : Takes X Wx)
    (hb : ∀ (W : WX) (pn : List (Addr × Obj)) (xe : Value → Shared → Prop), Takes (X.tr pn xe) W → PassesOwn (model X.prog X.w) X.A X.env xe → DSs (X.tr pn xe) ca H0 W mr body fb) (hM : ∃ l, MxD X ca H0 mr (h₀ :: hds) l cl)
    (hH : H0.ex = none := by rfl) (hs : X.stack = X.env :: X.outer := by rfl) (hf : X.env.frame = some X.env.locals := by rfl) : DS X ca H0 Wx mr (.Try body (h₀ :: hds) [] [] pos) (bTryM cl fb) := by
  obtain ⟨l, hM⟩ := hM
  exact ds_tryM hN tk hb hM hH hs hf
end
@[simp] theorem bTryM_e (l : List Cl) (fb : SS) (ρ : Rho) (S : Sto) : bTryM l fb ρ S = (match fb ρ S with | some (.exc ρ1 x, S1) => trM l x ρ1 S1 | z => z) := rfl
@[simp] theorem trM_n (x : Xc) (ρ : Rho) (S : Sto) : trM [] x ρ S = some (.exc ρ x, S) := rfl
@[simp] theorem trM_p (mx : Str → Option Bool) (fs : SS) (r : List Cl) (x : Xc) (ρ : Rho) (S : Sto) : trM ((mx, none, fs) :: r) x ρ S = (match mx x.c with | none => none | some false => trM r x ρ S | some true => match fs ρ S with | some (.exc _ _, _) => none | z => z) := rfl
@[simp] theorem trM_a (mx : Str → Option Bool) (i : Nat) (fs : SS) (r : List Cl) (x : Xc) (ρ : Rho) (S : Sto) : trM ((mx, some i, fs) :: r) x ρ S = (match mx x.c with | none => none | some false => trM r x ρ S | some true => suA i (fs (ρ.set i (.ex x)) S)) := rfl
end DL

namespace K57
open PySem DL
def c_BLOCK : D := (D.int (32))
def c_BLOCKS_LEAST : D := (D.int (8))
def c_BLOCKS_MOST : D := (D.int (400))
def t_FarError : List (Str × Bool) := [("OutOfRange", true), ("PowerCut", true)]
def t_OutOfRange : List (Str × Bool) := [("OutOfRange", true), ("PowerCut", false)]
def x_name : List Str := ["OutOfRange"]
def a__blocks : List Str := ["Disk"]
def a__cuts : List Str := ["Disk"]
def a__left : List Str := ["Disk"]
def a__pending : List Str := ["Disk"]
def a__torn : List Str := ["Disk"]
/-! _wall(k); slots: k -/
def d__wall : List D := []
noncomputable def l0__wall : SS := bNil
noncomputable def b__wall : SS := (bWhile (sTru (cB true)) l0__wall)
noncomputable def f__wall : Sem1 := semB [false] 1 b__wall
/-! _is_block(block); slots: block, byte -/
def d__is_block : List D := []
noncomputable def l0__is_block : SS := (bIf (sNot (sBl (sChain oLe oLe (cI 0) (sVarB 1) (cI 255)))) (bRet (cB false)) bNil)
noncomputable def b__is_block : SS := (bSeq (bIf (sBl (sBin dNe (sCall oLen (sCons (sVarB 0) sNil)) (cG c_BLOCK))) (bRet (cB false)) bNil)
    (bSeq (bFor (sItems (sVarS 0)) (tgName 1) l0__is_block)
    (bRet (cB true))))
noncomputable def f__is_block : Sem1 := semB [false] 2 b__is_block
/-! _law_cell(_law_script, _law_k); slots: _law_script, _law_k -/
def d__law_cell : List D := []
noncomputable def b__law_cell : SS := (bSeq (bIf (sBl (sBin oLt (sVarB 1) (sCall oLen (sCons (sVarB 0) sNil)))) (bRet (sBin oIx (sVarB 0) (sVarB 1))) bNil)
    (bRet (cI 0)))
noncomputable def f__law_cell : Sem1 := semB [false, false] 2 b__law_cell
/-! _law_draw(_law_box, _law_many); slots: _law_box, _law_many, _law_at -/
def d__law_draw : List D := []
noncomputable def b__law_draw : SS := (bSeq (bSet 2 (sBin oIx (sVarB 0) (cI 1)))
    (bSeq (bSetIxO (sVar 0) (cI 1) (sBin oAdd (sVarB 2) (cI 1)))
    (bSeq (bIf (sBl (sBin oLt (sVarB 2) (sCall oLen (sCons (sBin oIx (sVarB 0) (cI 0)) sNil)))) (bRet (sBin oMod (sCall oInt (sCons (sBin oIx (sBin oIx (sVarB 0) (cI 0)) (sVarB 2)) sNil)) (sVarB 1))) bNil)
    (bRet (sBin oMod (sCall oInt (sCons (sBin oAdd (sBin oMul (sVarB 2) (cI 7)) (cI 3)) sNil)) (sVarB 1))))))
noncomputable def f__law_draw : Sem1 := semB [true, false] 3 b__law_draw
/-! _law_read(_law_blocks, _law_pending, _law_at); slots: _law_blocks, _law_pending, _law_at, _law_found, _law_entry -/
def d__law_read : List D := []
noncomputable def l0__law_read : SS := (bIf (sBl (sBin dEq (sBin oIx (sVarB 4) (cI 0)) (sVarB 2))) (bSet 3 (sBin oIx (sVarB 4) (cI 1))) bNil)
noncomputable def b__law_read : SS := (bSeq (bSet 3 (sBin oIx (sVarB 0) (sVarB 2)))
    (bSeq (bFor (sItems (sVarS 1)) (tgName 4) l0__law_read)
    (bRet (sVar 3))))
noncomputable def f__law_read : Sem1 := semB [false, false, false] 5 b__law_read
/-! Disk_size(self); slots: self -/
def d_Disk_size : List D := []
noncomputable def b_Disk_size : SS := (bRet (sCall oLen (sCons (eFld a__blocks "_blocks" (sVar 0)) sNil)))
noncomputable def f_Disk_size : Sem1 := semB [true] 1 b_Disk_size
/-! Disk__cut(self, torn); slots: self, torn, number, at, block, count -/
def d_Disk__cut : List D := []
noncomputable def e0_Disk__cut : SE := (sIf (sBl (sBin oLt (sVarB 2) (sCall oLen (sCons (sVarB 1) sNil)))) (sBin oIx (sVarB 1) (sVarB 2)) (cI 0))
noncomputable def l0_Disk__cut : SS := (bSeq (bSet 5 e0_Disk__cut)
    (bSetIxO (eFld a__blocks "_blocks" (sVar 0)) (sVar 3) (sBin oAdd (sSl (sVarB 4) sNo (sPart (sVar 5))) (sSl (sBin oIx (eFld a__blocks "_blocks" (sVar 0)) (sVarB 3)) (sPart (sVar 5)) sNo))))
noncomputable def b_Disk__cut : SS := (bSeq (bForO itEn (eFld a__pending "_pending" (sVar 0)) (tgTup 2 (tgCons (tgName 2) (tgCons (tgTup 2 (tgCons (tgName 3) (tgCons (tgName 4) tgNil))) tgNil))) l0_Disk__cut)
    (bSeq (bFld a__pending "_pending" (sVar 0) (sObj (sLst sNil)))
    (bSeq (bFld a__cuts "_cuts" (sVar 0) (sBin oAdd (eFld a__cuts "_cuts" (sVar 0)) (cI 1)))
    (bSeq (bFld a__left "_left" (sVar 0) cN)
    (bFld a__torn "_torn" (sVar 0) (sLst sNil))))))
noncomputable def f_Disk__cut : Sem1 := semB [true, false] 6 b_Disk__cut
/-! Disk_pending_count(self); slots: self -/
def d_Disk_pending_count : List D := []
noncomputable def b_Disk_pending_count : SS := (bRet (sCall oLen (sCons (eFld a__pending "_pending" (sVar 0)) sNil)))
noncomputable def f_Disk_pending_count : Sem1 := semB [true] 1 b_Disk_pending_count
/-! Disk_cut_count(self); slots: self -/
def d_Disk_cut_count : List D := []
noncomputable def b_Disk_cut_count : SS := (bRet (eFld a__cuts "_cuts" (sVar 0)))
noncomputable def f_Disk_cut_count : Sem1 := semB [true] 1 b_Disk_cut_count
/-! _law_digits(_law_script, _law_first, _law_last); slots: _law_script, _law_first, _law_last, _law_digits_here, _law_k, _law_cell_here, _law_turn, _law_seed -/
def d__law_digits : List D := []
noncomputable def l0__law_digits : SS := (bIf (sBl (sBin oGt (sVarB 5) (cI 0))) (bSeq (bMut 3 uAppend (sCons (sBin oMod (sCall oInt (sCons (sVarB 5) sNil)) (cI 1000)) sNil))
    (bSet 5 (sBin oDiv (sVarB 5) (cI 1000)))) bNil)
noncomputable def l1__law_digits : SS := (bSeq (bSet 7 (sBin oMod (sCall oInt (sCons (sBin oAdd (sBin oAdd (sBin oMul (sVarB 7) (cI 40014)) (sBin oMul (cI 5) (sVarB 6))) (cI 3)) sNil)) (cI 2147483563)))
    (bMut 3 uAppend (sCons (sBin oMod (sCall oInt (sCons (sBin oDiv (sVarB 7) (cI 1009)) sNil)) (cI 1000)) sNil)))
noncomputable def l2__law_digits : SS := (bSeq (bSet 5 (sCallU f__law_cell (d__law_cell.drop 0) (sCons (sVarB 0) (sCons (sVarB 4) sNil))))
    (bSeq (bIf (sBl (sBin oLt (sVarB 5) (cI 0))) (bSet 5 (sBin oSub (cI 1) (sBin oMul (cI 2) (sVarB 5)))) bNil)
    (bIf (sBl (sBin oGe (sVarB 5) (cI 1000000000000000000))) (bFor (sRng (sCons (cI 60) sNil)) (tgName 6) l0__law_digits) (bSeq (bSet 7 (sBin oMod (sCall oInt (sCons (sBin oAdd (sBin oAdd (sBin oMul (sVarB 5) (cI 40692)) (sBin oMul (sVarB 4) (cI 52774))) (cI 17)) sNil)) (cI 2147483399)))
    (bFor (sRng (sCons (cI 12) sNil)) (tgName 6) l1__law_digits)))))
noncomputable def b__law_digits : SS := (bSeq (bSetOwn 3 (sLst sNil))
    (bSeq (bFor (sRng (sCons (sVar 1) (sCons (sVar 2) sNil))) (tgName 4) l2__law_digits)
    (bFz 3 (bRet (sVar 3)))))
noncomputable def f__law_digits : Sem1 := semB [false, false, false] 8 b__law_digits
/-! _law_torn(_law_box, _law_many); slots: _law_box, _law_many, _law_kind, _law_k -/
def d__law_torn : List D := []
noncomputable def e0__law_torn : SE := (sLc [3] (sRng (sCons (sVar 1) sNil)) (tgName 3) sYes (sBin oMul (cI 32) (sCallU f__law_draw (d__law_draw.drop 0) (sCons (sVar 0) (sCons (cI 2) sNil)))))
noncomputable def e1__law_torn : SE := (sLc [3] (sRng (sCons (sVar 1) sNil)) (tgName 3) sYes (sCallU f__law_draw (d__law_draw.drop 0) (sCons (sVar 0) (sCons (cI 33) sNil))))
noncomputable def b__law_torn : SS := (bSeq (bSet 2 (sCallU f__law_draw (d__law_draw.drop 0) (sCons (sVar 0) (sCons (cI 4) sNil))))
    (bSeq (bIf (sBl (sBin dEq (sVarB 2) (cI 0))) (bRet (sLst sNil)) bNil)
    (bSeq (bIf (sBl (sBin dEq (sVarB 2) (cI 1))) (bRet (sBin oMul (sLst (sCons (cI 32) sNil)) (sVarB 1))) bNil)
    (bSeq (bIf (sBl (sBin dEq (sVarB 2) (cI 2))) (bRet e0__law_torn) bNil)
    (bRet e1__law_torn)))))
noncomputable def f__law_torn : Sem1 := semB [true, false] 4 b__law_torn
/-! _law_block(_law_box); slots: _law_box, _law_kind, _law_k -/
def d__law_block : List D := []
noncomputable def e0__law_block : SE := (sLc [2] (sRng (sCons (cI 32) sNil)) (tgName 2) sYes (sBin oSub (cI 255) (sVarB 2)))
noncomputable def e1__law_block : SE := (sLc [2] (sRng (sCons (cI 32) sNil)) (tgName 2) sYes (sCallU f__law_draw (d__law_draw.drop 0) (sCons (sVar 0) (sCons (cI 256) sNil))))
noncomputable def b__law_block : SS := (bSeq (bSet 1 (sCallU f__law_draw (d__law_draw.drop 0) (sCons (sVar 0) (sCons (cI 4) sNil))))
    (bSeq (bIf (sBl (sBin dEq (sVarB 1) (cI 0))) (bRet (sBin oMul (sLst (sCons (cI 0) sNil)) (cI 32))) bNil)
    (bSeq (bIf (sBl (sBin dEq (sVarB 1) (cI 1))) (bRet e0__law_block) bNil)
    (bRet e1__law_block))))
noncomputable def f__law_block : Sem1 := semB [true] 3 b__law_block
/-! Disk_schedule_cut(self, many, torn); slots: self, many, torn -/
def d_Disk_schedule_cut : List D := []
noncomputable def b_Disk_schedule_cut : SS := (bExpr (sCallU f__wall (d__wall.drop 0) (sCons (cI 0) sNil)))
noncomputable def f_Disk_schedule_cut : Sem1 := semB [true, false, false] 3 b_Disk_schedule_cut
/-! _check_torn(torn); slots: torn, count -/
def d__check_torn : List D := []
noncomputable def l0__check_torn : SS := (bIf (sNot (sBl (sChain oLe oLe (cI 0) (sVarB 1) (cG c_BLOCK)))) (bRaise "OutOfRange" ["name"] (sCons (cS "torn") sNil)) bNil)
noncomputable def b__check_torn : SS := (bFor (sItems (sVarS 0)) (tgName 1) l0__check_torn)
noncomputable def f__check_torn : Sem1 := semB [false] 2 b__check_torn
/-! Disk___init__(self, blocks); slots: self, blocks, _ -/
def d_Disk___init__ : List D := []
noncomputable def e0_Disk___init__ : SE := (sLc [2] (sRng (sCons (sVar 1) sNil)) (tgName 2) sYes (sBin oMul (sLst (sCons (cI 0) sNil)) (cG c_BLOCK)))
noncomputable def b_Disk___init__ : SS := (bSeq (bIf (sNot (sBl (sChain oLe oLe (cG c_BLOCKS_LEAST) (sVarB 1) (cG c_BLOCKS_MOST)))) (bRaise "OutOfRange" ["name"] (sCons (cS "blocks") sNil)) bNil)
    (bSeq (bFld a__blocks "_blocks" (sVar 0) (sObj e0_Disk___init__))
    (bSeq (bFld a__pending "_pending" (sVar 0) (sObj (sLst sNil)))
    (bSeq (bFld a__cuts "_cuts" (sVar 0) (cI 0))
    (bSeq (bFld a__left "_left" (sVar 0) cN)
    (bFld a__torn "_torn" (sVar 0) (sLst sNil)))))))
noncomputable def f_Disk___init__ : Sem1 := semB [true, false] 3 b_Disk___init__
/-! Disk__check_at(self, at); slots: self, at -/
def d_Disk__check_at : List D := []
noncomputable def b_Disk__check_at : SS := (bIf (sNot (sBl (sChain oLe oLt (cI 0) (sVarB 1) (sCall oLen (sCons (eFld a__blocks "_blocks" (sVar 0)) sNil))))) (bRaise "OutOfRange" ["name"] (sCons (cS "at") sNil)) bNil)
noncomputable def f_Disk__check_at : Sem1 := semB [true, false] 2 b_Disk__check_at
/-! Disk__spend(self); slots: self -/
def d_Disk__spend : List D := []
noncomputable def b_Disk__spend : SS := (bSeq (bIf (sBl (sIsN false (eFld a__left "_left" (sVar 0)))) bRetN bNil)
    (bSeq (bIf (sBl (sBin dEq (eFld a__left "_left" (sVar 0)) (cI 0))) (bSeq (bExpr (eMeth "Disk" "_cut" f_Disk__cut (d_Disk__cut.drop 0) (sVar 0) (sCons (eFld a__torn "_torn" (sVar 0)) sNil)))
    (bRaiseT "PowerCut" (cS "the power is cut"))) bNil)
    (bFld a__left "_left" (sVar 0) (sBin oSub (eFld a__left "_left" (sVar 0)) (cI 1)))))
noncomputable def f_Disk__spend : Sem1 := semB [true] 1 b_Disk__spend
/-! Disk_read(self, at); slots: self, at, found, place, block -/
def d_Disk_read : List D := []
noncomputable def l0_Disk_read : SS := (bIf (sBl (sBin dEq (sVarB 3) (sVarB 1))) (bSet 2 (sVar 4)) bNil)
noncomputable def b_Disk_read : SS := (bSeq (bExpr (eMeth "Disk" "_check_at" f_Disk__check_at (d_Disk__check_at.drop 0) (sVar 0) (sCons (sVarB 1) sNil)))
    (bSeq (bSet 2 (sBin oIx (eFld a__blocks "_blocks" (sVar 0)) (sVarB 1)))
    (bSeq (bForO itId (eFld a__pending "_pending" (sVar 0)) (tgTup 2 (tgCons (tgName 3) (tgCons (tgName 4) tgNil))) l0_Disk_read)
    (bRet (sCall oList (sCons (sVarB 2) sNil))))))
noncomputable def f_Disk_read : Sem1 := semB [true, false] 5 b_Disk_read
/-! Disk_write(self, at, block); slots: self, at, block -/
def d_Disk_write : List D := []
noncomputable def b_Disk_write : SS := (bSeq (bExpr (eMeth "Disk" "_check_at" f_Disk__check_at (d_Disk__check_at.drop 0) (sVar 0) (sCons (sVarB 1) sNil)))
    (bSeq (bIf (sNot (sTru (sCallU f__is_block (d__is_block.drop 0) (sCons (sVarB 2) sNil)))) (bRaise "OutOfRange" ["name"] (sCons (cS "block") sNil)) bNil)
    (bSeq (bExpr (eMeth "Disk" "_spend" f_Disk__spend d_Disk__spend (sVar 0) sNil))
    (bExpr (sMut (eFld a__pending "_pending" (sVar 0)) uAppend (sCons (sTup (sCons (sVar 1) (sCons (sCall oList (sCons (sVarB 2) sNil)) sNil))) sNil))))))
noncomputable def f_Disk_write : Sem1 := semB [true, true, false] 3 b_Disk_write
/-! Disk_flush(self); slots: self, at, block -/
def d_Disk_flush : List D := []
noncomputable def l0_Disk_flush : SS := (bSetIxO (eFld a__blocks "_blocks" (sVar 0)) (sVar 1) (sVar 2))
noncomputable def b_Disk_flush : SS := (bSeq (bExpr (eMeth "Disk" "_spend" f_Disk__spend d_Disk__spend (sVar 0) sNil))
    (bSeq (bForO itId (eFld a__pending "_pending" (sVar 0)) (tgTup 2 (tgCons (tgName 1) (tgCons (tgName 2) tgNil))) l0_Disk_flush)
    (bFld a__pending "_pending" (sVar 0) (sObj (sLst sNil)))))
noncomputable def f_Disk_flush : Sem1 := semB [true] 3 b_Disk_flush
/-! Disk_cut_power(self, torn); slots: self, torn -/
def d_Disk_cut_power : List D := []
noncomputable def b_Disk_cut_power : SS := (bSeq (bExpr (sCallU f__check_torn (d__check_torn.drop 0) (sCons (sVarB 1) sNil)))
    (bExpr (eMeth "Disk" "_cut" f_Disk__cut (d_Disk__cut.drop 0) (sVar 0) (sCons (sCall oList (sCons (sVarB 1) sNil)) sNil))))
noncomputable def f_Disk_cut_power : Sem1 := semB [true, false] 2 b_Disk_cut_power
/-! _law_call_raw(_law_disk, _law_which, _law_one, _law_two); slots: _law_disk, _law_which, _law_one, _law_two -/
def d__law_call_raw : List D := []
noncomputable def b__law_call_raw : SS := (bSeq (bIf (sBl (sBin dEq (sVarB 1) (cI 0))) (bRet (eMeth "Disk" "write" f_Disk_write (d_Disk_write.drop 0) (sVar 0) (sCons (sVar 2) (sCons (sVarB 3) sNil)))) bNil)
    (bSeq (bIf (sBl (sBin dEq (sVarB 1) (cI 1))) (bRet (eMeth "Disk" "cut_power" f_Disk_cut_power (d_Disk_cut_power.drop 0) (sVar 0) (sCons (sVarB 2) sNil))) bNil)
    (bRet (eMeth "Disk" "read" f_Disk_read (d_Disk_read.drop 0) (sVar 0) (sCons (sVarB 2) sNil)))))
noncomputable def f__law_call_raw : Sem1 := semB [true, false, true, false] 4 b__law_call_raw
/-! _law_refusal(_law_blocks); slots: _law_blocks, e -/
def d__law_refusal : List D := []
noncomputable def b__law_refusal : SS := (bSeq (bTryAs 1 (fun c => t_OutOfRange.lookup c) (bExpr (eMake "Disk" f_Disk___init__ (d_Disk___init__.drop 0) (sCons (sVarB 0) sNil))) (bRet (sXf 1 x_name "name")))
    (bRet (cS "")))
noncomputable def f__law_refusal : Sem1 := semB [false] 2 b__law_refusal
/-! _law_call(_law_disk, _law_which, _law_one, _law_two); slots: _law_disk, _law_which, _law_one, _law_two, _law_told, e -/
def d__law_call : List D := []
noncomputable def b__law_call : SS := (bSeq (bTryM [(fun c => t_OutOfRange.lookup c, some 5, (bRet (sTup (sCons (cS "refused") (sCons (sXf 5 x_name "name") sNil))))), (fun c => t_FarError.lookup c, none, (bRet (sTup (sCons (cS "refused") (sCons (cS "other") sNil)))))] (bSet 4 (sCallU f__law_call_raw (d__law_call_raw.drop 0) (sCons (sVar 0) (sCons (sVarB 1) (sCons (sVar 2) (sCons (sVarB 3) sNil)))))))
    (bRet (sVar 4)))
noncomputable def f__law_call : Sem1 := semB [true, false, true, false] 6 b__law_call
/-! _law_wrong(_law_box, _law_disk, _law_size); slots: _law_box, _law_disk, _law_size, _law_bad -/
def d__law_wrong : List D := []
noncomputable def b__law_wrong : SS := (bSeq (bSet 3 (sBin oIx (sLst (sCons (sBin oMul (sLst (sCons (cI 0) sNil)) (cI 31)) (sCons (sBin oMul (sLst (sCons (cI 0) sNil)) (cI 33)) (sCons (sBin oAdd (sBin oMul (sLst (sCons (cI 0) sNil)) (cI 31)) (sLst (sCons (cI 256) sNil))) (sCons (sBin oAdd (sLst (sCons (sBin oSub (cI 0) (cI 1)) sNil)) (sBin oMul (sLst (sCons (cI 0) sNil)) (cI 31))) sNil))))) (sCallU f__law_draw (d__law_draw.drop 0) (sCons (sVar 0) (sCons (cI 4) sNil)))))
    (bSeq (bIf (sOr (sBl (sBin dNe (sCallU f__law_call (d__law_call.drop 0) (sCons (sVar 1) (sCons (cI 0) (sCons (sBin oIx (sLst (sCons (sBin oSub (cI 0) (cI 1)) (sCons (sVar 2) sNil))) (sCallU f__law_draw (d__law_draw.drop 0) (sCons (sVar 0) (sCons (cI 2) sNil)))) (sCons (sVarB 3) sNil))))) (sTup (sCons (cS "refused") (sCons (cS "at") sNil))))) (sBl (sBin dNe (sCallU f__law_call (d__law_call.drop 0) (sCons (sVar 1) (sCons (cI 0) (sCons (sBin oSub (sVarB 2) (cI 1)) (sCons (sVarB 3) sNil))))) (sTup (sCons (cS "refused") (sCons (cS "block") sNil)))))) (bRet (cB false)) bNil)
    (bSeq (bIf (sOr (sBl (sBin dNe (sCallU f__law_call (d__law_call.drop 0) (sCons (sVar 1) (sCons (cI 1) (sCons (sLst (sCons (cI 32) (sCons (cI 33) sNil))) (sCons (cI 0) sNil))))) (sTup (sCons (cS "refused") (sCons (cS "torn") sNil))))) (sBl (sBin dNe (sCallU f__law_call (d__law_call.drop 0) (sCons (sVar 1) (sCons (cI 1) (sCons (sLst (sCons (sBin oSub (cI 0) (cI 1)) sNil)) (sCons (cI 0) sNil))))) (sTup (sCons (cS "refused") (sCons (cS "torn") sNil)))))) (bRet (cB false)) bNil)
    (bRet (sBin dEq (sCallU f__law_call (d__law_call.drop 0) (sCons (sVar 1) (sCons (cI 2) (sCons (sBin oIx (sLst (sCons (sBin oSub (cI 0) (cI 1)) (sCons (sVar 2) sNil))) (sCallU f__law_draw (d__law_draw.drop 0) (sCons (sVar 0) (sCons (cI 2) sNil)))) (sCons (cI 0) sNil))))) (sTup (sCons (cS "refused") (sCons (cS "at") sNil))))))))
noncomputable def f__law_wrong : Sem1 := semB [true, true, true] 4 b__law_wrong
/-! law(_law_script); slots: _law_script, _law_box, _law_size, _law_disk, _law_blocks, _law_pending, _law_cuts, _law_turn, _law_kind, _law_entry, _law_torn_here, _law_k, _law_at, _law_block_here, _law_handed, _law_place, _law_told, _law_far -/
def d_law : List D := []
noncomputable def e0_law : SE := (sLc [11] (sRng (sCons (sVar 2) sNil)) (tgName 11) sYes (sBin oMul (sLst (sCons (cI 0) sNil)) (cI 32)))
noncomputable def l0_law : SS := (bSetIx 4 (sBin oIx (sVarB 9) (cI 0)) (sBin oIx (sVarB 9) (cI 1)))
noncomputable def l1_law : SS := (bSeq (bSet 12 (sBin oIx (sBin oIx (sVarB 5) (sVarB 11)) (cI 0)))
    (bSetIx 4 (sVar 12) (sBin oAdd (sSl (sBin oIx (sBin oIx (sVarB 5) (sVarB 11)) (cI 1)) sNo (sPart (sBin oIx (sVarB 10) (sVarB 11)))) (sSl (sBin oIx (sVarB 4) (sVarB 12)) (sPart (sBin oIx (sVarB 10) (sVarB 11))) sNo))))
noncomputable def l2_law : SS := (bSeq (bSetOwn 16 (eMeth "Disk" "read" f_Disk_read (d_Disk_read.drop 0) (sVar 3) (sCons (sVarB 15) sNil)))
    (bSeq (bIf (sOr (sNot (sTru (sIsB "list" (sVarB 16)))) (sBl (sBin dNe (sVarB 16) (sCallU f__law_read (d__law_read.drop 0) (sCons (sVarB 4) (sCons (sVarB 5) (sCons (sVarB 15) sNil))))))) (bRet (cB false)) bNil)
    (bSetIx 16 (cI 0) (cI 1))))
noncomputable def l3_law : SS := (bSeq (bSet 8 (sCallU f__law_draw (d__law_draw.drop 0) (sCons (sVar 1) (sCons (cI 8) sNil))))
    (bSeq (bIf (sBl (sBin dEq (sVarB 8) (cI 0))) (bSeq (bIf (sBl (sIsN true (eMeth "Disk" "flush" f_Disk_flush d_Disk_flush (sVar 3) sNil))) (bRet (cB false)) bNil)
    (bSeq (bFz 5 (bFor (sItems (sVarS 5)) (tgName 9) l0_law))
    (bSetOwn 5 (sLst sNil)))) (bIf (sBl (sBin dEq (sVarB 8) (cI 1))) (bSeq (bSet 10 (sCallU f__law_torn (d__law_torn.drop 0) (sCons (sVar 1) (sCons (sCallU f__law_draw (d__law_draw.drop 0) (sCons (sVar 1) (sCons (sBin oAdd (sCall oLen (sCons (sVarB 5) sNil)) (cI 2)) sNil))) sNil))))
    (bSeq (bIf (sBl (sIsN true (sCallU f__law_call (d__law_call.drop 0) (sCons (sVar 3) (sCons (cI 1) (sCons (sCall oList (sCons (sVarB 10) sNil)) (sCons (cI 0) sNil))))))) (bRet (cB false)) bNil)
    (bSeq (bFor (sRng (sCons (sCall oMin (sCons (sCall oLen (sCons (sVarB 10) sNil)) (sCons (sCall oLen (sCons (sVarB 5) sNil)) sNil))) sNil)) (tgName 11) l1_law)
    (bSeq (bSetOwn 5 (sLst sNil))
    (bSet 6 (sBin oAdd (sVarB 6) (cI 1))))))) (bIf (sBl (sBin dEq (sVarB 8) (cI 2))) (bIf (sNot (sTru (sCallU f__law_wrong (d__law_wrong.drop 0) (sCons (sVar 1) (sCons (sVar 3) (sCons (sVar 2) sNil)))))) (bRet (cB false)) bNil) (bSeq (bSet 12 (sCallU f__law_draw (d__law_draw.drop 0) (sCons (sVar 1) (sCons (sVarB 2) sNil))))
    (bSeq (bSet 13 (sCallU f__law_block (d__law_block.drop 0) (sCons (sVar 1) sNil)))
    (bSeq (bSetOwn 14 (sCall oList (sCons (sVarB 13) sNil)))
    (bSeq (bIf (sOr (sBl (sIsN true (sCallU f__law_call (d__law_call.drop 0) (sCons (sVar 3) (sCons (cI 0) (sCons (sVar 12) (sCons (sVarB 14) sNil))))))) (sBl (sBin dNe (sVarB 14) (sVarB 13)))) (bRet (cB false)) bNil)
    (bSeq (bSetIx 14 (cI 0) (sBin oSub (cI 77) (sBin oIx (sVarB 14) (cI 1))))
    (bMut 5 uAppend (sCons (sLst (sCons (sVar 12) (sCons (sVar 13) sNil))) sNil))))))))))
    (bSeq (bSet 12 (sCallU f__law_draw (d__law_draw.drop 0) (sCons (sVar 1) (sCons (sVarB 2) sNil))))
    (bSeq (bFor (sItems (sLst (sCons (cI 0) (sCons (sVar 12) (sCons (sBin oSub (sVarB 2) (cI 1)) sNil))))) (tgName 15) l2_law)
    (bIf (sOr (sBl (sBin dNe (eMeth "Disk" "pending_count" f_Disk_pending_count d_Disk_pending_count (sVar 3) sNil) (sCall oLen (sCons (sVarB 5) sNil)))) (sOr (sBl (sBin dNe (eMeth "Disk" "cut_count" f_Disk_cut_count d_Disk_cut_count (sVar 3) sNil) (sVarB 6))) (sBl (sBin dNe (eMeth "Disk" "size" f_Disk_size d_Disk_size (sVar 3) sNil) (sVarB 2))))) (bRet (cB false)) bNil)))))
noncomputable def b_law : SS := (bSeq (bSet 1 (sObj (sLst (sCons (sCallU f__law_digits (d__law_digits.drop 0) (sCons (sVarB 0) (sCons (cI 0) (sCons (cI 63) sNil)))) (sCons (cI 0) sNil)))))
    (bSeq (bSet 2 (sBin oAdd (cI 8) (sCallU f__law_draw (d__law_draw.drop 0) (sCons (sVar 1) (sCons (cI 6) sNil)))))
    (bSeq (bIf (sBl (sBin dEq (sCallU f__law_draw (d__law_draw.drop 0) (sCons (sVar 1) (sCons (cI 10) sNil))) (cI 0))) (bSet 2 (cI 400)) bNil)
    (bSeq (bSet 3 (eMake "Disk" f_Disk___init__ (d_Disk___init__.drop 0) (sCons (sVarB 2) sNil)))
    (bSeq (bSetOwn 4 e0_law)
    (bSeq (bSetOwn 5 (sLst sNil))
    (bSeq (bSet 6 (cI 0))
    (bSeq (bFor (sRng (sCons (sCall oMin (sCons (sCall oMax (sCons (cI 0) (sCons (sBin oSub (sCall oLen (sCons (sVarB 0) sNil)) (cI 4)) sNil))) (sCons (cI 40) sNil))) sNil)) (tgName 7) l3_law)
    (bSeq (bSet 17 (sCallU f__law_draw (d__law_draw.drop 0) (sCons (sVar 1) (sCons (cI 90) sNil))))
    (bSeq (bIf (sBl (sBin dNe (sTup (sCons (cG c_BLOCK) (sCons (cG c_BLOCKS_MOST) sNil))) (sTup (sCons (cI 32) (sCons (cI 400) sNil))))) (bRet (cB false)) bNil)
    (bRet (sAndV (sBin dEq (sCallU f__law_refusal (d__law_refusal.drop 0) (sCons (sBin oSub (cI 7) (sVarB 17)) sNil)) (cS "blocks")) (sAndV (sBin dEq (sCallU f__law_refusal (d__law_refusal.drop 0) (sCons (sBin oAdd (cI 401) (sVarB 17)) sNil)) (cS "blocks")) (sBin dEq (sCallU f__law_refusal (d__law_refusal.drop 0) (sCons (cI 8) sNil)) (cS "")))))))))))))))
noncomputable def f_law : Sem1 := semB [true] 18 b_law
end K57

namespace K57
open PySem PySem.Spec PyProof.Rows L2 DL
abbrev top (i : Nat) : Stmt := PySem.Challenge.pw_farfacts_k57_disk_reads_and_flushes.main.body.getD i (.Pass ⟨0, 0, 0, 0⟩)
structure Fs (K : PySem.W.Frag) (mg : Str → Option Value) (ca : Ca) : Prop where
  n_enumerate : mg "enumerate" = none
  n_int : mg "int" = none
  n_isinstance : mg "isinstance" = none
  n_len : mg "len" = none
  n_list : mg "list" = none
  n_max : mg "max" = none
  n_min : mg "min" = none
  n_range : mg "range" = none
  g_BLOCK : GlC K mg ca "BLOCK" c_BLOCK
  g_BLOCKS_LEAST : GlC K mg ca "BLOCKS_LEAST" c_BLOCKS_LEAST
  g_BLOCKS_MOST : GlC K mg ca "BLOCKS_MOST" c_BLOCKS_MOST
  t_FarError : TrF K mg ca "FarError" t_FarError
  t_OutOfRange : TrF K mg ca "OutOfRange" t_OutOfRange
  x_name : XfF K ca x_name "name"
  at__blocks : AttF K ca a__blocks "_blocks"
  at__cuts : AttF K ca a__cuts "_cuts"
  at__left : AttF K ca a__left "_left"
  at__pending : AttF K ca a__pending "_pending"
  at__torn : AttF K ca a__torn "_torn"
section
variable {P : Program} {w : World} {K : PySem.W.Frag} {mg : Str → Option Value} {base : Heap} {ca : Ca}
theorem sc__wall : FnScope ["k"] ["k"] (defScope (top 0)) := ⟨rfl, rfl, rfl, by decide +kernel, rfl, by decide +kernel, by decide +kernel⟩
theorem ok__wall {f : Addr} {fd : FuncData} (F : FunD K "_wall" "_wall" (defArgs (top 0)) (defBody (top 0)) (defScope (top 0)) [] [] f fd) (T : Fs K mg ca) :
    FnG P w K mg base 1 f fd ["k"] (spD K ca [false] .frz f__wall) := by
  have sc := sc__wall
  refine (show FnG P w K mg base 1 f fd ["k"] (spD K ca [false] .frz (semB [false] (["k"] : List Str).length b__wall)) from okD (ca := ca) (mr := .frz) (fb := b__wall) [false] F sc rfl (fun cdv A outer s H E hG hr => ?_) (.inl rfl))
  have tk : Takes (cxOf (CXP P w) P w K mg base ["k"] "_wall" (defScope (top 0)) f cdv A outer s H E) (fun cls d _ H => E cls d H) := takes_of rfl rfl rfl rfl
  have hp : PassesOwn (model P w) (A.deeper (envOfC "_wall" (defScope (top 0)) s.heap.objs.size f cdv)) (envOfC "_wall" (defScope (top 0)) s.heap.objs.size f cdv) (cxOf (CXP P w) P w K mg base ["k"] "_wall" (defScope (top 0)) f cdv A outer s H E).xe := passes_of (X := cxOf (CXP P w) P w K mg base ["k"] "_wall" (defScope (top 0)) f cdv A outer s H E) rfl
  exact (dss_one (ds_while hp (dt_val de_bl) (dss_one ds_pass)))
theorem sc__is_block : FnScope ["block", "byte"] ["block"] (defScope (top 9)) := ⟨rfl, rfl, rfl, by decide +kernel, rfl, by decide +kernel, by decide +kernel⟩
theorem ok__is_block {f : Addr} {fd : FuncData} (F : FunD K "_is_block" "_is_block" (defArgs (top 9)) (defBody (top 9)) (defScope (top 9)) [] [] f fd) (T : Fs K mg ca) :
    FnG P w K mg base 1 f fd ["block"] (spD K ca [false] .frz f__is_block) := by
  have sc := sc__is_block
  refine (show FnG P w K mg base 1 f fd ["block"] (spD K ca [false] .frz (semB [false] (["block", "byte"] : List Str).length b__is_block)) from okD (ca := ca) (mr := .frz) (fb := b__is_block) [false] F sc rfl (fun cdv A outer s H E hG hr => ?_) (.inl rfl))
  have tk : Takes (cxOf (CXP P w) P w K mg base ["block", "byte"] "_is_block" (defScope (top 9)) f cdv A outer s H E) (fun cls d _ H => E cls d H) := takes_of rfl rfl rfl rfl
  have hp : PassesOwn (model P w) (A.deeper (envOfC "_is_block" (defScope (top 9)) s.heap.objs.size f cdv)) (envOfC "_is_block" (defScope (top 9)) s.heap.objs.size f cdv) (cxOf (CXP P w) P w K mg base ["block", "byte"] "_is_block" (defScope (top 9)) f cdv A outer s H E).xe := passes_of (X := cxOf (CXP P w) P w K mg base ["block", "byte"] "_is_block" (defScope (top 9)) f cdv A outer s H E) rfl
  exact (dss_cons (ds_if (dt_cmp (od_ne (Room.units hr)) (de_callB cd_len rfl T.n_len rfl (da_cons (by decide) (de_varB (pv 0)) da_nil)) (de_gl T.g_BLOCK) rfl) (dss_one (ds_ret de_bl)) dss_nil)
    (dss_cons (ds_for hp rfl (di_seq (de_varS (pv 0))) (dg_name (i := 1) sc.nd rfl (.inl rfl)) (dss_one (ds_if (dt_not (dt_chain od_le od_le de_int (de_varB (pv 1)) de_int)) (dss_one (ds_ret de_bl)) dss_nil)))
    (dss_one (ds_ret de_bl))))
theorem sc__law_cell : FnScope ["_law_script", "_law_k"] ["_law_script", "_law_k"] (defScope (top 13)) := ⟨rfl, rfl, rfl, by decide +kernel, rfl, by decide +kernel, by decide +kernel⟩
theorem ok__law_cell {f : Addr} {fd : FuncData} (F : FunD K "_law_cell" "_law_cell" (defArgs (top 13)) (defBody (top 13)) (defScope (top 13)) [] [] f fd) (T : Fs K mg ca) :
    FnG P w K mg base 1 f fd ["_law_script", "_law_k"] (spD K ca [false, false] .frz f__law_cell) := by
  have sc := sc__law_cell
  refine (show FnG P w K mg base 1 f fd ["_law_script", "_law_k"] (spD K ca [false, false] .frz (semB [false, false] (["_law_script", "_law_k"] : List Str).length b__law_cell)) from okD (ca := ca) (mr := .frz) (fb := b__law_cell) [false, false] F sc rfl (fun cdv A outer s H E hG hr => ?_) (.inl rfl))
  have tk : Takes (cxOf (CXP P w) P w K mg base ["_law_script", "_law_k"] "_law_cell" (defScope (top 13)) f cdv A outer s H E) (fun cls d _ H => E cls d H) := takes_of rfl rfl rfl rfl
  have hp : PassesOwn (model P w) (A.deeper (envOfC "_law_cell" (defScope (top 13)) s.heap.objs.size f cdv)) (envOfC "_law_cell" (defScope (top 13)) s.heap.objs.size f cdv) (cxOf (CXP P w) P w K mg base ["_law_script", "_law_k"] "_law_cell" (defScope (top 13)) f cdv A outer s H E).xe := passes_of (X := cxOf (CXP P w) P w K mg base ["_law_script", "_law_k"] "_law_cell" (defScope (top 13)) f cdv A outer s H E) rfl
  exact (dss_cons (ds_if (dt_cmp od_lt (de_varB (pv 1)) (de_callB cd_len rfl T.n_len rfl (da_cons (by decide) (de_varB (pv 0)) da_nil)) rfl) (dss_one (ds_ret (de_ix (by decide) (de_varB (pv 0)) (de_varB (pv 1))))) dss_nil)
    (dss_one (ds_ret de_int)))
theorem sc__law_draw : FnScope ["_law_box", "_law_many", "_law_at"] ["_law_box", "_law_many"] (defScope (top 15)) := ⟨rfl, rfl, rfl, by decide +kernel, rfl, by decide +kernel, by decide +kernel⟩
theorem ok__law_draw {f : Addr} {fd : FuncData} (F : FunD K "_law_draw" "_law_draw" (defArgs (top 15)) (defBody (top 15)) (defScope (top 15)) [] [] f fd) (T : Fs K mg ca) :
    FnG P w K mg base 1 f fd ["_law_box", "_law_many"] (spD K ca [true, false] .frz f__law_draw) := by
  have sc := sc__law_draw
  refine (show FnG P w K mg base 1 f fd ["_law_box", "_law_many"] (spD K ca [true, false] .frz (semB [true, false] (["_law_box", "_law_many", "_law_at"] : List Str).length b__law_draw)) from okD (ca := ca) (mr := .frz) (fb := b__law_draw) [true, false] F sc rfl (fun cdv A outer s H E hG hr => ?_) (.inl rfl))
  have tk : Takes (cxOf (CXP P w) P w K mg base ["_law_box", "_law_many", "_law_at"] "_law_draw" (defScope (top 15)) f cdv A outer s H E) (fun cls d _ H => E cls d H) := takes_of rfl rfl rfl rfl
  have hp : PassesOwn (model P w) (A.deeper (envOfC "_law_draw" (defScope (top 15)) s.heap.objs.size f cdv)) (envOfC "_law_draw" (defScope (top 15)) s.heap.objs.size f cdv) (cxOf (CXP P w) P w K mg base ["_law_box", "_law_many", "_law_at"] "_law_draw" (defScope (top 15)) f cdv A outer s H E).xe := passes_of (X := cxOf (CXP P w) P w K mg base ["_law_box", "_law_many", "_law_at"] "_law_draw" (defScope (top 15)) f cdv A outer s H E) rfl
  exact (dss_cons (ds_set (i := 2) sc.nd rfl (.inl rfl) (de_ix (by decide) (de_varB (pv 0)) de_int))
    (dss_cons (ds_setIxO (de_var (pv 0)) de_int (de_bin od_add (de_varB (pv 2)) de_int))
    (dss_cons (ds_if (dt_cmp od_lt (de_varB (pv 2)) (de_callB cd_len rfl T.n_len rfl (da_cons (by decide) (de_ix (by decide) (de_varB (pv 0)) de_int) da_nil)) rfl) (dss_one (ds_ret (de_bin od_mod (de_callTy cd_int rfl T.n_int rfl (da_cons (by decide) (de_ix (by decide) (de_ix (by decide) (de_varB (pv 0)) de_int) (de_varB (pv 2))) da_nil)) (de_varB (pv 1))))) dss_nil)
    (dss_one (ds_ret (de_bin od_mod (de_callTy cd_int rfl T.n_int rfl (da_cons (by decide) (de_bin od_add (de_bin od_mul (de_varB (pv 2)) de_int) de_int) da_nil)) (de_varB (pv 1))))))))
theorem sc__law_read : FnScope ["_law_blocks", "_law_pending", "_law_at", "_law_found", "_law_entry"] ["_law_blocks", "_law_pending", "_law_at"] (defScope (top 21)) := ⟨rfl, rfl, rfl, by decide +kernel, rfl, by decide +kernel, by decide +kernel⟩
theorem ok__law_read {f : Addr} {fd : FuncData} (F : FunD K "_law_read" "_law_read" (defArgs (top 21)) (defBody (top 21)) (defScope (top 21)) [] [] f fd) (T : Fs K mg ca) :
    FnG P w K mg base 1 f fd ["_law_blocks", "_law_pending", "_law_at"] (spD K ca [false, false, false] .frz f__law_read) := by
  have sc := sc__law_read
  refine (show FnG P w K mg base 1 f fd ["_law_blocks", "_law_pending", "_law_at"] (spD K ca [false, false, false] .frz (semB [false, false, false] (["_law_blocks", "_law_pending", "_law_at", "_law_found", "_law_entry"] : List Str).length b__law_read)) from okD (ca := ca) (mr := .frz) (fb := b__law_read) [false, false, false] F sc rfl (fun cdv A outer s H E hG hr => ?_) (.inl rfl))
  have tk : Takes (cxOf (CXP P w) P w K mg base ["_law_blocks", "_law_pending", "_law_at", "_law_found", "_law_entry"] "_law_read" (defScope (top 21)) f cdv A outer s H E) (fun cls d _ H => E cls d H) := takes_of rfl rfl rfl rfl
  have hp : PassesOwn (model P w) (A.deeper (envOfC "_law_read" (defScope (top 21)) s.heap.objs.size f cdv)) (envOfC "_law_read" (defScope (top 21)) s.heap.objs.size f cdv) (cxOf (CXP P w) P w K mg base ["_law_blocks", "_law_pending", "_law_at", "_law_found", "_law_entry"] "_law_read" (defScope (top 21)) f cdv A outer s H E).xe := passes_of (X := cxOf (CXP P w) P w K mg base ["_law_blocks", "_law_pending", "_law_at", "_law_found", "_law_entry"] "_law_read" (defScope (top 21)) f cdv A outer s H E) rfl
  exact (dss_cons (ds_set (i := 3) sc.nd rfl (.inl rfl) (de_ix (by decide) (de_varB (pv 0)) (de_varB (pv 2))))
    (dss_cons (ds_for hp rfl (di_seq (de_varS (pv 1))) (dg_name (i := 4) sc.nd rfl (.inl rfl)) (dss_one (ds_if (dt_cmp (od_eq (Room.units hr)) (de_ix (by decide) (de_varB (pv 4)) de_int) (de_varB (pv 2)) rfl) (dss_one (ds_set (i := 3) sc.nd rfl (.inl rfl) (de_ix (by decide) (de_varB (pv 4)) de_int))) dss_nil)))
    (dss_one (ds_ret (de_var (pv 3))))))
theorem sc_Disk_size : FnScope ["self"] ["self"] (defScope (clsDef (top 11) 1)) := ⟨rfl, rfl, rfl, by decide +kernel, rfl, by decide +kernel, by decide +kernel⟩
theorem ok_Disk_size {f : Addr} {fd : FuncData} (F : FunD K "size" "Disk.size" (defArgs (clsDef (top 11) 1)) (defBody (clsDef (top 11) 1)) (defScope (clsDef (top 11) 1)) [] [] f fd) (T : Fs K mg ca) :
    FnG P w K mg base 1 f fd ["self"] (spD K ca [true] .frz f_Disk_size) := by
  have sc := sc_Disk_size
  refine (show FnG P w K mg base 1 f fd ["self"] (spD K ca [true] .frz (semB [true] (["self"] : List Str).length b_Disk_size)) from okD (ca := ca) (mr := .frz) (fb := b_Disk_size) [true] F sc rfl (fun cdv A outer s H E hG hr => ?_) (.inl rfl))
  have tk : Takes (cxOf (CXP P w) P w K mg base ["self"] "Disk.size" (defScope (clsDef (top 11) 1)) f cdv A outer s H E) (fun cls d _ H => E cls d H) := takes_of rfl rfl rfl rfl
  have hp : PassesOwn (model P w) (A.deeper (envOfC "Disk.size" (defScope (clsDef (top 11) 1)) s.heap.objs.size f cdv)) (envOfC "Disk.size" (defScope (clsDef (top 11) 1)) s.heap.objs.size f cdv) (cxOf (CXP P w) P w K mg base ["self"] "Disk.size" (defScope (clsDef (top 11) 1)) f cdv A outer s H E).xe := passes_of (X := cxOf (CXP P w) P w K mg base ["self"] "Disk.size" (defScope (clsDef (top 11) 1)) f cdv A outer s H E) rfl
  exact (dss_one (ds_ret (de_callB cd_len rfl T.n_len rfl (da_cons (by decide) (de_fld (by decide) T.at__blocks (de_var (pv 0))) da_nil))))
theorem sc_Disk__cut : FnScope ["self", "torn", "number", "at", "block", "count"] ["self", "torn"] (defScope (clsDef (top 11) 4)) := ⟨rfl, rfl, rfl, by decide +kernel, rfl, by decide +kernel, by decide +kernel⟩
theorem ok_Disk__cut {f : Addr} {fd : FuncData} (F : FunD K "_cut" "Disk._cut" (defArgs (clsDef (top 11) 4)) (defBody (clsDef (top 11) 4)) (defScope (clsDef (top 11) 4)) [] [] f fd) (T : Fs K mg ca) :
    FnG P w K mg base 1 f fd ["self", "torn"] (spD K ca [true, false] .frz f_Disk__cut) := by
  have sc := sc_Disk__cut
  refine (show FnG P w K mg base 1 f fd ["self", "torn"] (spD K ca [true, false] .frz (semB [true, false] (["self", "torn", "number", "at", "block", "count"] : List Str).length b_Disk__cut)) from okD (ca := ca) (mr := .frz) (fb := b_Disk__cut) [true, false] F sc rfl (fun cdv A outer s H E hG hr => ?_) (.inl rfl))
  have tk : Takes (cxOf (CXP P w) P w K mg base ["self", "torn", "number", "at", "block", "count"] "Disk._cut" (defScope (clsDef (top 11) 4)) f cdv A outer s H E) (fun cls d _ H => E cls d H) := takes_of rfl rfl rfl rfl
  have hp : PassesOwn (model P w) (A.deeper (envOfC "Disk._cut" (defScope (clsDef (top 11) 4)) s.heap.objs.size f cdv)) (envOfC "Disk._cut" (defScope (clsDef (top 11) 4)) s.heap.objs.size f cdv) (cxOf (CXP P w) P w K mg base ["self", "torn", "number", "at", "block", "count"] "Disk._cut" (defScope (clsDef (top 11) 4)) f cdv A outer s H E).xe := passes_of (X := cxOf (CXP P w) P w K mg base ["self", "torn", "number", "at", "block", "count"] "Disk._cut" (defScope (clsDef (top 11) 4)) f cdv A outer s H E) rfl
  exact (dss_cons (ds_forO hp rfl (di_enumO rfl T.n_enumerate (de_fld (by decide) T.at__pending (de_var (pv 0)))) (dg_tup rfl (dgs_cons (dg_name (i := 2) sc.nd rfl (.inl rfl)) (dgs_cons (dg_tup rfl (dgs_cons (dg_name (i := 3) sc.nd rfl (.inl rfl)) (dgs_cons (dg_name (i := 4) sc.nd rfl (.inl rfl)) dgs_nil))) dgs_nil))) (dss_cons (ds_set (i := 5) sc.nd rfl (.inl rfl) (de_if (dt_cmp od_lt (de_varB (pv 2)) (de_callB cd_len rfl T.n_len rfl (da_cons (by decide) (de_varB (pv 1)) da_nil)) rfl) (de_ix (by decide) (de_varB (pv 1)) (de_varB (pv 2))) de_int))
    (dss_one (ds_setIxO (de_fld (by decide) T.at__blocks (de_var (pv 0))) (de_var (pv 3)) (de_bin od_add (de_slice (de_varB (pv 4)) do_none (do_some (de_var (pv 5)))) (de_slice (de_ix (by decide) (de_fld (by decide) T.at__blocks (de_var (pv 0))) (de_varB (pv 3))) (do_some (de_var (pv 5))) do_none))))))
    (dss_cons (ds_fld T.at__pending (de_var (pv 0)) (de_obj (de_lst da_nil)))
    (dss_cons (ds_fld T.at__cuts (de_var (pv 0)) (de_bin od_add (de_fld (by decide) T.at__cuts (de_var (pv 0))) de_int))
    (dss_cons (ds_fld T.at__left (de_var (pv 0)) de_non)
    (dss_one (ds_fld T.at__torn (de_var (pv 0)) (de_lst da_nil)))))))
theorem sc_Disk_pending_count : FnScope ["self"] ["self"] (defScope (clsDef (top 11) 8)) := ⟨rfl, rfl, rfl, by decide +kernel, rfl, by decide +kernel, by decide +kernel⟩
theorem ok_Disk_pending_count {f : Addr} {fd : FuncData} (F : FunD K "pending_count" "Disk.pending_count" (defArgs (clsDef (top 11) 8)) (defBody (clsDef (top 11) 8)) (defScope (clsDef (top 11) 8)) [] [] f fd) (T : Fs K mg ca) :
    FnG P w K mg base 1 f fd ["self"] (spD K ca [true] .frz f_Disk_pending_count) := by
  have sc := sc_Disk_pending_count
  refine (show FnG P w K mg base 1 f fd ["self"] (spD K ca [true] .frz (semB [true] (["self"] : List Str).length b_Disk_pending_count)) from okD (ca := ca) (mr := .frz) (fb := b_Disk_pending_count) [true] F sc rfl (fun cdv A outer s H E hG hr => ?_) (.inl rfl))
  have tk : Takes (cxOf (CXP P w) P w K mg base ["self"] "Disk.pending_count" (defScope (clsDef (top 11) 8)) f cdv A outer s H E) (fun cls d _ H => E cls d H) := takes_of rfl rfl rfl rfl
  have hp : PassesOwn (model P w) (A.deeper (envOfC "Disk.pending_count" (defScope (clsDef (top 11) 8)) s.heap.objs.size f cdv)) (envOfC "Disk.pending_count" (defScope (clsDef (top 11) 8)) s.heap.objs.size f cdv) (cxOf (CXP P w) P w K mg base ["self"] "Disk.pending_count" (defScope (clsDef (top 11) 8)) f cdv A outer s H E).xe := passes_of (X := cxOf (CXP P w) P w K mg base ["self"] "Disk.pending_count" (defScope (clsDef (top 11) 8)) f cdv A outer s H E) rfl
  exact (dss_one (ds_ret (de_callB cd_len rfl T.n_len rfl (da_cons (by decide) (de_fld (by decide) T.at__pending (de_var (pv 0))) da_nil))))
theorem sc_Disk_cut_count : FnScope ["self"] ["self"] (defScope (clsDef (top 11) 9)) := ⟨rfl, rfl, rfl, by decide +kernel, rfl, by decide +kernel, by decide +kernel⟩
theorem ok_Disk_cut_count {f : Addr} {fd : FuncData} (F : FunD K "cut_count" "Disk.cut_count" (defArgs (clsDef (top 11) 9)) (defBody (clsDef (top 11) 9)) (defScope (clsDef (top 11) 9)) [] [] f fd) (T : Fs K mg ca) :
    FnG P w K mg base 1 f fd ["self"] (spD K ca [true] .frz f_Disk_cut_count) := by
  have sc := sc_Disk_cut_count
  refine (show FnG P w K mg base 1 f fd ["self"] (spD K ca [true] .frz (semB [true] (["self"] : List Str).length b_Disk_cut_count)) from okD (ca := ca) (mr := .frz) (fb := b_Disk_cut_count) [true] F sc rfl (fun cdv A outer s H E hG hr => ?_) (.inl rfl))
  have tk : Takes (cxOf (CXP P w) P w K mg base ["self"] "Disk.cut_count" (defScope (clsDef (top 11) 9)) f cdv A outer s H E) (fun cls d _ H => E cls d H) := takes_of rfl rfl rfl rfl
  have hp : PassesOwn (model P w) (A.deeper (envOfC "Disk.cut_count" (defScope (clsDef (top 11) 9)) s.heap.objs.size f cdv)) (envOfC "Disk.cut_count" (defScope (clsDef (top 11) 9)) s.heap.objs.size f cdv) (cxOf (CXP P w) P w K mg base ["self"] "Disk.cut_count" (defScope (clsDef (top 11) 9)) f cdv A outer s H E).xe := passes_of (X := cxOf (CXP P w) P w K mg base ["self"] "Disk.cut_count" (defScope (clsDef (top 11) 9)) f cdv A outer s H E) rfl
  exact (dss_one (ds_ret (de_fld (by decide) T.at__cuts (de_var (pv 0)))))
theorem sc__law_digits : FnScope ["_law_script", "_law_first", "_law_last", "_law_digits_here", "_law_k", "_law_cell_here", "_law_turn", "_law_seed"] ["_law_script", "_law_first", "_law_last"] (defScope (top 14)) := ⟨rfl, rfl, rfl, by decide +kernel, rfl, by decide +kernel, by decide +kernel⟩
theorem ok__law_digits {f : Addr} {fd : FuncData} (F : FunD K "_law_digits" "_law_digits" (defArgs (top 14)) (defBody (top 14)) (defScope (top 14)) [] [] f fd) (T : Fs K mg ca) (C__law_cell : CalF P w K mg base ca "_law_cell" 1 [false, false] .frz f__law_cell d__law_cell []) :
    FnG P w K mg base 2 f fd ["_law_script", "_law_first", "_law_last"] (spD K ca [false, false, false] .frz f__law_digits) := by
  have sc := sc__law_digits
  refine (show FnG P w K mg base 2 f fd ["_law_script", "_law_first", "_law_last"] (spD K ca [false, false, false] .frz (semB [false, false, false] (["_law_script", "_law_first", "_law_last", "_law_digits_here", "_law_k", "_law_cell_here", "_law_turn", "_law_seed"] : List Str).length b__law_digits)) from okD (ca := ca) (mr := .frz) (fb := b__law_digits) [false, false, false] F sc rfl (fun cdv A outer s H E hG hr => ?_) (.inl rfl))
  have tk : Takes (cxOf (CXP P w) P w K mg base ["_law_script", "_law_first", "_law_last", "_law_digits_here", "_law_k", "_law_cell_here", "_law_turn", "_law_seed"] "_law_digits" (defScope (top 14)) f cdv A outer s H E) (fun cls d _ H => E cls d H) := takes_of rfl rfl rfl rfl
  have hp : PassesOwn (model P w) (A.deeper (envOfC "_law_digits" (defScope (top 14)) s.heap.objs.size f cdv)) (envOfC "_law_digits" (defScope (top 14)) s.heap.objs.size f cdv) (cxOf (CXP P w) P w K mg base ["_law_script", "_law_first", "_law_last", "_law_digits_here", "_law_k", "_law_cell_here", "_law_turn", "_law_seed"] "_law_digits" (defScope (top 14)) f cdv A outer s H E).xe := passes_of (X := cxOf (CXP P w) P w K mg base ["_law_script", "_law_first", "_law_last", "_law_digits_here", "_law_k", "_law_cell_here", "_law_turn", "_law_seed"] "_law_digits" (defScope (top 14)) f cdv A outer s H E) rfl
  exact (dss_cons (ds_setOwn (i := 3) sc.nd rfl (.inl rfl) (de_lst da_nil))
    (dss_cons (ds_for hp rfl (di_range2 rfl T.n_range (da_cons (by decide) (de_var (pv 1)) (da_cons (by decide) (de_var (pv 2)) da_nil)) (len_cons (len_cons len_nil))) (dg_name (i := 4) sc.nd rfl (.inl rfl)) (dss_cons (ds_set (i := 5) sc.nd rfl (.inl rfl) (de_callF 2 0 C__law_cell hG (hr.mono (by decide)) rfl tk (dam_cons (de_varB (pv 0)) (dam_cons (de_varB (pv 4)) dam_nil))))
    (dss_cons (ds_if (dt_cmp od_lt (de_varB (pv 5)) de_int rfl) (dss_one (ds_set (i := 5) sc.nd rfl (.inl rfl) (de_bin od_sub de_int (de_bin od_mul de_int (de_varB (pv 5)))))) dss_nil)
    (dss_one (ds_if (dt_cmp od_ge (de_varB (pv 5)) de_int rfl) (dss_one (ds_for hp rfl (di_range1 rfl T.n_range (da_cons (by decide) de_int da_nil) (len_cons len_nil)) (dg_name (i := 6) sc.nd rfl (.inl rfl)) (dss_one (ds_if (dt_cmp od_gt (de_varB (pv 5)) de_int rfl) (dss_cons (ds_mut PySem.F.plainAttrs_list PySem.F.slot_list_append PySem.F.type_list_append mu_append (pv 3) (da_cons (by decide) (de_bin od_mod (de_callTy cd_int rfl T.n_int rfl (da_cons (by decide) (de_varB (pv 5)) da_nil)) de_int) da_nil))
    (dss_one (ds_set (i := 5) sc.nd rfl (.inl rfl) (de_bin od_div (de_varB (pv 5)) de_int)))) dss_nil)))) (dss_cons (ds_set (i := 7) sc.nd rfl (.inl rfl) (de_bin od_mod (de_callTy cd_int rfl T.n_int rfl (da_cons (by decide) (de_bin od_add (de_bin od_add (de_bin od_mul (de_varB (pv 5)) de_int) (de_bin od_mul (de_varB (pv 4)) de_int)) de_int) da_nil)) de_int))
    (dss_one (ds_for hp rfl (di_range1 rfl T.n_range (da_cons (by decide) de_int da_nil) (len_cons len_nil)) (dg_name (i := 6) sc.nd rfl (.inl rfl)) (dss_cons (ds_set (i := 7) sc.nd rfl (.inl rfl) (de_bin od_mod (de_callTy cd_int rfl T.n_int rfl (da_cons (by decide) (de_bin od_add (de_bin od_add (de_bin od_mul (de_varB (pv 7)) de_int) (de_bin od_mul de_int (de_varB (pv 6)))) de_int) da_nil)) de_int))
    (dss_one (ds_mut PySem.F.plainAttrs_list PySem.F.slot_list_append PySem.F.type_list_append mu_append (pv 3) (da_cons (by decide) (de_bin od_mod (de_callTy cd_int rfl T.n_int rfl (da_cons (by decide) (de_bin od_div (de_varB (pv 7)) de_int) da_nil)) de_int) da_nil))))))))))))
    (dss_one (ds_fz 3 (ds_ret (de_var (pv 3)))))))
theorem sc__law_torn : FnScope ["_law_box", "_law_many", "_law_kind", "_law_k"] ["_law_box", "_law_many"] (defScope (top 16)) := ⟨rfl, rfl, rfl, by decide +kernel, rfl, by decide +kernel, by decide +kernel⟩
theorem ok__law_torn {f : Addr} {fd : FuncData} (F : FunD K "_law_torn" "_law_torn" (defArgs (top 16)) (defBody (top 16)) (defScope (top 16)) [] [] f fd) (T : Fs K mg ca) (C__law_draw : CalF P w K mg base ca "_law_draw" 1 [true, false] .frz f__law_draw d__law_draw []) :
    FnG P w K mg base 2 f fd ["_law_box", "_law_many"] (spD K ca [true, false] .frz f__law_torn) := by
  have sc := sc__law_torn
  refine (show FnG P w K mg base 2 f fd ["_law_box", "_law_many"] (spD K ca [true, false] .frz (semB [true, false] (["_law_box", "_law_many", "_law_kind", "_law_k"] : List Str).length b__law_torn)) from okD (ca := ca) (mr := .frz) (fb := b__law_torn) [true, false] F sc rfl (fun cdv A outer s H E hG hr => ?_) (.inl rfl))
  have tk : Takes (cxOf (CXP P w) P w K mg base ["_law_box", "_law_many", "_law_kind", "_law_k"] "_law_torn" (defScope (top 16)) f cdv A outer s H E) (fun cls d _ H => E cls d H) := takes_of rfl rfl rfl rfl
  have hp : PassesOwn (model P w) (A.deeper (envOfC "_law_torn" (defScope (top 16)) s.heap.objs.size f cdv)) (envOfC "_law_torn" (defScope (top 16)) s.heap.objs.size f cdv) (cxOf (CXP P w) P w K mg base ["_law_box", "_law_many", "_law_kind", "_law_k"] "_law_torn" (defScope (top 16)) f cdv A outer s H E).xe := passes_of (X := cxOf (CXP P w) P w K mg base ["_law_box", "_law_many", "_law_kind", "_law_k"] "_law_torn" (defScope (top 16)) f cdv A outer s H E) rfl
  exact (dss_cons (ds_set (i := 2) sc.nd rfl (.inl rfl) (de_callF 2 0 C__law_draw hG (hr.mono (by decide)) rfl tk (dam_cons (de_var (pv 0)) (dam_cons de_int dam_nil))))
    (dss_cons (ds_if (dt_cmp (od_eq (Room.units hr)) (de_varB (pv 2)) de_int rfl) (dss_one (ds_ret (de_lst da_nil))) dss_nil)
    (dss_cons (ds_if (dt_cmp (od_eq (Room.units hr)) (de_varB (pv 2)) de_int rfl) (dss_one (ds_ret (de_bin od_mul (de_lst (da_cons (by decide) de_int da_nil)) (de_varB (pv 1))))) dss_nil)
    (dss_cons (ds_if (dt_cmp (od_eq (Room.units hr)) (de_varB (pv 2)) de_int rfl) (dss_one (ds_ret (de_lc (own := [("_law_k", 3)]) rfl sc.nd (di_range1 rfl T.n_range (da_cons (by decide) (de_var (pv 1)) da_nil) (len_cons len_nil)) (blkOk_by (N := ["_law_box", "_law_many", "_law_kind", "_law_k"]) (sc := defScope (top 16)) (by decide +kernel)) (fun _ _ _ _ _ => (dgw_name (i := 3) sc.nd rfl (.inl rfl) (by decide))) (fun _ _ _ _ _ => dts_nil) (fun _ _ _ _ _ => (de_bin od_mul de_int (de_bor (de_callF 2 0 C__law_draw hG (hr.mono (by decide)) rfl takes0 (dam_cons (de_var (pv 0)) (dam_cons de_int dam_nil))))))))) dss_nil)
    (dss_one (ds_ret (de_lc (own := [("_law_k", 3)]) rfl sc.nd (di_range1 rfl T.n_range (da_cons (by decide) (de_var (pv 1)) da_nil) (len_cons len_nil)) (blkOk_by (N := ["_law_box", "_law_many", "_law_kind", "_law_k"]) (sc := defScope (top 16)) (by decide +kernel)) (fun _ _ _ _ _ => (dgw_name (i := 3) sc.nd rfl (.inl rfl) (by decide))) (fun _ _ _ _ _ => dts_nil) (fun _ _ _ _ _ => (de_callF 2 0 C__law_draw hG (hr.mono (by decide)) rfl takes0 (dam_cons (de_var (pv 0)) (dam_cons de_int dam_nil)))))))))))
theorem sc__law_block : FnScope ["_law_box", "_law_kind", "_law_k"] ["_law_box"] (defScope (top 17)) := ⟨rfl, rfl, rfl, by decide +kernel, rfl, by decide +kernel, by decide +kernel⟩
theorem ok__law_block {f : Addr} {fd : FuncData} (F : FunD K "_law_block" "_law_block" (defArgs (top 17)) (defBody (top 17)) (defScope (top 17)) [] [] f fd) (T : Fs K mg ca) (C__law_draw : CalF P w K mg base ca "_law_draw" 1 [true, false] .frz f__law_draw d__law_draw []) :
    FnG P w K mg base 2 f fd ["_law_box"] (spD K ca [true] .frz f__law_block) := by
  have sc := sc__law_block
  refine (show FnG P w K mg base 2 f fd ["_law_box"] (spD K ca [true] .frz (semB [true] (["_law_box", "_law_kind", "_law_k"] : List Str).length b__law_block)) from okD (ca := ca) (mr := .frz) (fb := b__law_block) [true] F sc rfl (fun cdv A outer s H E hG hr => ?_) (.inl rfl))
  have tk : Takes (cxOf (CXP P w) P w K mg base ["_law_box", "_law_kind", "_law_k"] "_law_block" (defScope (top 17)) f cdv A outer s H E) (fun cls d _ H => E cls d H) := takes_of rfl rfl rfl rfl
  have hp : PassesOwn (model P w) (A.deeper (envOfC "_law_block" (defScope (top 17)) s.heap.objs.size f cdv)) (envOfC "_law_block" (defScope (top 17)) s.heap.objs.size f cdv) (cxOf (CXP P w) P w K mg base ["_law_box", "_law_kind", "_law_k"] "_law_block" (defScope (top 17)) f cdv A outer s H E).xe := passes_of (X := cxOf (CXP P w) P w K mg base ["_law_box", "_law_kind", "_law_k"] "_law_block" (defScope (top 17)) f cdv A outer s H E) rfl
  exact (dss_cons (ds_set (i := 1) sc.nd rfl (.inl rfl) (de_callF 2 0 C__law_draw hG (hr.mono (by decide)) rfl tk (dam_cons (de_var (pv 0)) (dam_cons de_int dam_nil))))
    (dss_cons (ds_if (dt_cmp (od_eq (Room.units hr)) (de_varB (pv 1)) de_int rfl) (dss_one (ds_ret (de_bin od_mul (de_lst (da_cons (by decide) de_int da_nil)) de_int))) dss_nil)
    (dss_cons (ds_if (dt_cmp (od_eq (Room.units hr)) (de_varB (pv 1)) de_int rfl) (dss_one (ds_ret (de_lc (own := [("_law_k", 2)]) rfl sc.nd (di_range1 rfl T.n_range (da_cons (by decide) de_int da_nil) (len_cons len_nil)) (blkOk_by (N := ["_law_box", "_law_kind", "_law_k"]) (sc := defScope (top 17)) (by decide +kernel)) (fun _ _ _ _ _ => (dgw_name (i := 2) sc.nd rfl (.inl rfl) (by decide))) (fun _ _ _ _ _ => dts_nil) (fun _ _ _ _ _ => (de_bin od_sub de_int (de_varB (pv 2))))))) dss_nil)
    (dss_one (ds_ret (de_lc (own := [("_law_k", 2)]) rfl sc.nd (di_range1 rfl T.n_range (da_cons (by decide) de_int da_nil) (len_cons len_nil)) (blkOk_by (N := ["_law_box", "_law_kind", "_law_k"]) (sc := defScope (top 17)) (by decide +kernel)) (fun _ _ _ _ _ => (dgw_name (i := 2) sc.nd rfl (.inl rfl) (by decide))) (fun _ _ _ _ _ => dts_nil) (fun _ _ _ _ _ => (de_callF 2 0 C__law_draw hG (hr.mono (by decide)) rfl takes0 (dam_cons (de_var (pv 0)) (dam_cons de_int dam_nil))))))))))
theorem sc_Disk_schedule_cut : FnScope ["self", "many", "torn"] ["self", "many", "torn"] (defScope (clsDef (top 11) 11)) := ⟨rfl, rfl, rfl, by decide +kernel, rfl, by decide +kernel, by decide +kernel⟩
theorem ok_Disk_schedule_cut {f : Addr} {fd : FuncData} (F : FunD K "schedule_cut" "Disk.schedule_cut" (defArgs (clsDef (top 11) 11)) (defBody (clsDef (top 11) 11)) (defScope (clsDef (top 11) 11)) [] [] f fd) (T : Fs K mg ca) (C__wall : CalF P w K mg base ca "_wall" 1 [false] .frz f__wall d__wall []) :
    FnG P w K mg base 2 f fd ["self", "many", "torn"] (spD K ca [true, false, false] .frz f_Disk_schedule_cut) := by
  have sc := sc_Disk_schedule_cut
  refine (show FnG P w K mg base 2 f fd ["self", "many", "torn"] (spD K ca [true, false, false] .frz (semB [true, false, false] (["self", "many", "torn"] : List Str).length b_Disk_schedule_cut)) from okD (ca := ca) (mr := .frz) (fb := b_Disk_schedule_cut) [true, false, false] F sc rfl (fun cdv A outer s H E hG hr => ?_) (.inl rfl))
  have tk : Takes (cxOf (CXP P w) P w K mg base ["self", "many", "torn"] "Disk.schedule_cut" (defScope (clsDef (top 11) 11)) f cdv A outer s H E) (fun cls d _ H => E cls d H) := takes_of rfl rfl rfl rfl
  have hp : PassesOwn (model P w) (A.deeper (envOfC "Disk.schedule_cut" (defScope (clsDef (top 11) 11)) s.heap.objs.size f cdv)) (envOfC "Disk.schedule_cut" (defScope (clsDef (top 11) 11)) s.heap.objs.size f cdv) (cxOf (CXP P w) P w K mg base ["self", "many", "torn"] "Disk.schedule_cut" (defScope (clsDef (top 11) 11)) f cdv A outer s H E).xe := passes_of (X := cxOf (CXP P w) P w K mg base ["self", "many", "torn"] "Disk.schedule_cut" (defScope (clsDef (top 11) 11)) f cdv A outer s H E) rfl
  exact (dss_one (ds_expr (de_bor (de_callF 1 0 C__wall hG (hr.mono (by decide)) rfl tk (dam_cons de_int dam_nil)))))
theorem sc__check_torn : FnScope ["torn", "count"] ["torn"] (defScope (top 10)) := ⟨rfl, rfl, rfl, by decide +kernel, rfl, by decide +kernel, by decide +kernel⟩
theorem ok__check_torn {f : Addr} {fd : FuncData} (F : FunD K "_check_torn" "_check_torn" (defArgs (top 10)) (defBody (top 10)) (defScope (top 10)) [] [] f fd) (T : Fs K mg ca) (X_OutOfRange : ExI P w K mg base ca "OutOfRange" ["name"]) :
    FnG P w K mg base 3 f fd ["torn"] (spD K ca [false] .frz f__check_torn) := by
  have sc := sc__check_torn
  refine (show FnG P w K mg base 3 f fd ["torn"] (spD K ca [false] .frz (semB [false] (["torn", "count"] : List Str).length b__check_torn)) from okD (ca := ca) (mr := .frz) (fb := b__check_torn) [false] F sc rfl (fun cdv A outer s H E hG hr => ?_) (.inl rfl))
  have tk : Takes (cxOf (CXP P w) P w K mg base ["torn", "count"] "_check_torn" (defScope (top 10)) f cdv A outer s H E) (fun cls d _ H => E cls d H) := takes_of rfl rfl rfl rfl
  have hp : PassesOwn (model P w) (A.deeper (envOfC "_check_torn" (defScope (top 10)) s.heap.objs.size f cdv)) (envOfC "_check_torn" (defScope (top 10)) s.heap.objs.size f cdv) (cxOf (CXP P w) P w K mg base ["torn", "count"] "_check_torn" (defScope (top 10)) f cdv A outer s H E).xe := passes_of (X := cxOf (CXP P w) P w K mg base ["torn", "count"] "_check_torn" (defScope (top 10)) f cdv A outer s H E) rfl
  exact (dss_one (ds_for hp rfl (di_seq (de_varS (pv 0))) (dg_name (i := 1) sc.nd rfl (.inl rfl)) (dss_one (ds_if (dt_not (dt_chain od_le od_le de_int (de_varB (pv 1)) (de_gl T.g_BLOCK))) (dss_one (ds_raiseF rfl tk X_OutOfRange (hr.mono (by decide)) (da_cons (by decide) de_str da_nil))) dss_nil))))
theorem sc_Disk___init__ : FnScope ["self", "blocks", "_"] ["self", "blocks"] (defScope (clsDef (top 11) 0)) := ⟨rfl, rfl, rfl, by decide +kernel, rfl, by decide +kernel, by decide +kernel⟩
theorem ok_Disk___init__ {f : Addr} {fd : FuncData} (F : FunD K "__init__" "Disk.__init__" (defArgs (clsDef (top 11) 0)) (defBody (clsDef (top 11) 0)) (defScope (clsDef (top 11) 0)) [] [] f fd) (T : Fs K mg ca) (X_OutOfRange : ExI P w K mg base ca "OutOfRange" ["name"]) :
    FnG P w K mg base 3 f fd ["self", "blocks"] (spD K ca [true, false] .frz f_Disk___init__) := by
  have sc := sc_Disk___init__
  refine (show FnG P w K mg base 3 f fd ["self", "blocks"] (spD K ca [true, false] .frz (semB [true, false] (["self", "blocks", "_"] : List Str).length b_Disk___init__)) from okD (ca := ca) (mr := .frz) (fb := b_Disk___init__) [true, false] F sc rfl (fun cdv A outer s H E hG hr => ?_) (.inl rfl))
  have tk : Takes (cxOf (CXP P w) P w K mg base ["self", "blocks", "_"] "Disk.__init__" (defScope (clsDef (top 11) 0)) f cdv A outer s H E) (fun cls d _ H => E cls d H) := takes_of rfl rfl rfl rfl
  have hp : PassesOwn (model P w) (A.deeper (envOfC "Disk.__init__" (defScope (clsDef (top 11) 0)) s.heap.objs.size f cdv)) (envOfC "Disk.__init__" (defScope (clsDef (top 11) 0)) s.heap.objs.size f cdv) (cxOf (CXP P w) P w K mg base ["self", "blocks", "_"] "Disk.__init__" (defScope (clsDef (top 11) 0)) f cdv A outer s H E).xe := passes_of (X := cxOf (CXP P w) P w K mg base ["self", "blocks", "_"] "Disk.__init__" (defScope (clsDef (top 11) 0)) f cdv A outer s H E) rfl
  exact (dss_cons (ds_if (dt_not (dt_chain od_le od_le (de_gl T.g_BLOCKS_LEAST) (de_varB (pv 1)) (de_gl T.g_BLOCKS_MOST))) (dss_one (ds_raiseF rfl tk X_OutOfRange (hr.mono (by decide)) (da_cons (by decide) de_str da_nil))) dss_nil)
    (dss_cons (ds_fld T.at__blocks (de_var (pv 0)) (de_obj (de_lc (own := [("_", 2)]) rfl sc.nd (di_range1 rfl T.n_range (da_cons (by decide) (de_var (pv 1)) da_nil) (len_cons len_nil)) (blkOk_by (N := ["self", "blocks", "_"]) (sc := defScope (clsDef (top 11) 0)) (by decide +kernel)) (fun _ _ _ _ _ => (dgw_name (i := 2) sc.nd rfl (.inl rfl) (by decide))) (fun _ _ _ _ _ => dts_nil) (fun _ _ _ _ _ => (de_bin od_mul (de_lst (da_cons (by decide) de_int da_nil)) (de_gl T.g_BLOCK))))))
    (dss_cons (ds_fld T.at__pending (de_var (pv 0)) (de_obj (de_lst da_nil)))
    (dss_cons (ds_fld T.at__cuts (de_var (pv 0)) de_int)
    (dss_cons (ds_fld T.at__left (de_var (pv 0)) de_non)
    (dss_one (ds_fld T.at__torn (de_var (pv 0)) (de_lst da_nil))))))))
theorem sc_Disk__check_at : FnScope ["self", "at"] ["self", "at"] (defScope (clsDef (top 11) 2)) := ⟨rfl, rfl, rfl, by decide +kernel, rfl, by decide +kernel, by decide +kernel⟩
theorem ok_Disk__check_at {f : Addr} {fd : FuncData} (F : FunD K "_check_at" "Disk._check_at" (defArgs (clsDef (top 11) 2)) (defBody (clsDef (top 11) 2)) (defScope (clsDef (top 11) 2)) [] [] f fd) (T : Fs K mg ca) (X_OutOfRange : ExI P w K mg base ca "OutOfRange" ["name"]) :
    FnG P w K mg base 3 f fd ["self", "at"] (spD K ca [true, false] .frz f_Disk__check_at) := by
  have sc := sc_Disk__check_at
  refine (show FnG P w K mg base 3 f fd ["self", "at"] (spD K ca [true, false] .frz (semB [true, false] (["self", "at"] : List Str).length b_Disk__check_at)) from okD (ca := ca) (mr := .frz) (fb := b_Disk__check_at) [true, false] F sc rfl (fun cdv A outer s H E hG hr => ?_) (.inl rfl))
  have tk : Takes (cxOf (CXP P w) P w K mg base ["self", "at"] "Disk._check_at" (defScope (clsDef (top 11) 2)) f cdv A outer s H E) (fun cls d _ H => E cls d H) := takes_of rfl rfl rfl rfl
  have hp : PassesOwn (model P w) (A.deeper (envOfC "Disk._check_at" (defScope (clsDef (top 11) 2)) s.heap.objs.size f cdv)) (envOfC "Disk._check_at" (defScope (clsDef (top 11) 2)) s.heap.objs.size f cdv) (cxOf (CXP P w) P w K mg base ["self", "at"] "Disk._check_at" (defScope (clsDef (top 11) 2)) f cdv A outer s H E).xe := passes_of (X := cxOf (CXP P w) P w K mg base ["self", "at"] "Disk._check_at" (defScope (clsDef (top 11) 2)) f cdv A outer s H E) rfl
  exact (dss_one (ds_if (dt_not (dt_chain od_le od_lt de_int (de_varB (pv 1)) (de_callB cd_len rfl T.n_len rfl (da_cons (by decide) (de_fld (by decide) T.at__blocks (de_var (pv 0))) da_nil)))) (dss_one (ds_raiseF rfl tk X_OutOfRange (hr.mono (by decide)) (da_cons (by decide) de_str da_nil))) dss_nil))
theorem sc_Disk__spend : FnScope ["self"] ["self"] (defScope (clsDef (top 11) 5)) := ⟨rfl, rfl, rfl, by decide +kernel, rfl, by decide +kernel, by decide +kernel⟩
theorem ok_Disk__spend {f : Addr} {fd : FuncData} (F : FunD K "_spend" "Disk._spend" (defArgs (clsDef (top 11) 5)) (defBody (clsDef (top 11) 5)) (defScope (clsDef (top 11) 5)) [] [] f fd) (T : Fs K mg ca) (M_Disk__cut : MetF P w K mg base ca "Disk" "_cut" 1 [true, false] .frz f_Disk__cut d_Disk__cut) (X_PowerCut : ExT K mg ca "PowerCut") :
    FnG P w K mg base 3 f fd ["self"] (spD K ca [true] .frz f_Disk__spend) := by
  have sc := sc_Disk__spend
  refine (show FnG P w K mg base 3 f fd ["self"] (spD K ca [true] .frz (semB [true] (["self"] : List Str).length b_Disk__spend)) from okD (ca := ca) (mr := .frz) (fb := b_Disk__spend) [true] F sc rfl (fun cdv A outer s H E hG hr => ?_) (.inl rfl))
  have tk : Takes (cxOf (CXP P w) P w K mg base ["self"] "Disk._spend" (defScope (clsDef (top 11) 5)) f cdv A outer s H E) (fun cls d _ H => E cls d H) := takes_of rfl rfl rfl rfl
  have hp : PassesOwn (model P w) (A.deeper (envOfC "Disk._spend" (defScope (clsDef (top 11) 5)) s.heap.objs.size f cdv)) (envOfC "Disk._spend" (defScope (clsDef (top 11) 5)) s.heap.objs.size f cdv) (cxOf (CXP P w) P w K mg base ["self"] "Disk._spend" (defScope (clsDef (top 11) 5)) f cdv A outer s H E).xe := passes_of (X := cxOf (CXP P w) P w K mg base ["self"] "Disk._spend" (defScope (clsDef (top 11) 5)) f cdv A outer s H E) rfl
  exact (dss_cons (ds_if (dt_isN (de_fld (by decide) T.at__left (de_var (pv 0)))) (dss_one ds_retN) dss_nil)
    (dss_cons (ds_if (dt_cmp (od_eq (Room.units hr)) (de_fld (by decide) T.at__left (de_var (pv 0))) de_int rfl) (dss_cons (ds_expr (de_bor (de_meth 1 0 M_Disk__cut hG (hr.mono (by decide)) tk (de_var (pv 0)) (dam_cons (de_fld (by decide) T.at__torn (de_var (pv 0))) dam_nil))))
    (dss_one (ds_raiseTF rfl tk X_PowerCut de_str))) dss_nil)
    (dss_one (ds_fld T.at__left (de_var (pv 0)) (de_bin od_sub (de_fld (by decide) T.at__left (de_var (pv 0))) de_int)))))
theorem sc_Disk_read : FnScope ["self", "at", "found", "place", "block"] ["self", "at"] (defScope (clsDef (top 11) 3)) := ⟨rfl, rfl, rfl, by decide +kernel, rfl, by decide +kernel, by decide +kernel⟩
theorem ok_Disk_read {f : Addr} {fd : FuncData} (F : FunD K "read" "Disk.read" (defArgs (clsDef (top 11) 3)) (defBody (clsDef (top 11) 3)) (defScope (clsDef (top 11) 3)) [] [] f fd) (T : Fs K mg ca) (M_Disk__check_at : MetF P w K mg base ca "Disk" "_check_at" 3 [true, false] .frz f_Disk__check_at d_Disk__check_at) :
    FnG P w K mg base 4 f fd ["self", "at"] (spD K ca [true, false] .fre f_Disk_read) := by
  have sc := sc_Disk_read
  refine (show FnG P w K mg base 4 f fd ["self", "at"] (spD K ca [true, false] .fre (semB [true, false] (["self", "at", "found", "place", "block"] : List Str).length b_Disk_read)) from okD (ca := ca) (mr := .fre) (fb := b_Disk_read) [true, false] F sc rfl (fun cdv A outer s H E hG hr => ?_) (.inr rfl))
  have tk : Takes (cxOf (CXP P w) P w K mg base ["self", "at", "found", "place", "block"] "Disk.read" (defScope (clsDef (top 11) 3)) f cdv A outer s H E) (fun cls d _ H => E cls d H) := takes_of rfl rfl rfl rfl
  have hp : PassesOwn (model P w) (A.deeper (envOfC "Disk.read" (defScope (clsDef (top 11) 3)) s.heap.objs.size f cdv)) (envOfC "Disk.read" (defScope (clsDef (top 11) 3)) s.heap.objs.size f cdv) (cxOf (CXP P w) P w K mg base ["self", "at", "found", "place", "block"] "Disk.read" (defScope (clsDef (top 11) 3)) f cdv A outer s H E).xe := passes_of (X := cxOf (CXP P w) P w K mg base ["self", "at", "found", "place", "block"] "Disk.read" (defScope (clsDef (top 11) 3)) f cdv A outer s H E) rfl
  exact (dss_cons (ds_expr (de_bor (de_meth 1 0 M_Disk__check_at hG (hr.mono (by decide)) tk (de_var (pv 0)) (dam_cons (de_varB (pv 1)) dam_nil))))
    (dss_cons (ds_set (i := 2) sc.nd rfl (.inl rfl) (de_ix (by decide) (de_fld (by decide) T.at__blocks (de_var (pv 0))) (de_varB (pv 1))))
    (dss_cons (ds_forO hp rfl (di_listO (de_fld (by decide) T.at__pending (de_var (pv 0)))) (dg_tup rfl (dgs_cons (dg_name (i := 3) sc.nd rfl (.inl rfl)) (dgs_cons (dg_name (i := 4) sc.nd rfl (.inl rfl)) dgs_nil))) (dss_one (ds_if (dt_cmp (od_eq (Room.units hr)) (de_varB (pv 3)) (de_varB (pv 1)) rfl) (dss_one (ds_set (i := 2) sc.nd rfl (.inl rfl) (de_var (pv 4)))) dss_nil)))
    (dss_one (ds_ret (de_callTy cd_list rfl T.n_list rfl (da_cons (by decide) (de_varB (pv 2)) da_nil)))))))
theorem sc_Disk_write : FnScope ["self", "at", "block"] ["self", "at", "block"] (defScope (clsDef (top 11) 6)) := ⟨rfl, rfl, rfl, by decide +kernel, rfl, by decide +kernel, by decide +kernel⟩
theorem ok_Disk_write {f : Addr} {fd : FuncData} (F : FunD K "write" "Disk.write" (defArgs (clsDef (top 11) 6)) (defBody (clsDef (top 11) 6)) (defScope (clsDef (top 11) 6)) [] [] f fd) (T : Fs K mg ca) (C__is_block : CalF P w K mg base ca "_is_block" 1 [false] .frz f__is_block d__is_block []) (M_Disk__check_at : MetF P w K mg base ca "Disk" "_check_at" 3 [true, false] .frz f_Disk__check_at d_Disk__check_at) (M_Disk__spend : MetF P w K mg base ca "Disk" "_spend" 3 [true] .frz f_Disk__spend d_Disk__spend) (X_OutOfRange : ExI P w K mg base ca "OutOfRange" ["name"]) :
    FnG P w K mg base 4 f fd ["self", "at", "block"] (spD K ca [true, true, false] .frz f_Disk_write) := by
  have sc := sc_Disk_write
  refine (show FnG P w K mg base 4 f fd ["self", "at", "block"] (spD K ca [true, true, false] .frz (semB [true, true, false] (["self", "at", "block"] : List Str).length b_Disk_write)) from okD (ca := ca) (mr := .frz) (fb := b_Disk_write) [true, true, false] F sc rfl (fun cdv A outer s H E hG hr => ?_) (.inl rfl))
  have tk : Takes (cxOf (CXP P w) P w K mg base ["self", "at", "block"] "Disk.write" (defScope (clsDef (top 11) 6)) f cdv A outer s H E) (fun cls d _ H => E cls d H) := takes_of rfl rfl rfl rfl
  have hp : PassesOwn (model P w) (A.deeper (envOfC "Disk.write" (defScope (clsDef (top 11) 6)) s.heap.objs.size f cdv)) (envOfC "Disk.write" (defScope (clsDef (top 11) 6)) s.heap.objs.size f cdv) (cxOf (CXP P w) P w K mg base ["self", "at", "block"] "Disk.write" (defScope (clsDef (top 11) 6)) f cdv A outer s H E).xe := passes_of (X := cxOf (CXP P w) P w K mg base ["self", "at", "block"] "Disk.write" (defScope (clsDef (top 11) 6)) f cdv A outer s H E) rfl
  exact (dss_cons (ds_expr (de_bor (de_meth 1 0 M_Disk__check_at hG (hr.mono (by decide)) tk (de_var (pv 0)) (dam_cons (de_varB (pv 1)) dam_nil))))
    (dss_cons (ds_if (dt_not (dt_val (de_bor (de_callF 1 0 C__is_block hG (hr.mono (by decide)) rfl tk (dam_cons (de_varB (pv 2)) dam_nil))))) (dss_one (ds_raiseF rfl tk X_OutOfRange (hr.mono (by decide)) (da_cons (by decide) de_str da_nil))) dss_nil)
    (dss_cons (ds_expr (de_bor (de_meth0 M_Disk__spend hG (hr.mono (by decide)) tk (de_var (pv 0)))))
    (dss_one (ds_expr (de_bor (de_mut PySem.F.plainAttrs_list PySem.F.slot_list_append PySem.F.type_list_append mu_append (de_fld (by decide) T.at__pending (de_var (pv 0))) (da_cons (by decide) (de_tup (da_cons (by decide) (de_var (pv 1)) (da_cons (by decide) (de_callTy cd_list rfl T.n_list rfl (da_cons (by decide) (de_varB (pv 2)) da_nil)) da_nil))) da_nil))))))))
theorem sc_Disk_flush : FnScope ["self", "at", "block"] ["self"] (defScope (clsDef (top 11) 7)) := ⟨rfl, rfl, rfl, by decide +kernel, rfl, by decide +kernel, by decide +kernel⟩
theorem ok_Disk_flush {f : Addr} {fd : FuncData} (F : FunD K "flush" "Disk.flush" (defArgs (clsDef (top 11) 7)) (defBody (clsDef (top 11) 7)) (defScope (clsDef (top 11) 7)) [] [] f fd) (T : Fs K mg ca) (M_Disk__spend : MetF P w K mg base ca "Disk" "_spend" 3 [true] .frz f_Disk__spend d_Disk__spend) :
    FnG P w K mg base 4 f fd ["self"] (spD K ca [true] .frz f_Disk_flush) := by
  have sc := sc_Disk_flush
  refine (show FnG P w K mg base 4 f fd ["self"] (spD K ca [true] .frz (semB [true] (["self", "at", "block"] : List Str).length b_Disk_flush)) from okD (ca := ca) (mr := .frz) (fb := b_Disk_flush) [true] F sc rfl (fun cdv A outer s H E hG hr => ?_) (.inl rfl))
  have tk : Takes (cxOf (CXP P w) P w K mg base ["self", "at", "block"] "Disk.flush" (defScope (clsDef (top 11) 7)) f cdv A outer s H E) (fun cls d _ H => E cls d H) := takes_of rfl rfl rfl rfl
  have hp : PassesOwn (model P w) (A.deeper (envOfC "Disk.flush" (defScope (clsDef (top 11) 7)) s.heap.objs.size f cdv)) (envOfC "Disk.flush" (defScope (clsDef (top 11) 7)) s.heap.objs.size f cdv) (cxOf (CXP P w) P w K mg base ["self", "at", "block"] "Disk.flush" (defScope (clsDef (top 11) 7)) f cdv A outer s H E).xe := passes_of (X := cxOf (CXP P w) P w K mg base ["self", "at", "block"] "Disk.flush" (defScope (clsDef (top 11) 7)) f cdv A outer s H E) rfl
  exact (dss_cons (ds_expr (de_bor (de_meth0 M_Disk__spend hG (hr.mono (by decide)) tk (de_var (pv 0)))))
    (dss_cons (ds_forO hp rfl (di_listO (de_fld (by decide) T.at__pending (de_var (pv 0)))) (dg_tup rfl (dgs_cons (dg_name (i := 1) sc.nd rfl (.inl rfl)) (dgs_cons (dg_name (i := 2) sc.nd rfl (.inl rfl)) dgs_nil))) (dss_one (ds_setIxO (de_fld (by decide) T.at__blocks (de_var (pv 0))) (de_var (pv 1)) (de_var (pv 2)))))
    (dss_one (ds_fld T.at__pending (de_var (pv 0)) (de_obj (de_lst da_nil))))))
theorem sc_Disk_cut_power : FnScope ["self", "torn"] ["self", "torn"] (defScope (clsDef (top 11) 10)) := ⟨rfl, rfl, rfl, by decide +kernel, rfl, by decide +kernel, by decide +kernel⟩
theorem ok_Disk_cut_power {f : Addr} {fd : FuncData} (F : FunD K "cut_power" "Disk.cut_power" (defArgs (clsDef (top 11) 10)) (defBody (clsDef (top 11) 10)) (defScope (clsDef (top 11) 10)) [] [] f fd) (T : Fs K mg ca) (M_Disk__cut : MetF P w K mg base ca "Disk" "_cut" 1 [true, false] .frz f_Disk__cut d_Disk__cut) (C__check_torn : CalF P w K mg base ca "_check_torn" 3 [false] .frz f__check_torn d__check_torn []) :
    FnG P w K mg base 4 f fd ["self", "torn"] (spD K ca [true, false] .frz f_Disk_cut_power) := by
  have sc := sc_Disk_cut_power
  refine (show FnG P w K mg base 4 f fd ["self", "torn"] (spD K ca [true, false] .frz (semB [true, false] (["self", "torn"] : List Str).length b_Disk_cut_power)) from okD (ca := ca) (mr := .frz) (fb := b_Disk_cut_power) [true, false] F sc rfl (fun cdv A outer s H E hG hr => ?_) (.inl rfl))
  have tk : Takes (cxOf (CXP P w) P w K mg base ["self", "torn"] "Disk.cut_power" (defScope (clsDef (top 11) 10)) f cdv A outer s H E) (fun cls d _ H => E cls d H) := takes_of rfl rfl rfl rfl
  have hp : PassesOwn (model P w) (A.deeper (envOfC "Disk.cut_power" (defScope (clsDef (top 11) 10)) s.heap.objs.size f cdv)) (envOfC "Disk.cut_power" (defScope (clsDef (top 11) 10)) s.heap.objs.size f cdv) (cxOf (CXP P w) P w K mg base ["self", "torn"] "Disk.cut_power" (defScope (clsDef (top 11) 10)) f cdv A outer s H E).xe := passes_of (X := cxOf (CXP P w) P w K mg base ["self", "torn"] "Disk.cut_power" (defScope (clsDef (top 11) 10)) f cdv A outer s H E) rfl
  exact (dss_cons (ds_expr (de_bor (de_callF 1 0 C__check_torn hG (hr.mono (by decide)) rfl tk (dam_cons (de_varB (pv 1)) dam_nil))))
    (dss_one (ds_expr (de_bor (de_meth 1 0 M_Disk__cut hG (hr.mono (by decide)) tk (de_var (pv 0)) (dam_cons (de_callTy cd_list rfl T.n_list rfl (da_cons (by decide) (de_varB (pv 1)) da_nil)) dam_nil))))))
theorem sc__law_call_raw : FnScope ["_law_disk", "_law_which", "_law_one", "_law_two"] ["_law_disk", "_law_which", "_law_one", "_law_two"] (defScope (top 18)) := ⟨rfl, rfl, rfl, by decide +kernel, rfl, by decide +kernel, by decide +kernel⟩
theorem ok__law_call_raw {f : Addr} {fd : FuncData} (F : FunD K "_law_call_raw" "_law_call_raw" (defArgs (top 18)) (defBody (top 18)) (defScope (top 18)) [] [] f fd) (T : Fs K mg ca) (M_Disk_read : MetF P w K mg base ca "Disk" "read" 4 [true, false] .fre f_Disk_read d_Disk_read) (M_Disk_write : MetF P w K mg base ca "Disk" "write" 4 [true, true, false] .frz f_Disk_write d_Disk_write) (M_Disk_cut_power : MetF P w K mg base ca "Disk" "cut_power" 4 [true, false] .frz f_Disk_cut_power d_Disk_cut_power) :
    FnG P w K mg base 5 f fd ["_law_disk", "_law_which", "_law_one", "_law_two"] (spD K ca [true, false, true, false] .frz f__law_call_raw) := by
  have sc := sc__law_call_raw
  refine (show FnG P w K mg base 5 f fd ["_law_disk", "_law_which", "_law_one", "_law_two"] (spD K ca [true, false, true, false] .frz (semB [true, false, true, false] (["_law_disk", "_law_which", "_law_one", "_law_two"] : List Str).length b__law_call_raw)) from okD (ca := ca) (mr := .frz) (fb := b__law_call_raw) [true, false, true, false] F sc rfl (fun cdv A outer s H E hG hr => ?_) (.inl rfl))
  have tk : Takes (cxOf (CXP P w) P w K mg base ["_law_disk", "_law_which", "_law_one", "_law_two"] "_law_call_raw" (defScope (top 18)) f cdv A outer s H E) (fun cls d _ H => E cls d H) := takes_of rfl rfl rfl rfl
  have hp : PassesOwn (model P w) (A.deeper (envOfC "_law_call_raw" (defScope (top 18)) s.heap.objs.size f cdv)) (envOfC "_law_call_raw" (defScope (top 18)) s.heap.objs.size f cdv) (cxOf (CXP P w) P w K mg base ["_law_disk", "_law_which", "_law_one", "_law_two"] "_law_call_raw" (defScope (top 18)) f cdv A outer s H E).xe := passes_of (X := cxOf (CXP P w) P w K mg base ["_law_disk", "_law_which", "_law_one", "_law_two"] "_law_call_raw" (defScope (top 18)) f cdv A outer s H E) rfl
  exact (dss_cons (ds_if (dt_cmp (od_eq (Room.units hr)) (de_varB (pv 1)) de_int rfl) (dss_one (ds_ret (de_meth 2 0 M_Disk_write hG (hr.mono (by decide)) tk (de_var (pv 0)) (dam_cons (de_var (pv 2)) (dam_cons (de_varB (pv 3)) dam_nil))))) dss_nil)
    (dss_cons (ds_if (dt_cmp (od_eq (Room.units hr)) (de_varB (pv 1)) de_int rfl) (dss_one (ds_ret (de_meth 1 0 M_Disk_cut_power hG (hr.mono (by decide)) tk (de_var (pv 0)) (dam_cons (de_varB (pv 2)) dam_nil)))) dss_nil)
    (dss_one (ds_ret (de_frz (de_meth 1 0 M_Disk_read hG (hr.mono (by decide)) tk (de_var (pv 0)) (dam_cons (de_varB (pv 2)) dam_nil)))))))
theorem sc__law_refusal : FnScope ["_law_blocks", "e"] ["_law_blocks"] (defScope (top 20)) := ⟨rfl, rfl, rfl, by decide +kernel, rfl, by decide +kernel, by decide +kernel⟩
theorem ok__law_refusal {f : Addr} {fd : FuncData} (F : FunD K "_law_refusal" "_law_refusal" (defArgs (top 20)) (defBody (top 20)) (defScope (top 20)) [] [] f fd) (T : Fs K mg ca) (K_Disk : MakF P w K mg base ca "Disk" 3 [true, false] f_Disk___init__ d_Disk___init__) :
    FnG P w K mg base 5 f fd ["_law_blocks"] (spD K ca [false] .frz f__law_refusal) := by
  have sc := sc__law_refusal
  refine (show FnG P w K mg base 5 f fd ["_law_blocks"] (spD K ca [false] .frz (semB [false] (["_law_blocks", "e"] : List Str).length b__law_refusal)) from okD (ca := ca) (mr := .frz) (fb := b__law_refusal) [false] F sc rfl (fun cdv A outer s H E hG hr => ?_) (.inl rfl))
  have tk : Takes (cxOf (CXP P w) P w K mg base ["_law_blocks", "e"] "_law_refusal" (defScope (top 20)) f cdv A outer s H E) (fun cls d _ H => E cls d H) := takes_of rfl rfl rfl rfl
  have hp : PassesOwn (model P w) (A.deeper (envOfC "_law_refusal" (defScope (top 20)) s.heap.objs.size f cdv)) (envOfC "_law_refusal" (defScope (top 20)) s.heap.objs.size f cdv) (cxOf (CXP P w) P w K mg base ["_law_blocks", "e"] "_law_refusal" (defScope (top 20)) f cdv A outer s H E).xe := passes_of (X := cxOf (CXP P w) P w K mg base ["_law_blocks", "e"] "_law_refusal" (defScope (top 20)) f cdv A outer s H E) rfl
  exact (dss_cons (ds_tryAsF (i := 1) sc.nd rfl T.t_OutOfRange tk (fun _ _ _ tk1 hp1 => (dss_one (ds_expr (de_make 1 0 K_Disk hG (hr.mono (by decide)) rfl tk1 (dam_cons (de_varB (pv 0)) dam_nil))))) (fun _ _ _ _ _ hz hf => (dss_one (ds_ret (de_xf hz hf (pv 1) T.x_name)))))
    (dss_one (ds_ret de_str)))
theorem sc__law_call : FnScope ["_law_disk", "_law_which", "_law_one", "_law_two", "_law_told", "e"] ["_law_disk", "_law_which", "_law_one", "_law_two"] (defScope (top 19)) := ⟨rfl, rfl, rfl, by decide +kernel, rfl, by decide +kernel, by decide +kernel⟩
theorem ok__law_call {f : Addr} {fd : FuncData} (F : FunD K "_law_call" "_law_call" (defArgs (top 19)) (defBody (top 19)) (defScope (top 19)) [] [] f fd) (T : Fs K mg ca) (C__law_call_raw : CalF P w K mg base ca "_law_call_raw" 5 [true, false, true, false] .frz f__law_call_raw d__law_call_raw []) :
    FnG P w K mg base 6 f fd ["_law_disk", "_law_which", "_law_one", "_law_two"] (spD K ca [true, false, true, false] .frz f__law_call) := by
  have sc := sc__law_call
  refine (show FnG P w K mg base 6 f fd ["_law_disk", "_law_which", "_law_one", "_law_two"] (spD K ca [true, false, true, false] .frz (semB [true, false, true, false] (["_law_disk", "_law_which", "_law_one", "_law_two", "_law_told", "e"] : List Str).length b__law_call)) from okD (ca := ca) (mr := .frz) (fb := b__law_call) [true, false, true, false] F sc rfl (fun cdv A outer s H E hG hr => ?_) (.inl rfl))
  have tk : Takes (cxOf (CXP P w) P w K mg base ["_law_disk", "_law_which", "_law_one", "_law_two", "_law_told", "e"] "_law_call" (defScope (top 19)) f cdv A outer s H E) (fun cls d _ H => E cls d H) := takes_of rfl rfl rfl rfl
  have hp : PassesOwn (model P w) (A.deeper (envOfC "_law_call" (defScope (top 19)) s.heap.objs.size f cdv)) (envOfC "_law_call" (defScope (top 19)) s.heap.objs.size f cdv) (cxOf (CXP P w) P w K mg base ["_law_disk", "_law_which", "_law_one", "_law_two", "_law_told", "e"] "_law_call" (defScope (top 19)) f cdv A outer s H E).xe := passes_of (X := cxOf (CXP P w) P w K mg base ["_law_disk", "_law_which", "_law_one", "_law_two", "_law_told", "e"] "_law_call" (defScope (top 19)) f cdv A outer s H E) rfl
  exact (dss_cons (ds_tryMF sc.nd tk (fun _ _ _ tk1 hp1 => (dss_one (ds_set (i := 4) sc.nd rfl (.inl rfl) (de_callF 4 0 C__law_call_raw hG (hr.mono (by decide)) rfl tk1 (dam_cons (de_var (pv 0)) (dam_cons (de_varB (pv 1)) (dam_cons (de_var (pv 2)) (dam_cons (de_varB (pv 3)) dam_nil)))))))) (mx_named (i := 5) rfl T.t_OutOfRange (fun _ _ _ _ _ hz hf => (dss_one (ds_ret (de_tup (da_cons (by decide) de_str (da_cons (by decide) (de_xf hz hf (pv 5) T.x_name) da_nil)))))) (mx_plain T.t_FarError (fun _ _ _ _ _ hz hf => (dss_one (ds_ret (de_tup (da_cons (by decide) de_str (da_cons (by decide) de_str da_nil)))))) mx_nil)))
    (dss_one (ds_ret (de_var (pv 4)))))
theorem sc__law_wrong : FnScope ["_law_box", "_law_disk", "_law_size", "_law_bad"] ["_law_box", "_law_disk", "_law_size"] (defScope (top 22)) := ⟨rfl, rfl, rfl, by decide +kernel, rfl, by decide +kernel, by decide +kernel⟩
theorem ok__law_wrong {f : Addr} {fd : FuncData} (F : FunD K "_law_wrong" "_law_wrong" (defArgs (top 22)) (defBody (top 22)) (defScope (top 22)) [] [] f fd) (T : Fs K mg ca) (C__law_draw : CalF P w K mg base ca "_law_draw" 1 [true, false] .frz f__law_draw d__law_draw []) (C__law_call : CalF P w K mg base ca "_law_call" 6 [true, false, true, false] .frz f__law_call d__law_call []) :
    FnG P w K mg base 7 f fd ["_law_box", "_law_disk", "_law_size"] (spD K ca [true, true, true] .frz f__law_wrong) := by
  have sc := sc__law_wrong
  refine (show FnG P w K mg base 7 f fd ["_law_box", "_law_disk", "_law_size"] (spD K ca [true, true, true] .frz (semB [true, true, true] (["_law_box", "_law_disk", "_law_size", "_law_bad"] : List Str).length b__law_wrong)) from okD (ca := ca) (mr := .frz) (fb := b__law_wrong) [true, true, true] F sc rfl (fun cdv A outer s H E hG hr => ?_) (.inl rfl))
  have tk : Takes (cxOf (CXP P w) P w K mg base ["_law_box", "_law_disk", "_law_size", "_law_bad"] "_law_wrong" (defScope (top 22)) f cdv A outer s H E) (fun cls d _ H => E cls d H) := takes_of rfl rfl rfl rfl
  have hp : PassesOwn (model P w) (A.deeper (envOfC "_law_wrong" (defScope (top 22)) s.heap.objs.size f cdv)) (envOfC "_law_wrong" (defScope (top 22)) s.heap.objs.size f cdv) (cxOf (CXP P w) P w K mg base ["_law_box", "_law_disk", "_law_size", "_law_bad"] "_law_wrong" (defScope (top 22)) f cdv A outer s H E).xe := passes_of (X := cxOf (CXP P w) P w K mg base ["_law_box", "_law_disk", "_law_size", "_law_bad"] "_law_wrong" (defScope (top 22)) f cdv A outer s H E) rfl
  exact (dss_cons (ds_set (i := 3) sc.nd rfl (.inl rfl) (de_ix (by decide) (de_lst (da_cons (by decide) (de_bin od_mul (de_lst (da_cons (by decide) de_int da_nil)) de_int) (da_cons (by decide) (de_bin od_mul (de_lst (da_cons (by decide) de_int da_nil)) de_int) (da_cons (by decide) (de_bin od_add (de_bin od_mul (de_lst (da_cons (by decide) de_int da_nil)) de_int) (de_lst (da_cons (by decide) de_int da_nil))) (da_cons (by decide) (de_bin od_add (de_lst (da_cons (by decide) (de_bin od_sub de_int de_int) da_nil)) (de_bin od_mul (de_lst (da_cons (by decide) de_int da_nil)) de_int)) da_nil))))) (de_bor (de_callF 2 0 C__law_draw hG (hr.mono (by decide)) rfl tk (dam_cons (de_var (pv 0)) (dam_cons de_int dam_nil))))))
    (dss_cons (ds_if (PW.pt (dw_or (dt_cmp (od_ne (Room.units hr)) (de_bor (de_callF 4 0 C__law_call hG (hr.mono (by decide)) rfl tk (dam_cons (de_var (pv 1)) (dam_cons de_int (dam_cons (de_ix (by decide) (de_lst (da_cons (by decide) (de_bin od_sub de_int de_int) (da_cons (by decide) (de_var (pv 2)) da_nil))) (de_bor (de_callF 2 0 C__law_draw hG (hr.mono (by decide)) rfl tk (dam_cons (de_var (pv 0)) (dam_cons de_int dam_nil))))) (dam_cons (de_varB (pv 3)) dam_nil)))))) (de_tup (da_cons (by decide) de_str (da_cons (by decide) de_str da_nil))) rfl) (dw_one (dt_cmp (od_ne (Room.units hr)) (de_bor (de_callF 4 0 C__law_call hG (hr.mono (by decide)) rfl tk (dam_cons (de_var (pv 1)) (dam_cons de_int (dam_cons (de_bin od_sub (de_varB (pv 2)) de_int) (dam_cons (de_varB (pv 3)) dam_nil)))))) (de_tup (da_cons (by decide) de_str (da_cons (by decide) de_str da_nil))) rfl)))) (dss_one (ds_ret de_bl)) dss_nil)
    (dss_cons (ds_if (PW.pt (dw_or (dt_cmp (od_ne (Room.units hr)) (de_bor (de_callF 4 0 C__law_call hG (hr.mono (by decide)) rfl tk (dam_cons (de_var (pv 1)) (dam_cons de_int (dam_cons (de_lst (da_cons (by decide) de_int (da_cons (by decide) de_int da_nil))) (dam_cons de_int dam_nil)))))) (de_tup (da_cons (by decide) de_str (da_cons (by decide) de_str da_nil))) rfl) (dw_one (dt_cmp (od_ne (Room.units hr)) (de_bor (de_callF 4 0 C__law_call hG (hr.mono (by decide)) rfl tk (dam_cons (de_var (pv 1)) (dam_cons de_int (dam_cons (de_lst (da_cons (by decide) (de_bin od_sub de_int de_int) da_nil)) (dam_cons de_int dam_nil)))))) (de_tup (da_cons (by decide) de_str (da_cons (by decide) de_str da_nil))) rfl)))) (dss_one (ds_ret de_bl)) dss_nil)
    (dss_one (ds_ret (de_cmp (od_eq (Room.units hr)) (de_bor (de_callF 4 0 C__law_call hG (hr.mono (by decide)) rfl tk (dam_cons (de_var (pv 1)) (dam_cons de_int (dam_cons (de_ix (by decide) (de_lst (da_cons (by decide) (de_bin od_sub de_int de_int) (da_cons (by decide) (de_var (pv 2)) da_nil))) (de_bor (de_callF 2 0 C__law_draw hG (hr.mono (by decide)) rfl tk (dam_cons (de_var (pv 0)) (dam_cons de_int dam_nil))))) (dam_cons de_int dam_nil)))))) (de_tup (da_cons (by decide) de_str (da_cons (by decide) de_str da_nil))) rfl))))))
theorem sc_law : FnScope ["_law_script", "_law_box", "_law_size", "_law_disk", "_law_blocks", "_law_pending", "_law_cuts", "_law_turn", "_law_kind", "_law_entry", "_law_torn_here", "_law_k", "_law_at", "_law_block_here", "_law_handed", "_law_place", "_law_told", "_law_far"] ["_law_script"] (defScope (top 23)) := ⟨rfl, rfl, rfl, by decide +kernel, rfl, by decide +kernel, by decide +kernel⟩
theorem ok_law {f : Addr} {fd : FuncData} (F : FunD K "law" "law" (defArgs (top 23)) (defBody (top 23)) (defScope (top 23)) [] [] f fd) (T : Fs K mg ca) (C__law_draw : CalF P w K mg base ca "_law_draw" 1 [true, false] .frz f__law_draw d__law_draw []) (C__law_read : CalF P w K mg base ca "_law_read" 1 [false, false, false] .frz f__law_read d__law_read []) (M_Disk_size : MetF P w K mg base ca "Disk" "size" 1 [true] .frz f_Disk_size d_Disk_size) (M_Disk_pending_count : MetF P w K mg base ca "Disk" "pending_count" 1 [true] .frz f_Disk_pending_count d_Disk_pending_count) (M_Disk_cut_count : MetF P w K mg base ca "Disk" "cut_count" 1 [true] .frz f_Disk_cut_count d_Disk_cut_count) (C__law_digits : CalF P w K mg base ca "_law_digits" 2 [false, false, false] .frz f__law_digits d__law_digits []) (C__law_torn : CalF P w K mg base ca "_law_torn" 2 [true, false] .frz f__law_torn d__law_torn []) (C__law_block : CalF P w K mg base ca "_law_block" 2 [true] .frz f__law_block d__law_block []) (K_Disk : MakF P w K mg base ca "Disk" 3 [true, false] f_Disk___init__ d_Disk___init__) (M_Disk_read : MetF P w K mg base ca "Disk" "read" 4 [true, false] .fre f_Disk_read d_Disk_read) (M_Disk_flush : MetF P w K mg base ca "Disk" "flush" 4 [true] .frz f_Disk_flush d_Disk_flush) (C__law_refusal : CalF P w K mg base ca "_law_refusal" 5 [false] .frz f__law_refusal d__law_refusal []) (C__law_call : CalF P w K mg base ca "_law_call" 6 [true, false, true, false] .frz f__law_call d__law_call []) (C__law_wrong : CalF P w K mg base ca "_law_wrong" 7 [true, true, true] .frz f__law_wrong d__law_wrong []) :
    FnG P w K mg base 8 f fd ["_law_script"] (spD K ca [true] .frz f_law) := by
  have sc := sc_law
  refine (show FnG P w K mg base 8 f fd ["_law_script"] (spD K ca [true] .frz (semB [true] (["_law_script", "_law_box", "_law_size", "_law_disk", "_law_blocks", "_law_pending", "_law_cuts", "_law_turn", "_law_kind", "_law_entry", "_law_torn_here", "_law_k", "_law_at", "_law_block_here", "_law_handed", "_law_place", "_law_told", "_law_far"] : List Str).length b_law)) from okD (ca := ca) (mr := .frz) (fb := b_law) [true] F sc rfl (fun cdv A outer s H E hG hr => ?_) (.inl rfl))
  have tk : Takes (cxOf (CXP P w) P w K mg base ["_law_script", "_law_box", "_law_size", "_law_disk", "_law_blocks", "_law_pending", "_law_cuts", "_law_turn", "_law_kind", "_law_entry", "_law_torn_here", "_law_k", "_law_at", "_law_block_here", "_law_handed", "_law_place", "_law_told", "_law_far"] "law" (defScope (top 23)) f cdv A outer s H E) (fun cls d _ H => E cls d H) := takes_of rfl rfl rfl rfl
  have hp : PassesOwn (model P w) (A.deeper (envOfC "law" (defScope (top 23)) s.heap.objs.size f cdv)) (envOfC "law" (defScope (top 23)) s.heap.objs.size f cdv) (cxOf (CXP P w) P w K mg base ["_law_script", "_law_box", "_law_size", "_law_disk", "_law_blocks", "_law_pending", "_law_cuts", "_law_turn", "_law_kind", "_law_entry", "_law_torn_here", "_law_k", "_law_at", "_law_block_here", "_law_handed", "_law_place", "_law_told", "_law_far"] "law" (defScope (top 23)) f cdv A outer s H E).xe := passes_of (X := cxOf (CXP P w) P w K mg base ["_law_script", "_law_box", "_law_size", "_law_disk", "_law_blocks", "_law_pending", "_law_cuts", "_law_turn", "_law_kind", "_law_entry", "_law_torn_here", "_law_k", "_law_at", "_law_block_here", "_law_handed", "_law_place", "_law_told", "_law_far"] "law" (defScope (top 23)) f cdv A outer s H E) rfl
  exact (dss_cons (ds_set (i := 1) sc.nd rfl (.inl rfl) (de_obj (de_lst (da_cons (by decide) (de_callF 3 0 C__law_digits hG (hr.mono (by decide)) rfl tk (dam_cons (de_varB (pv 0)) (dam_cons de_int (dam_cons de_int dam_nil)))) (da_cons (by decide) de_int da_nil)))))
    (dss_cons (ds_set (i := 2) sc.nd rfl (.inl rfl) (de_bin od_add de_int (de_bor (de_callF 2 0 C__law_draw hG (hr.mono (by decide)) rfl tk (dam_cons (de_var (pv 1)) (dam_cons de_int dam_nil))))))
    (dss_cons (ds_if (dt_cmp (od_eq (Room.units hr)) (de_bor (de_callF 2 0 C__law_draw hG (hr.mono (by decide)) rfl tk (dam_cons (de_var (pv 1)) (dam_cons de_int dam_nil)))) de_int rfl) (dss_one (ds_set (i := 2) sc.nd rfl (.inl rfl) de_int)) dss_nil)
    (dss_cons (ds_set (i := 3) sc.nd rfl (.inl rfl) (de_make 1 0 K_Disk hG (hr.mono (by decide)) rfl tk (dam_cons (de_varB (pv 2)) dam_nil)))
    (dss_cons (ds_setOwnLc (i := 4) (own := [("_law_k", 11)]) rfl sc.nd rfl rfl (sw_true rfl rfl rfl (by decide +kernel)) (di_range1 rfl T.n_range (da_cons (by decide) (de_var (pv 2)) da_nil) (len_cons len_nil)) (blkOk_by (N := ["_law_script", "_law_box", "_law_size", "_law_disk", "_law_blocks", "_law_pending", "_law_cuts", "_law_turn", "_law_kind", "_law_entry", "_law_torn_here", "_law_k", "_law_at", "_law_block_here", "_law_handed", "_law_place", "_law_told", "_law_far"]) (sc := defScope (top 23)) (by decide +kernel)) (fun _ _ _ _ _ => (dgw_name (i := 11) sc.nd rfl (.inl rfl) (by decide))) (fun _ _ _ _ _ => dts_nil) (fun _ _ _ _ _ => (de_bin od_mul (de_lst (da_cons (by decide) de_int da_nil)) de_int)))
    (dss_cons (ds_setOwn (i := 5) sc.nd rfl (.inl rfl) (de_lst da_nil))
    (dss_cons (ds_set (i := 6) sc.nd rfl (.inl rfl) de_int)
    (dss_cons (ds_for hp rfl (di_range1 rfl T.n_range (da_cons (by decide) (de_callB (cd_min rfl) rfl T.n_min rfl (da_cons (by decide) (de_callB (cd_max rfl) rfl T.n_max rfl (da_cons (by decide) de_int (da_cons (by decide) (de_bin od_sub (de_callB cd_len rfl T.n_len rfl (da_cons (by decide) (de_varB (pv 0)) da_nil)) de_int) da_nil))) (da_cons (by decide) de_int da_nil))) da_nil) (len_cons len_nil)) (dg_name (i := 7) sc.nd rfl (.inl rfl)) (dss_cons (ds_set (i := 8) sc.nd rfl (.inl rfl) (de_callF 2 0 C__law_draw hG (hr.mono (by decide)) rfl tk (dam_cons (de_var (pv 1)) (dam_cons de_int dam_nil))))
    (dss_cons (ds_if (dt_cmp (od_eq (Room.units hr)) (de_varB (pv 8)) de_int rfl) (dss_cons (ds_if (dt_notN (de_bor (de_meth0 M_Disk_flush hG (hr.mono (by decide)) tk (de_var (pv 3))))) (dss_one (ds_ret de_bl)) dss_nil)
    (dss_cons (ds_fz 5 (ds_for hp rfl (di_seq (de_varS (pv 5))) (dg_name (i := 9) sc.nd rfl (.inl rfl)) (dss_one (ds_setIx (pv 4) (de_ix (by decide) (de_varB (pv 9)) de_int) (de_ix (by decide) (de_varB (pv 9)) de_int)))))
    (dss_one (ds_setOwn (i := 5) sc.nd rfl (.inl rfl) (de_lst da_nil))))) (dss_one (ds_if (dt_cmp (od_eq (Room.units hr)) (de_varB (pv 8)) de_int rfl) (dss_cons (ds_set (i := 10) sc.nd rfl (.inl rfl) (de_callF 2 0 C__law_torn hG (hr.mono (by decide)) rfl tk (dam_cons (de_var (pv 1)) (dam_cons (de_bor (de_callF 2 0 C__law_draw hG (hr.mono (by decide)) rfl tk (dam_cons (de_var (pv 1)) (dam_cons (de_bin od_add (de_callB cd_len rfl T.n_len rfl (da_cons (by decide) (de_varB (pv 5)) da_nil)) de_int) dam_nil)))) dam_nil))))
    (dss_cons (ds_if (dt_notN (de_bor (de_callF 4 0 C__law_call hG (hr.mono (by decide)) rfl tk (dam_cons (de_var (pv 3)) (dam_cons de_int (dam_cons (de_callTy cd_list rfl T.n_list rfl (da_cons (by decide) (de_varB (pv 10)) da_nil)) (dam_cons de_int dam_nil))))))) (dss_one (ds_ret de_bl)) dss_nil)
    (dss_cons (ds_for hp rfl (di_range1 rfl T.n_range (da_cons (by decide) (de_callB (cd_min rfl) rfl T.n_min rfl (da_cons (by decide) (de_callB cd_len rfl T.n_len rfl (da_cons (by decide) (de_varB (pv 10)) da_nil)) (da_cons (by decide) (de_callB cd_len rfl T.n_len rfl (da_cons (by decide) (de_varB (pv 5)) da_nil)) da_nil))) da_nil) (len_cons len_nil)) (dg_name (i := 11) sc.nd rfl (.inl rfl)) (dss_cons (ds_set (i := 12) sc.nd rfl (.inl rfl) (de_ix (by decide) (de_ix (by decide) (de_varB (pv 5)) (de_varB (pv 11))) de_int))
    (dss_one (ds_setIx (pv 4) (de_var (pv 12)) (de_bin od_add (de_slice (de_ix (by decide) (de_ix (by decide) (de_varB (pv 5)) (de_varB (pv 11))) de_int) do_none (do_some (de_ix (by decide) (de_varB (pv 10)) (de_varB (pv 11))))) (de_slice (de_ix (by decide) (de_varB (pv 4)) (de_varB (pv 12))) (do_some (de_ix (by decide) (de_varB (pv 10)) (de_varB (pv 11)))) do_none))))))
    (dss_cons (ds_setOwn (i := 5) sc.nd rfl (.inl rfl) (de_lst da_nil))
    (dss_one (ds_set (i := 6) sc.nd rfl (.inl rfl) (de_bin od_add (de_varB (pv 6)) de_int))))))) (dss_one (ds_if (dt_cmp (od_eq (Room.units hr)) (de_varB (pv 8)) de_int rfl) (dss_one (ds_if (dt_not (dt_val (de_bor (de_callF 3 0 C__law_wrong hG (hr.mono (by decide)) rfl tk (dam_cons (de_var (pv 1)) (dam_cons (de_var (pv 3)) (dam_cons (de_var (pv 2)) dam_nil))))))) (dss_one (ds_ret de_bl)) dss_nil)) (dss_cons (ds_set (i := 12) sc.nd rfl (.inl rfl) (de_callF 2 0 C__law_draw hG (hr.mono (by decide)) rfl tk (dam_cons (de_var (pv 1)) (dam_cons (de_varB (pv 2)) dam_nil))))
    (dss_cons (ds_set (i := 13) sc.nd rfl (.inl rfl) (de_callF 1 0 C__law_block hG (hr.mono (by decide)) rfl tk (dam_cons (de_var (pv 1)) dam_nil)))
    (dss_cons (ds_setOwn (i := 14) sc.nd rfl (.inl rfl) (de_callTy cd_list rfl T.n_list rfl (da_cons (by decide) (de_varB (pv 13)) da_nil)))
    (dss_cons (ds_if (PW.pt (dw_or (dt_notN (de_bor (de_callF 4 0 C__law_call hG (hr.mono (by decide)) rfl tk (dam_cons (de_var (pv 3)) (dam_cons de_int (dam_cons (de_var (pv 12)) (dam_cons (de_varB (pv 14)) dam_nil))))))) (dw_one (dt_cmp (od_ne (Room.units hr)) (de_varB (pv 14)) (de_varB (pv 13)) rfl)))) (dss_one (ds_ret de_bl)) dss_nil)
    (dss_cons (ds_setIx (pv 14) de_int (de_bin od_sub de_int (de_ix (by decide) (de_varB (pv 14)) de_int)))
    (dss_one (ds_mut PySem.F.plainAttrs_list PySem.F.slot_list_append PySem.F.type_list_append mu_append (pv 5) (da_cons (by decide) (de_lst (da_cons (by decide) (de_var (pv 12)) (da_cons (by decide) (de_var (pv 13)) da_nil))) da_nil)))))))))))))
    (dss_cons (ds_set (i := 12) sc.nd rfl (.inl rfl) (de_callF 2 0 C__law_draw hG (hr.mono (by decide)) rfl tk (dam_cons (de_var (pv 1)) (dam_cons (de_varB (pv 2)) dam_nil))))
    (dss_cons (ds_for hp rfl (di_seq (de_lst (da_cons (by decide) de_int (da_cons (by decide) (de_var (pv 12)) (da_cons (by decide) (de_bin od_sub (de_varB (pv 2)) de_int) da_nil))))) (dg_name (i := 15) sc.nd rfl (.inl rfl)) (dss_cons (ds_setOwn (i := 16) sc.nd rfl (.inl rfl) (de_meth 1 0 M_Disk_read hG (hr.mono (by decide)) tk (de_var (pv 3)) (dam_cons (de_varB (pv 15)) dam_nil)))
    (dss_cons (ds_if (PW.pt (dw_or (dt_not (dt_val (de_isB (de_varB (pv 16)) rfl T.n_isinstance rfl T.n_list rfl))) (dw_one (dt_cmp (od_ne (Room.units hr)) (de_varB (pv 16)) (de_bor (de_callF 3 0 C__law_read hG (hr.mono (by decide)) rfl tk (dam_cons (de_varB (pv 4)) (dam_cons (de_varB (pv 5)) (dam_cons (de_varB (pv 15)) dam_nil))))) rfl)))) (dss_one (ds_ret de_bl)) dss_nil)
    (dss_one (ds_setIx (pv 16) de_int de_int)))))
    (dss_one (ds_if (PW.pt (dw_or (dt_cmp (od_ne (Room.units hr)) (de_bor (de_meth0 M_Disk_pending_count hG (hr.mono (by decide)) tk (de_var (pv 3)))) (de_callB cd_len rfl T.n_len rfl (da_cons (by decide) (de_varB (pv 5)) da_nil)) rfl) (dw_or (dt_cmp (od_ne (Room.units hr)) (de_bor (de_meth0 M_Disk_cut_count hG (hr.mono (by decide)) tk (de_var (pv 3)))) (de_varB (pv 6)) rfl) (dw_one (dt_cmp (od_ne (Room.units hr)) (de_bor (de_meth0 M_Disk_size hG (hr.mono (by decide)) tk (de_var (pv 3)))) (de_varB (pv 2)) rfl))))) (dss_one (ds_ret de_bl)) dss_nil)))))))
    (dss_cons (ds_set (i := 17) sc.nd rfl (.inl rfl) (de_callF 2 0 C__law_draw hG (hr.mono (by decide)) rfl tk (dam_cons (de_var (pv 1)) (dam_cons de_int dam_nil))))
    (dss_cons (ds_if (dt_cmp (od_ne (Room.units hr)) (de_tup (da_cons (by decide) (de_gl T.g_BLOCK) (da_cons (by decide) (de_gl T.g_BLOCKS_MOST) da_nil))) (de_tup (da_cons (by decide) de_int (da_cons (by decide) de_int da_nil))) rfl) (dss_one (ds_ret de_bl)) dss_nil)
    (dss_one (ds_ret (de_and (de_cmp (od_eq (Room.units hr)) (de_bor (de_callF 1 0 C__law_refusal hG (hr.mono (by decide)) rfl tk (dam_cons (de_bin od_sub de_int (de_varB (pv 17))) dam_nil))) de_str rfl) (de_and (de_cmp (od_eq (Room.units hr)) (de_bor (de_callF 1 0 C__law_refusal hG (hr.mono (by decide)) rfl tk (dam_cons (de_bin od_add de_int (de_varB (pv 17))) dam_nil))) de_str rfl) (de_one (de_cmp (od_eq (Room.units hr)) (de_bor (de_callF 1 0 C__law_refusal hG (hr.mono (by decide)) rfl tk (dam_cons de_int dam_nil))) de_str rfl))))))))))))))))
end
section
theorem fin {P : Program} {w : World} {mg : Str → Option Value} {fa : Addr} {h : Heap} {K : PySem.W.Frag} (X : K.In h) (G : h.Ns mainGlobals mg) (hfa : mg "law" = some (.ref fa))
    {tk_gBLOCK : Tok}
    {tk_gBLOCKS_LEAST : Tok}
    {tk_gBLOCKS_MOST : Tok}
    {C_FarError : Addr}
    {C_OutOfRange : Addr}
    {ad_OutOfRange N_OutOfRange : Addr}
    {nm_OutOfRange qn_OutOfRange : Str}
    {bs_OutOfRange bm_OutOfRange sub_OutOfRange : List Value}
    {sn_OutOfRange : List Str}
    {ab_OutOfRange : Bool}
    {col_OutOfRange : Option Bool}
    {dd_OutOfRange od_OutOfRange an_OutOfRange : Option Addr}
    {m0_OutOfRange m1_OutOfRange m2_OutOfRange m3_OutOfRange m5_OutOfRange : Option Value}
    {oc_OutOfRange kV_OutOfRange dc_OutOfRange pm_OutOfRange cd_OutOfRange ct_OutOfRange : Value}
    {sl_OutOfRange : Array (Option Value)}
    {C_PowerCut : Addr}
    {C_Disk : Addr}
    {ad__wall : Addr}
    {od__wall an__wall : Option Addr}
    {oc__wall kV__wall dc__wall pm__wall cd__wall ct__wall : Value}
    {sl__wall : Array (Option Value)}
    {ad__is_block : Addr}
    {od__is_block an__is_block : Option Addr}
    {oc__is_block kV__is_block dc__is_block pm__is_block cd__is_block ct__is_block : Value}
    {sl__is_block : Array (Option Value)}
    {ad__law_cell : Addr}
    {od__law_cell an__law_cell : Option Addr}
    {oc__law_cell kV__law_cell dc__law_cell pm__law_cell cd__law_cell ct__law_cell : Value}
    {sl__law_cell : Array (Option Value)}
    {ad__law_draw : Addr}
    {od__law_draw an__law_draw : Option Addr}
    {oc__law_draw kV__law_draw dc__law_draw pm__law_draw cd__law_draw ct__law_draw : Value}
    {sl__law_draw : Array (Option Value)}
    {ad__law_read : Addr}
    {od__law_read an__law_read : Option Addr}
    {oc__law_read kV__law_read dc__law_read pm__law_read cd__law_read ct__law_read : Value}
    {sl__law_read : Array (Option Value)}
    {ad_Disk_size : Addr}
    {od_Disk_size an_Disk_size : Option Addr}
    {oc_Disk_size kV_Disk_size dc_Disk_size pm_Disk_size cd_Disk_size ct_Disk_size : Value}
    {sl_Disk_size : Array (Option Value)}
    {ad_Disk__cut : Addr}
    {od_Disk__cut an_Disk__cut : Option Addr}
    {oc_Disk__cut kV_Disk__cut dc_Disk__cut pm_Disk__cut cd_Disk__cut ct_Disk__cut : Value}
    {sl_Disk__cut : Array (Option Value)}
    {ad_Disk_pending_count : Addr}
    {od_Disk_pending_count an_Disk_pending_count : Option Addr}
    {oc_Disk_pending_count kV_Disk_pending_count dc_Disk_pending_count pm_Disk_pending_count cd_Disk_pending_count ct_Disk_pending_count : Value}
    {sl_Disk_pending_count : Array (Option Value)}
    {ad_Disk_cut_count : Addr}
    {od_Disk_cut_count an_Disk_cut_count : Option Addr}
    {oc_Disk_cut_count kV_Disk_cut_count dc_Disk_cut_count pm_Disk_cut_count cd_Disk_cut_count ct_Disk_cut_count : Value}
    {sl_Disk_cut_count : Array (Option Value)}
    {ad__law_digits : Addr}
    {od__law_digits an__law_digits : Option Addr}
    {oc__law_digits kV__law_digits dc__law_digits pm__law_digits cd__law_digits ct__law_digits : Value}
    {sl__law_digits : Array (Option Value)}
    {ad__law_torn : Addr}
    {od__law_torn an__law_torn : Option Addr}
    {oc__law_torn kV__law_torn dc__law_torn pm__law_torn cd__law_torn ct__law_torn : Value}
    {sl__law_torn : Array (Option Value)}
    {ad__law_block : Addr}
    {od__law_block an__law_block : Option Addr}
    {oc__law_block kV__law_block dc__law_block pm__law_block cd__law_block ct__law_block : Value}
    {sl__law_block : Array (Option Value)}
    {ad_Disk_schedule_cut : Addr}
    {od_Disk_schedule_cut an_Disk_schedule_cut : Option Addr}
    {oc_Disk_schedule_cut kV_Disk_schedule_cut dc_Disk_schedule_cut pm_Disk_schedule_cut cd_Disk_schedule_cut ct_Disk_schedule_cut : Value}
    {sl_Disk_schedule_cut : Array (Option Value)}
    {ad__check_torn : Addr}
    {od__check_torn an__check_torn : Option Addr}
    {oc__check_torn kV__check_torn dc__check_torn pm__check_torn cd__check_torn ct__check_torn : Value}
    {sl__check_torn : Array (Option Value)}
    {ad_Disk___init__ : Addr}
    {od_Disk___init__ an_Disk___init__ : Option Addr}
    {oc_Disk___init__ kV_Disk___init__ dc_Disk___init__ pm_Disk___init__ cd_Disk___init__ ct_Disk___init__ : Value}
    {sl_Disk___init__ : Array (Option Value)}
    {ad_Disk__check_at : Addr}
    {od_Disk__check_at an_Disk__check_at : Option Addr}
    {oc_Disk__check_at kV_Disk__check_at dc_Disk__check_at pm_Disk__check_at cd_Disk__check_at ct_Disk__check_at : Value}
    {sl_Disk__check_at : Array (Option Value)}
    {ad_Disk__spend : Addr}
    {od_Disk__spend an_Disk__spend : Option Addr}
    {oc_Disk__spend kV_Disk__spend dc_Disk__spend pm_Disk__spend cd_Disk__spend ct_Disk__spend : Value}
    {sl_Disk__spend : Array (Option Value)}
    {ad_Disk_read : Addr}
    {od_Disk_read an_Disk_read : Option Addr}
    {oc_Disk_read kV_Disk_read dc_Disk_read pm_Disk_read cd_Disk_read ct_Disk_read : Value}
    {sl_Disk_read : Array (Option Value)}
    {ad_Disk_write : Addr}
    {od_Disk_write an_Disk_write : Option Addr}
    {oc_Disk_write kV_Disk_write dc_Disk_write pm_Disk_write cd_Disk_write ct_Disk_write : Value}
    {sl_Disk_write : Array (Option Value)}
    {ad_Disk_flush : Addr}
    {od_Disk_flush an_Disk_flush : Option Addr}
    {oc_Disk_flush kV_Disk_flush dc_Disk_flush pm_Disk_flush cd_Disk_flush ct_Disk_flush : Value}
    {sl_Disk_flush : Array (Option Value)}
    {ad_Disk_cut_power : Addr}
    {od_Disk_cut_power an_Disk_cut_power : Option Addr}
    {oc_Disk_cut_power kV_Disk_cut_power dc_Disk_cut_power pm_Disk_cut_power cd_Disk_cut_power ct_Disk_cut_power : Value}
    {sl_Disk_cut_power : Array (Option Value)}
    {ad__law_call_raw : Addr}
    {od__law_call_raw an__law_call_raw : Option Addr}
    {oc__law_call_raw kV__law_call_raw dc__law_call_raw pm__law_call_raw cd__law_call_raw ct__law_call_raw : Value}
    {sl__law_call_raw : Array (Option Value)}
    {ad__law_refusal : Addr}
    {od__law_refusal an__law_refusal : Option Addr}
    {oc__law_refusal kV__law_refusal dc__law_refusal pm__law_refusal cd__law_refusal ct__law_refusal : Value}
    {sl__law_refusal : Array (Option Value)}
    {ad__law_call : Addr}
    {od__law_call an__law_call : Option Addr}
    {oc__law_call kV__law_call dc__law_call pm__law_call cd__law_call ct__law_call : Value}
    {sl__law_call : Array (Option Value)}
    {ad__law_wrong : Addr}
    {od__law_wrong an__law_wrong : Option Addr}
    {oc__law_wrong kV__law_wrong dc__law_wrong pm__law_wrong cd__law_wrong ct__law_wrong : Value}
    {sl__law_wrong : Array (Option Value)}
    {ad_law : Addr}
    {od_law an_law : Option Addr}
    {oc_law kV_law dc_law pm_law cd_law ct_law : Value}
    {sl_law : Array (Option Value)}
    (z_enumerate : PySem.W.nsIn K mainGlobals "enumerate" = some none)
    (z_int : PySem.W.nsIn K mainGlobals "int" = some none)
    (z_isinstance : PySem.W.nsIn K mainGlobals "isinstance" = some none)
    (z_len : PySem.W.nsIn K mainGlobals "len" = some none)
    (z_list : PySem.W.nsIn K mainGlobals "list" = some none)
    (z_max : PySem.W.nsIn K mainGlobals "max" = some none)
    (z_min : PySem.W.nsIn K mainGlobals "min" = some none)
    (z_range : PySem.W.nsIn K mainGlobals "range" = some none)
    (g_BLOCK : PySem.W.nsIn K mainGlobals "BLOCK" = some (some (.int (32) tk_gBLOCK)))
    (g_BLOCKS_LEAST : PySem.W.nsIn K mainGlobals "BLOCKS_LEAST" = some (some (.int (8) tk_gBLOCKS_LEAST)))
    (g_BLOCKS_MOST : PySem.W.nsIn K mainGlobals "BLOCKS_MOST" = some (some (.int (400) tk_gBLOCKS_MOST)))
    (a_FarError : PySem.W.nsIn K mainGlobals "FarError" = some (some (.ref C_FarError)))
    (eC_FarError : PySem.W.subIn K (.ref C_FarError) (.type "BaseException") = some true)
    (tC_FarError : PySem.W.typeIn K (.ref C_FarError) = some (.type "type"))
    (kC_FarError : PySem.W.keepIn K (.ref C_FarError) = true)
    (hC_FarError : PySem.W.hasDictIn K C_FarError = true)
    (a_OutOfRange : PySem.W.nsIn K mainGlobals "OutOfRange" = some (some (.ref C_OutOfRange)))
    (eC_OutOfRange : PySem.W.subIn K (.ref C_OutOfRange) (.type "BaseException") = some true)
    (tC_OutOfRange : PySem.W.typeIn K (.ref C_OutOfRange) = some (.type "type"))
    (kC_OutOfRange : PySem.W.keepIn K (.ref C_OutOfRange) = true)
    (hC_OutOfRange : PySem.W.hasDictIn K C_OutOfRange = true)
    (x_OutOfRange : K.lookup C_OutOfRange = some (excClassObj nm_OutOfRange qn_OutOfRange C_OutOfRange N_OutOfRange bs_OutOfRange bm_OutOfRange true sn_OutOfRange sub_OutOfRange ab_OutOfRange col_OutOfRange dd_OutOfRange m0_OutOfRange m1_OutOfRange m2_OutOfRange m3_OutOfRange m5_OutOfRange "ValueError.__new__"))
    (r_OutOfRange : PySem.HandSPX.refsVE bm_OutOfRange = true)
    (sa_OutOfRange : PySem.W.findIn K (.ref C_OutOfRange) "__setattr__" = some (some (.builtin "object.__setattr__")))
    (i_OutOfRange : PySem.W.findIn K (.ref C_OutOfRange) "__init__" = some (some (.ref ad_OutOfRange)))
    (ti_OutOfRange : PySem.W.typeIn K (.ref ad_OutOfRange) = some (.type "function"))
    (l_OutOfRange : K.lookup ad_OutOfRange = some ⟨oc_OutOfRange, od_OutOfRange, .func (PySem.W.fnOf "__init__" "OutOfRange.__init__" (defArgs (clsDef (top 3) 0)) (defBody (clsDef (top 3) 0)) (defScope (clsDef (top 3) 0)) .none kV_OutOfRange dc_OutOfRange pm_OutOfRange an_OutOfRange cd_OutOfRange ct_OutOfRange), sl_OutOfRange⟩)
    (c_OutOfRange : PySem.W.codeIn K cd_OutOfRange "OutOfRange.__init__" = true)
    (k_OutOfRange : PySem.W.keepIn K (.ref ad_OutOfRange) = true)
    (nname_OutOfRange : PySem.W.findIn K (.ref C_OutOfRange) "name" = some none)
    (ga_OutOfRange : PySem.W.findIn K (.ref C_OutOfRange) "__getattribute__" = some (some (.builtin "BaseException.__getattribute__")))
    (gg_OutOfRange : PySem.W.findIn K (.ref C_OutOfRange) "__getattr__" = some none)
    (a_PowerCut : PySem.W.nsIn K mainGlobals "PowerCut" = some (some (.ref C_PowerCut)))
    (eC_PowerCut : PySem.W.subIn K (.ref C_PowerCut) (.type "BaseException") = some true)
    (tC_PowerCut : PySem.W.typeIn K (.ref C_PowerCut) = some (.type "type"))
    (kC_PowerCut : PySem.W.keepIn K (.ref C_PowerCut) = true)
    (hC_PowerCut : PySem.W.hasDictIn K C_PowerCut = true)
    (xt_PowerCut : PySem.W.excIn K C_PowerCut [.type "ValueError", .type "Exception", .type "BaseException", .type "object"] "ValueError.__new__" = true)
    (ga_PowerCut : PySem.W.findIn K (.ref C_PowerCut) "__getattribute__" = some (some (.builtin "BaseException.__getattribute__")))
    (gg_PowerCut : PySem.W.findIn K (.ref C_PowerCut) "__getattr__" = some none)
    (a_Disk : PySem.W.nsIn K mainGlobals "Disk" = some (some (.ref C_Disk)))
    (pg_Disk : PySem.W.plainGet K C_Disk Str.empty = true)
    (hd_Disk : PySem.W.hasDictIn K C_Disk = true)
    (po_Disk : PySem.W.plainOver K C_Disk = true)
    (sa_Disk : PySem.W.findIn K (.ref C_Disk) "__setattr__" = some (some (.builtin "object.__setattr__")))
    (mk_Disk : PySem.W.makesIn K C_Disk = true)
    (kC_Disk : PySem.W.keepIn K (.ref C_Disk) = true)
    (na_blocks_Disk : PySem.W.findIn K (.ref C_Disk) "_blocks" = some none)
    (na_cuts_Disk : PySem.W.findIn K (.ref C_Disk) "_cuts" = some none)
    (na_left_Disk : PySem.W.findIn K (.ref C_Disk) "_left" = some none)
    (na_pending_Disk : PySem.W.findIn K (.ref C_Disk) "_pending" = some none)
    (na_torn_Disk : PySem.W.findIn K (.ref C_Disk) "_torn" = some none)
    (e_OutOfRange_FarError : PySem.W.subIn K (.ref C_OutOfRange) (.ref C_FarError) = some true)
    (e_PowerCut_FarError : PySem.W.subIn K (.ref C_PowerCut) (.ref C_FarError) = some true)
    (e_OutOfRange_OutOfRange : PySem.W.subIn K (.ref C_OutOfRange) (.ref C_OutOfRange) = some true)
    (e_PowerCut_OutOfRange : PySem.W.subIn K (.ref C_PowerCut) (.ref C_OutOfRange) = some false)
    (a__wall : PySem.W.nsIn K mainGlobals "_wall" = some (some (.ref ad__wall)))
    (l__wall : K.lookup ad__wall = some ⟨oc__wall, od__wall, .func (PySem.W.fnOf "_wall" "_wall" (defArgs (top 0)) (defBody (top 0)) (defScope (top 0)) .none kV__wall dc__wall pm__wall an__wall cd__wall ct__wall), sl__wall⟩)
    (c__wall : PySem.W.codeIn K cd__wall "_wall" = true)
    (k__wall : PySem.W.keepIn K (.ref ad__wall) = true)
    (a__is_block : PySem.W.nsIn K mainGlobals "_is_block" = some (some (.ref ad__is_block)))
    (l__is_block : K.lookup ad__is_block = some ⟨oc__is_block, od__is_block, .func (PySem.W.fnOf "_is_block" "_is_block" (defArgs (top 9)) (defBody (top 9)) (defScope (top 9)) .none kV__is_block dc__is_block pm__is_block an__is_block cd__is_block ct__is_block), sl__is_block⟩)
    (c__is_block : PySem.W.codeIn K cd__is_block "_is_block" = true)
    (k__is_block : PySem.W.keepIn K (.ref ad__is_block) = true)
    (a__law_cell : PySem.W.nsIn K mainGlobals "_law_cell" = some (some (.ref ad__law_cell)))
    (l__law_cell : K.lookup ad__law_cell = some ⟨oc__law_cell, od__law_cell, .func (PySem.W.fnOf "_law_cell" "_law_cell" (defArgs (top 13)) (defBody (top 13)) (defScope (top 13)) .none kV__law_cell dc__law_cell pm__law_cell an__law_cell cd__law_cell ct__law_cell), sl__law_cell⟩)
    (c__law_cell : PySem.W.codeIn K cd__law_cell "_law_cell" = true)
    (k__law_cell : PySem.W.keepIn K (.ref ad__law_cell) = true)
    (a__law_draw : PySem.W.nsIn K mainGlobals "_law_draw" = some (some (.ref ad__law_draw)))
    (l__law_draw : K.lookup ad__law_draw = some ⟨oc__law_draw, od__law_draw, .func (PySem.W.fnOf "_law_draw" "_law_draw" (defArgs (top 15)) (defBody (top 15)) (defScope (top 15)) .none kV__law_draw dc__law_draw pm__law_draw an__law_draw cd__law_draw ct__law_draw), sl__law_draw⟩)
    (c__law_draw : PySem.W.codeIn K cd__law_draw "_law_draw" = true)
    (k__law_draw : PySem.W.keepIn K (.ref ad__law_draw) = true)
    (a__law_read : PySem.W.nsIn K mainGlobals "_law_read" = some (some (.ref ad__law_read)))
    (l__law_read : K.lookup ad__law_read = some ⟨oc__law_read, od__law_read, .func (PySem.W.fnOf "_law_read" "_law_read" (defArgs (top 21)) (defBody (top 21)) (defScope (top 21)) .none kV__law_read dc__law_read pm__law_read an__law_read cd__law_read ct__law_read), sl__law_read⟩)
    (c__law_read : PySem.W.codeIn K cd__law_read "_law_read" = true)
    (k__law_read : PySem.W.keepIn K (.ref ad__law_read) = true)
    (mf_Disk_size : PySem.W.findIn K (.ref C_Disk) "size" = some (some (.ref ad_Disk_size)))
    (fn_Disk_size : PySem.W.isFn K (.ref ad_Disk_size) = true)
    (l_Disk_size : K.lookup ad_Disk_size = some ⟨oc_Disk_size, od_Disk_size, .func (PySem.W.fnOf "size" "Disk.size" (defArgs (clsDef (top 11) 1)) (defBody (clsDef (top 11) 1)) (defScope (clsDef (top 11) 1)) .none kV_Disk_size dc_Disk_size pm_Disk_size an_Disk_size cd_Disk_size ct_Disk_size), sl_Disk_size⟩)
    (c_Disk_size : PySem.W.codeIn K cd_Disk_size "Disk.size" = true)
    (k_Disk_size : PySem.W.keepIn K (.ref ad_Disk_size) = true)
    (mf_Disk__cut : PySem.W.findIn K (.ref C_Disk) "_cut" = some (some (.ref ad_Disk__cut)))
    (fn_Disk__cut : PySem.W.isFn K (.ref ad_Disk__cut) = true)
    (l_Disk__cut : K.lookup ad_Disk__cut = some ⟨oc_Disk__cut, od_Disk__cut, .func (PySem.W.fnOf "_cut" "Disk._cut" (defArgs (clsDef (top 11) 4)) (defBody (clsDef (top 11) 4)) (defScope (clsDef (top 11) 4)) .none kV_Disk__cut dc_Disk__cut pm_Disk__cut an_Disk__cut cd_Disk__cut ct_Disk__cut), sl_Disk__cut⟩)
    (c_Disk__cut : PySem.W.codeIn K cd_Disk__cut "Disk._cut" = true)
    (k_Disk__cut : PySem.W.keepIn K (.ref ad_Disk__cut) = true)
    (mf_Disk_pending_count : PySem.W.findIn K (.ref C_Disk) "pending_count" = some (some (.ref ad_Disk_pending_count)))
    (fn_Disk_pending_count : PySem.W.isFn K (.ref ad_Disk_pending_count) = true)
    (l_Disk_pending_count : K.lookup ad_Disk_pending_count = some ⟨oc_Disk_pending_count, od_Disk_pending_count, .func (PySem.W.fnOf "pending_count" "Disk.pending_count" (defArgs (clsDef (top 11) 8)) (defBody (clsDef (top 11) 8)) (defScope (clsDef (top 11) 8)) .none kV_Disk_pending_count dc_Disk_pending_count pm_Disk_pending_count an_Disk_pending_count cd_Disk_pending_count ct_Disk_pending_count), sl_Disk_pending_count⟩)
    (c_Disk_pending_count : PySem.W.codeIn K cd_Disk_pending_count "Disk.pending_count" = true)
    (k_Disk_pending_count : PySem.W.keepIn K (.ref ad_Disk_pending_count) = true)
    (mf_Disk_cut_count : PySem.W.findIn K (.ref C_Disk) "cut_count" = some (some (.ref ad_Disk_cut_count)))
    (fn_Disk_cut_count : PySem.W.isFn K (.ref ad_Disk_cut_count) = true)
    (l_Disk_cut_count : K.lookup ad_Disk_cut_count = some ⟨oc_Disk_cut_count, od_Disk_cut_count, .func (PySem.W.fnOf "cut_count" "Disk.cut_count" (defArgs (clsDef (top 11) 9)) (defBody (clsDef (top 11) 9)) (defScope (clsDef (top 11) 9)) .none kV_Disk_cut_count dc_Disk_cut_count pm_Disk_cut_count an_Disk_cut_count cd_Disk_cut_count ct_Disk_cut_count), sl_Disk_cut_count⟩)
    (c_Disk_cut_count : PySem.W.codeIn K cd_Disk_cut_count "Disk.cut_count" = true)
    (k_Disk_cut_count : PySem.W.keepIn K (.ref ad_Disk_cut_count) = true)
    (a__law_digits : PySem.W.nsIn K mainGlobals "_law_digits" = some (some (.ref ad__law_digits)))
    (l__law_digits : K.lookup ad__law_digits = some ⟨oc__law_digits, od__law_digits, .func (PySem.W.fnOf "_law_digits" "_law_digits" (defArgs (top 14)) (defBody (top 14)) (defScope (top 14)) .none kV__law_digits dc__law_digits pm__law_digits an__law_digits cd__law_digits ct__law_digits), sl__law_digits⟩)
    (c__law_digits : PySem.W.codeIn K cd__law_digits "_law_digits" = true)
    (k__law_digits : PySem.W.keepIn K (.ref ad__law_digits) = true)
    (a__law_torn : PySem.W.nsIn K mainGlobals "_law_torn" = some (some (.ref ad__law_torn)))
    (l__law_torn : K.lookup ad__law_torn = some ⟨oc__law_torn, od__law_torn, .func (PySem.W.fnOf "_law_torn" "_law_torn" (defArgs (top 16)) (defBody (top 16)) (defScope (top 16)) .none kV__law_torn dc__law_torn pm__law_torn an__law_torn cd__law_torn ct__law_torn), sl__law_torn⟩)
    (c__law_torn : PySem.W.codeIn K cd__law_torn "_law_torn" = true)
    (k__law_torn : PySem.W.keepIn K (.ref ad__law_torn) = true)
    (a__law_block : PySem.W.nsIn K mainGlobals "_law_block" = some (some (.ref ad__law_block)))
    (l__law_block : K.lookup ad__law_block = some ⟨oc__law_block, od__law_block, .func (PySem.W.fnOf "_law_block" "_law_block" (defArgs (top 17)) (defBody (top 17)) (defScope (top 17)) .none kV__law_block dc__law_block pm__law_block an__law_block cd__law_block ct__law_block), sl__law_block⟩)
    (c__law_block : PySem.W.codeIn K cd__law_block "_law_block" = true)
    (k__law_block : PySem.W.keepIn K (.ref ad__law_block) = true)
    (mf_Disk_schedule_cut : PySem.W.findIn K (.ref C_Disk) "schedule_cut" = some (some (.ref ad_Disk_schedule_cut)))
    (fn_Disk_schedule_cut : PySem.W.isFn K (.ref ad_Disk_schedule_cut) = true)
    (l_Disk_schedule_cut : K.lookup ad_Disk_schedule_cut = some ⟨oc_Disk_schedule_cut, od_Disk_schedule_cut, .func (PySem.W.fnOf "schedule_cut" "Disk.schedule_cut" (defArgs (clsDef (top 11) 11)) (defBody (clsDef (top 11) 11)) (defScope (clsDef (top 11) 11)) .none kV_Disk_schedule_cut dc_Disk_schedule_cut pm_Disk_schedule_cut an_Disk_schedule_cut cd_Disk_schedule_cut ct_Disk_schedule_cut), sl_Disk_schedule_cut⟩)
    (c_Disk_schedule_cut : PySem.W.codeIn K cd_Disk_schedule_cut "Disk.schedule_cut" = true)
    (k_Disk_schedule_cut : PySem.W.keepIn K (.ref ad_Disk_schedule_cut) = true)
    (a__check_torn : PySem.W.nsIn K mainGlobals "_check_torn" = some (some (.ref ad__check_torn)))
    (l__check_torn : K.lookup ad__check_torn = some ⟨oc__check_torn, od__check_torn, .func (PySem.W.fnOf "_check_torn" "_check_torn" (defArgs (top 10)) (defBody (top 10)) (defScope (top 10)) .none kV__check_torn dc__check_torn pm__check_torn an__check_torn cd__check_torn ct__check_torn), sl__check_torn⟩)
    (c__check_torn : PySem.W.codeIn K cd__check_torn "_check_torn" = true)
    (k__check_torn : PySem.W.keepIn K (.ref ad__check_torn) = true)
    (mf_Disk___init__ : PySem.W.findIn K (.ref C_Disk) "__init__" = some (some (.ref ad_Disk___init__)))
    (fn_Disk___init__ : PySem.W.isFn K (.ref ad_Disk___init__) = true)
    (l_Disk___init__ : K.lookup ad_Disk___init__ = some ⟨oc_Disk___init__, od_Disk___init__, .func (PySem.W.fnOf "__init__" "Disk.__init__" (defArgs (clsDef (top 11) 0)) (defBody (clsDef (top 11) 0)) (defScope (clsDef (top 11) 0)) .none kV_Disk___init__ dc_Disk___init__ pm_Disk___init__ an_Disk___init__ cd_Disk___init__ ct_Disk___init__), sl_Disk___init__⟩)
    (c_Disk___init__ : PySem.W.codeIn K cd_Disk___init__ "Disk.__init__" = true)
    (k_Disk___init__ : PySem.W.keepIn K (.ref ad_Disk___init__) = true)
    (mf_Disk__check_at : PySem.W.findIn K (.ref C_Disk) "_check_at" = some (some (.ref ad_Disk__check_at)))
    (fn_Disk__check_at : PySem.W.isFn K (.ref ad_Disk__check_at) = true)
    (l_Disk__check_at : K.lookup ad_Disk__check_at = some ⟨oc_Disk__check_at, od_Disk__check_at, .func (PySem.W.fnOf "_check_at" "Disk._check_at" (defArgs (clsDef (top 11) 2)) (defBody (clsDef (top 11) 2)) (defScope (clsDef (top 11) 2)) .none kV_Disk__check_at dc_Disk__check_at pm_Disk__check_at an_Disk__check_at cd_Disk__check_at ct_Disk__check_at), sl_Disk__check_at⟩)
    (c_Disk__check_at : PySem.W.codeIn K cd_Disk__check_at "Disk._check_at" = true)
    (k_Disk__check_at : PySem.W.keepIn K (.ref ad_Disk__check_at) = true)
    (mf_Disk__spend : PySem.W.findIn K (.ref C_Disk) "_spend" = some (some (.ref ad_Disk__spend)))
    (fn_Disk__spend : PySem.W.isFn K (.ref ad_Disk__spend) = true)
    (l_Disk__spend : K.lookup ad_Disk__spend = some ⟨oc_Disk__spend, od_Disk__spend, .func (PySem.W.fnOf "_spend" "Disk._spend" (defArgs (clsDef (top 11) 5)) (defBody (clsDef (top 11) 5)) (defScope (clsDef (top 11) 5)) .none kV_Disk__spend dc_Disk__spend pm_Disk__spend an_Disk__spend cd_Disk__spend ct_Disk__spend), sl_Disk__spend⟩)
    (c_Disk__spend : PySem.W.codeIn K cd_Disk__spend "Disk._spend" = true)
    (k_Disk__spend : PySem.W.keepIn K (.ref ad_Disk__spend) = true)
    (mf_Disk_read : PySem.W.findIn K (.ref C_Disk) "read" = some (some (.ref ad_Disk_read)))
    (fn_Disk_read : PySem.W.isFn K (.ref ad_Disk_read) = true)
    (l_Disk_read : K.lookup ad_Disk_read = some ⟨oc_Disk_read, od_Disk_read, .func (PySem.W.fnOf "read" "Disk.read" (defArgs (clsDef (top 11) 3)) (defBody (clsDef (top 11) 3)) (defScope (clsDef (top 11) 3)) .none kV_Disk_read dc_Disk_read pm_Disk_read an_Disk_read cd_Disk_read ct_Disk_read), sl_Disk_read⟩)
    (c_Disk_read : PySem.W.codeIn K cd_Disk_read "Disk.read" = true)
    (k_Disk_read : PySem.W.keepIn K (.ref ad_Disk_read) = true)
    (mf_Disk_write : PySem.W.findIn K (.ref C_Disk) "write" = some (some (.ref ad_Disk_write)))
    (fn_Disk_write : PySem.W.isFn K (.ref ad_Disk_write) = true)
    (l_Disk_write : K.lookup ad_Disk_write = some ⟨oc_Disk_write, od_Disk_write, .func (PySem.W.fnOf "write" "Disk.write" (defArgs (clsDef (top 11) 6)) (defBody (clsDef (top 11) 6)) (defScope (clsDef (top 11) 6)) .none kV_Disk_write dc_Disk_write pm_Disk_write an_Disk_write cd_Disk_write ct_Disk_write), sl_Disk_write⟩)
    (c_Disk_write : PySem.W.codeIn K cd_Disk_write "Disk.write" = true)
    (k_Disk_write : PySem.W.keepIn K (.ref ad_Disk_write) = true)
    (mf_Disk_flush : PySem.W.findIn K (.ref C_Disk) "flush" = some (some (.ref ad_Disk_flush)))
    (fn_Disk_flush : PySem.W.isFn K (.ref ad_Disk_flush) = true)
    (l_Disk_flush : K.lookup ad_Disk_flush = some ⟨oc_Disk_flush, od_Disk_flush, .func (PySem.W.fnOf "flush" "Disk.flush" (defArgs (clsDef (top 11) 7)) (defBody (clsDef (top 11) 7)) (defScope (clsDef (top 11) 7)) .none kV_Disk_flush dc_Disk_flush pm_Disk_flush an_Disk_flush cd_Disk_flush ct_Disk_flush), sl_Disk_flush⟩)
    (c_Disk_flush : PySem.W.codeIn K cd_Disk_flush "Disk.flush" = true)
    (k_Disk_flush : PySem.W.keepIn K (.ref ad_Disk_flush) = true)
    (mf_Disk_cut_power : PySem.W.findIn K (.ref C_Disk) "cut_power" = some (some (.ref ad_Disk_cut_power)))
    (fn_Disk_cut_power : PySem.W.isFn K (.ref ad_Disk_cut_power) = true)
    (l_Disk_cut_power : K.lookup ad_Disk_cut_power = some ⟨oc_Disk_cut_power, od_Disk_cut_power, .func (PySem.W.fnOf "cut_power" "Disk.cut_power" (defArgs (clsDef (top 11) 10)) (defBody (clsDef (top 11) 10)) (defScope (clsDef (top 11) 10)) .none kV_Disk_cut_power dc_Disk_cut_power pm_Disk_cut_power an_Disk_cut_power cd_Disk_cut_power ct_Disk_cut_power), sl_Disk_cut_power⟩)
    (c_Disk_cut_power : PySem.W.codeIn K cd_Disk_cut_power "Disk.cut_power" = true)
    (k_Disk_cut_power : PySem.W.keepIn K (.ref ad_Disk_cut_power) = true)
    (a__law_call_raw : PySem.W.nsIn K mainGlobals "_law_call_raw" = some (some (.ref ad__law_call_raw)))
    (l__law_call_raw : K.lookup ad__law_call_raw = some ⟨oc__law_call_raw, od__law_call_raw, .func (PySem.W.fnOf "_law_call_raw" "_law_call_raw" (defArgs (top 18)) (defBody (top 18)) (defScope (top 18)) .none kV__law_call_raw dc__law_call_raw pm__law_call_raw an__law_call_raw cd__law_call_raw ct__law_call_raw), sl__law_call_raw⟩)
    (c__law_call_raw : PySem.W.codeIn K cd__law_call_raw "_law_call_raw" = true)
    (k__law_call_raw : PySem.W.keepIn K (.ref ad__law_call_raw) = true)
    (a__law_refusal : PySem.W.nsIn K mainGlobals "_law_refusal" = some (some (.ref ad__law_refusal)))
    (l__law_refusal : K.lookup ad__law_refusal = some ⟨oc__law_refusal, od__law_refusal, .func (PySem.W.fnOf "_law_refusal" "_law_refusal" (defArgs (top 20)) (defBody (top 20)) (defScope (top 20)) .none kV__law_refusal dc__law_refusal pm__law_refusal an__law_refusal cd__law_refusal ct__law_refusal), sl__law_refusal⟩)
    (c__law_refusal : PySem.W.codeIn K cd__law_refusal "_law_refusal" = true)
    (k__law_refusal : PySem.W.keepIn K (.ref ad__law_refusal) = true)
    (a__law_call : PySem.W.nsIn K mainGlobals "_law_call" = some (some (.ref ad__law_call)))
    (l__law_call : K.lookup ad__law_call = some ⟨oc__law_call, od__law_call, .func (PySem.W.fnOf "_law_call" "_law_call" (defArgs (top 19)) (defBody (top 19)) (defScope (top 19)) .none kV__law_call dc__law_call pm__law_call an__law_call cd__law_call ct__law_call), sl__law_call⟩)
    (c__law_call : PySem.W.codeIn K cd__law_call "_law_call" = true)
    (k__law_call : PySem.W.keepIn K (.ref ad__law_call) = true)
    (a__law_wrong : PySem.W.nsIn K mainGlobals "_law_wrong" = some (some (.ref ad__law_wrong)))
    (l__law_wrong : K.lookup ad__law_wrong = some ⟨oc__law_wrong, od__law_wrong, .func (PySem.W.fnOf "_law_wrong" "_law_wrong" (defArgs (top 22)) (defBody (top 22)) (defScope (top 22)) .none kV__law_wrong dc__law_wrong pm__law_wrong an__law_wrong cd__law_wrong ct__law_wrong), sl__law_wrong⟩)
    (c__law_wrong : PySem.W.codeIn K cd__law_wrong "_law_wrong" = true)
    (k__law_wrong : PySem.W.keepIn K (.ref ad__law_wrong) = true)
    (a_law : PySem.W.nsIn K mainGlobals "law" = some (some (.ref ad_law)))
    (l_law : K.lookup ad_law = some ⟨oc_law, od_law, .func (PySem.W.fnOf "law" "law" (defArgs (top 23)) (defBody (top 23)) (defScope (top 23)) .none kV_law dc_law pm_law an_law cd_law ct_law), sl_law⟩)
    (c_law : PySem.W.codeIn K cd_law "law" = true)
    (k_law : PySem.W.keepIn K (.ref ad_law) = true) :
    ∃ (fd : FuncData) (ca : Ca), (∀ (s : Shared) (u : Value), BindsTo s fd ⟨[u], []⟩ [("_law_script", u)]) ∧ ∀ base : Heap, K.In base → base.Ns mainGlobals mg → FnG P w K mg base 8 fa fd ["_law_script"] (spD K ca [true] .frz f_law) := by
  have hh := hfa.symm.trans (PySem.W.mg_of X G a_law)
  cases hh
  obtain ⟨ca, q_OutOfRange, q_PowerCut, q_Disk⟩ : ∃ ca : Ca, ca "OutOfRange" = C_OutOfRange ∧ ca "PowerCut" = C_PowerCut ∧ ca "Disk" = C_Disk := ⟨caOf [("OutOfRange", C_OutOfRange), ("PowerCut", C_PowerCut), ("Disk", C_Disk)], rfl, rfl, rfl⟩
  have T : Fs K mg ca := { n_enumerate := PySem.W.mg_none_of X G z_enumerate, n_int := PySem.W.mg_none_of X G z_int, n_isinstance := PySem.W.mg_none_of X G z_isinstance, n_len := PySem.W.mg_none_of X G z_len, n_list := PySem.W.mg_none_of X G z_list, n_max := PySem.W.mg_none_of X G z_max, n_min := PySem.W.mg_none_of X G z_min, n_range := PySem.W.mg_none_of X G z_range, g_BLOCK := ⟨_, (V.int (32)), PySem.W.mg_of X G g_BLOCK, ⟨_, rfl⟩, .int _⟩, g_BLOCKS_LEAST := ⟨_, (V.int (8)), PySem.W.mg_of X G g_BLOCKS_LEAST, ⟨_, rfl⟩, .int _⟩, g_BLOCKS_MOST := ⟨_, (V.int (400)), PySem.W.mg_of X G g_BLOCKS_MOST, ⟨_, rfl⟩, .int _⟩, t_FarError := ⟨_, PySem.W.mg_of X G a_FarError, (List.forall_mem_cons.mpr ⟨(by show PySem.W.exmOne K (.ref (ca "OutOfRange")) (.ref C_FarError) = some true; rw [q_OutOfRange]; exact PySem.W.exm_ref eC_FarError hC_FarError tC_FarError e_OutOfRange_FarError), (List.forall_mem_cons.mpr ⟨(by show PySem.W.exmOne K (.ref (ca "PowerCut")) (.ref C_FarError) = some true; rw [q_PowerCut]; exact PySem.W.exm_ref eC_FarError hC_FarError tC_FarError e_PowerCut_FarError), (List.forall_mem_nil _)⟩)⟩)⟩, t_OutOfRange := ⟨_, PySem.W.mg_of X G a_OutOfRange, (List.forall_mem_cons.mpr ⟨(by show PySem.W.exmOne K (.ref (ca "OutOfRange")) (.ref C_OutOfRange) = some true; rw [q_OutOfRange]; exact PySem.W.exm_ref eC_OutOfRange hC_OutOfRange tC_OutOfRange e_OutOfRange_OutOfRange), (List.forall_mem_cons.mpr ⟨(by show PySem.W.exmOne K (.ref (ca "PowerCut")) (.ref C_OutOfRange) = some false; rw [q_PowerCut]; exact PySem.W.exm_ref eC_OutOfRange hC_OutOfRange tC_OutOfRange e_PowerCut_OutOfRange), (List.forall_mem_nil _)⟩)⟩)⟩, x_name := (List.forall_mem_cons.mpr ⟨(by show XfC K (ca "OutOfRange") ∧ PySem.W.findIn K (.ref (ca "OutOfRange")) "name" = some none; rw [q_OutOfRange]; exact ⟨⟨ga_OutOfRange, gg_OutOfRange, eC_OutOfRange, hC_OutOfRange⟩, nname_OutOfRange⟩), (List.forall_mem_nil _)⟩), at__blocks := (List.forall_mem_cons.mpr ⟨(by show Cls K (ca "Disk") ∧ NoAttr K (ca "Disk") "_blocks"; rw [q_Disk]; exact ⟨⟨pg_Disk, hd_Disk, po_Disk, sa_Disk⟩, na_blocks_Disk⟩), (List.forall_mem_nil _)⟩), at__cuts := (List.forall_mem_cons.mpr ⟨(by show Cls K (ca "Disk") ∧ NoAttr K (ca "Disk") "_cuts"; rw [q_Disk]; exact ⟨⟨pg_Disk, hd_Disk, po_Disk, sa_Disk⟩, na_cuts_Disk⟩), (List.forall_mem_nil _)⟩), at__left := (List.forall_mem_cons.mpr ⟨(by show Cls K (ca "Disk") ∧ NoAttr K (ca "Disk") "_left"; rw [q_Disk]; exact ⟨⟨pg_Disk, hd_Disk, po_Disk, sa_Disk⟩, na_left_Disk⟩), (List.forall_mem_nil _)⟩), at__pending := (List.forall_mem_cons.mpr ⟨(by show Cls K (ca "Disk") ∧ NoAttr K (ca "Disk") "_pending"; rw [q_Disk]; exact ⟨⟨pg_Disk, hd_Disk, po_Disk, sa_Disk⟩, na_pending_Disk⟩), (List.forall_mem_nil _)⟩), at__torn := (List.forall_mem_cons.mpr ⟨(by show Cls K (ca "Disk") ∧ NoAttr K (ca "Disk") "_torn"; rw [q_Disk]; exact ⟨⟨pg_Disk, hd_Disk, po_Disk, sa_Disk⟩, na_torn_Disk⟩), (List.forall_mem_nil _)⟩) }
  have F_OutOfRange := mkF (x := "__init__") (st := (clsDef (top 3) 0)) l_OutOfRange c_OutOfRange k_OutOfRange
  have O_OutOfRange : OexC K C_OutOfRange := ⟨⟨nm_OutOfRange, qn_OutOfRange, N_OutOfRange, bs_OutOfRange, bm_OutOfRange, sn_OutOfRange, sub_OutOfRange, ab_OutOfRange, col_OutOfRange, dd_OutOfRange, m0_OutOfRange, m1_OutOfRange, m2_OutOfRange, m3_OutOfRange, m5_OutOfRange, x_OutOfRange, r_OutOfRange⟩, sa_OutOfRange, eC_OutOfRange, tC_OutOfRange, kC_OutOfRange⟩
  have B_OutOfRange : Binds K _ ["self", "name"] [] := F_OutOfRange.bindsN fun _ _ _ _ _ _ us hl => match us, hl with | [_, _], _ => rfl
  have S_OutOfRange : FnScope ["self", "name"] ["self", "name"] (defScope (clsDef (top 3) 0)) := ⟨rfl, rfl, rfl, by decide +kernel, rfl, by decide +kernel, by decide +kernel⟩
  have F__wall := mkF (x := "_wall") (st := (top 0)) l__wall c__wall k__wall
  have B__wall : Binds K _ ["k"] [] := F__wall.bindsN fun _ _ _ _ _ _ us hl => match us, hl with | [_], _ => rfl
  have F__is_block := mkF (x := "_is_block") (st := (top 9)) l__is_block c__is_block k__is_block
  have B__is_block : Binds K _ ["block"] [] := F__is_block.bindsN fun _ _ _ _ _ _ us hl => match us, hl with | [_], _ => rfl
  have F__law_cell := mkF (x := "_law_cell") (st := (top 13)) l__law_cell c__law_cell k__law_cell
  have B__law_cell : Binds K _ ["_law_script", "_law_k"] [] := F__law_cell.bindsN fun _ _ _ _ _ _ us hl => match us, hl with | [_, _], _ => rfl
  have F__law_draw := mkF (x := "_law_draw") (st := (top 15)) l__law_draw c__law_draw k__law_draw
  have B__law_draw : Binds K _ ["_law_box", "_law_many"] [] := F__law_draw.bindsN fun _ _ _ _ _ _ us hl => match us, hl with | [_, _], _ => rfl
  have F__law_read := mkF (x := "_law_read") (st := (top 21)) l__law_read c__law_read k__law_read
  have B__law_read : Binds K _ ["_law_blocks", "_law_pending", "_law_at"] [] := F__law_read.bindsN fun _ _ _ _ _ _ us hl => match us, hl with | [_, _, _], _ => rfl
  have F_Disk_size := mkF (x := "size") (st := (clsDef (top 11) 1)) l_Disk_size c_Disk_size k_Disk_size
  have B_Disk_size : Binds K _ ["self"] [] := F_Disk_size.bindsN fun _ _ _ _ _ _ us hl => match us, hl with | [_], _ => rfl
  have F_Disk__cut := mkF (x := "_cut") (st := (clsDef (top 11) 4)) l_Disk__cut c_Disk__cut k_Disk__cut
  have B_Disk__cut : Binds K _ ["self", "torn"] [] := F_Disk__cut.bindsN fun _ _ _ _ _ _ us hl => match us, hl with | [_, _], _ => rfl
  have F_Disk_pending_count := mkF (x := "pending_count") (st := (clsDef (top 11) 8)) l_Disk_pending_count c_Disk_pending_count k_Disk_pending_count
  have B_Disk_pending_count : Binds K _ ["self"] [] := F_Disk_pending_count.bindsN fun _ _ _ _ _ _ us hl => match us, hl with | [_], _ => rfl
  have F_Disk_cut_count := mkF (x := "cut_count") (st := (clsDef (top 11) 9)) l_Disk_cut_count c_Disk_cut_count k_Disk_cut_count
  have B_Disk_cut_count : Binds K _ ["self"] [] := F_Disk_cut_count.bindsN fun _ _ _ _ _ _ us hl => match us, hl with | [_], _ => rfl
  have F__law_digits := mkF (x := "_law_digits") (st := (top 14)) l__law_digits c__law_digits k__law_digits
  have B__law_digits : Binds K _ ["_law_script", "_law_first", "_law_last"] [] := F__law_digits.bindsN fun _ _ _ _ _ _ us hl => match us, hl with | [_, _, _], _ => rfl
  have F__law_torn := mkF (x := "_law_torn") (st := (top 16)) l__law_torn c__law_torn k__law_torn
  have B__law_torn : Binds K _ ["_law_box", "_law_many"] [] := F__law_torn.bindsN fun _ _ _ _ _ _ us hl => match us, hl with | [_, _], _ => rfl
  have F__law_block := mkF (x := "_law_block") (st := (top 17)) l__law_block c__law_block k__law_block
  have B__law_block : Binds K _ ["_law_box"] [] := F__law_block.bindsN fun _ _ _ _ _ _ us hl => match us, hl with | [_], _ => rfl
  have F_Disk_schedule_cut := mkF (x := "schedule_cut") (st := (clsDef (top 11) 11)) l_Disk_schedule_cut c_Disk_schedule_cut k_Disk_schedule_cut
  have B_Disk_schedule_cut : Binds K _ ["self", "many", "torn"] [] := F_Disk_schedule_cut.bindsN fun _ _ _ _ _ _ us hl => match us, hl with | [_, _, _], _ => rfl
  have F__check_torn := mkF (x := "_check_torn") (st := (top 10)) l__check_torn c__check_torn k__check_torn
  have B__check_torn : Binds K _ ["torn"] [] := F__check_torn.bindsN fun _ _ _ _ _ _ us hl => match us, hl with | [_], _ => rfl
  have F_Disk___init__ := mkF (x := "__init__") (st := (clsDef (top 11) 0)) l_Disk___init__ c_Disk___init__ k_Disk___init__
  have B_Disk___init__ : Binds K _ ["self", "blocks"] [] := F_Disk___init__.bindsN fun _ _ _ _ _ _ us hl => match us, hl with | [_, _], _ => rfl
  have F_Disk__check_at := mkF (x := "_check_at") (st := (clsDef (top 11) 2)) l_Disk__check_at c_Disk__check_at k_Disk__check_at
  have B_Disk__check_at : Binds K _ ["self", "at"] [] := F_Disk__check_at.bindsN fun _ _ _ _ _ _ us hl => match us, hl with | [_, _], _ => rfl
  have F_Disk__spend := mkF (x := "_spend") (st := (clsDef (top 11) 5)) l_Disk__spend c_Disk__spend k_Disk__spend
  have B_Disk__spend : Binds K _ ["self"] [] := F_Disk__spend.bindsN fun _ _ _ _ _ _ us hl => match us, hl with | [_], _ => rfl
  have F_Disk_read := mkF (x := "read") (st := (clsDef (top 11) 3)) l_Disk_read c_Disk_read k_Disk_read
  have B_Disk_read : Binds K _ ["self", "at"] [] := F_Disk_read.bindsN fun _ _ _ _ _ _ us hl => match us, hl with | [_, _], _ => rfl
  have F_Disk_write := mkF (x := "write") (st := (clsDef (top 11) 6)) l_Disk_write c_Disk_write k_Disk_write
  have B_Disk_write : Binds K _ ["self", "at", "block"] [] := F_Disk_write.bindsN fun _ _ _ _ _ _ us hl => match us, hl with | [_, _, _], _ => rfl
  have F_Disk_flush := mkF (x := "flush") (st := (clsDef (top 11) 7)) l_Disk_flush c_Disk_flush k_Disk_flush
  have B_Disk_flush : Binds K _ ["self"] [] := F_Disk_flush.bindsN fun _ _ _ _ _ _ us hl => match us, hl with | [_], _ => rfl
  have F_Disk_cut_power := mkF (x := "cut_power") (st := (clsDef (top 11) 10)) l_Disk_cut_power c_Disk_cut_power k_Disk_cut_power
  have B_Disk_cut_power : Binds K _ ["self", "torn"] [] := F_Disk_cut_power.bindsN fun _ _ _ _ _ _ us hl => match us, hl with | [_, _], _ => rfl
  have F__law_call_raw := mkF (x := "_law_call_raw") (st := (top 18)) l__law_call_raw c__law_call_raw k__law_call_raw
  have B__law_call_raw : Binds K _ ["_law_disk", "_law_which", "_law_one", "_law_two"] [] := F__law_call_raw.bindsN fun _ _ _ _ _ _ us hl => match us, hl with | [_, _, _, _], _ => rfl
  have F__law_refusal := mkF (x := "_law_refusal") (st := (top 20)) l__law_refusal c__law_refusal k__law_refusal
  have B__law_refusal : Binds K _ ["_law_blocks"] [] := F__law_refusal.bindsN fun _ _ _ _ _ _ us hl => match us, hl with | [_], _ => rfl
  have F__law_call := mkF (x := "_law_call") (st := (top 19)) l__law_call c__law_call k__law_call
  have B__law_call : Binds K _ ["_law_disk", "_law_which", "_law_one", "_law_two"] [] := F__law_call.bindsN fun _ _ _ _ _ _ us hl => match us, hl with | [_, _, _, _], _ => rfl
  have F__law_wrong := mkF (x := "_law_wrong") (st := (top 22)) l__law_wrong c__law_wrong k__law_wrong
  have B__law_wrong : Binds K _ ["_law_box", "_law_disk", "_law_size"] [] := F__law_wrong.bindsN fun _ _ _ _ _ _ us hl => match us, hl with | [_, _, _], _ => rfl
  have F_law := mkF (x := "law") (st := (top 23)) l_law c_law k_law
  have B_law : Binds K _ ["_law_script"] [] := F_law.bindsN fun _ _ _ _ _ _ us hl => match us, hl with | [_], _ => rfl
  refine ⟨_, ca, fun s u => F_law.bindsA (ps := ["_law_script"]) (fun _ _ _ _ _ _ us hl => match us, hl with | [_], _ => rfl) s [u] rfl, fun base _ _ => ?_⟩
  have X_OutOfRange : ExI P w K mg base ca "OutOfRange" ["name"] := ⟨C_OutOfRange, ad_OutOfRange, _, _, q_OutOfRange, PySem.W.mg_of X G a_OutOfRange, O_OutOfRange, i_OutOfRange, ti_OutOfRange, okXI1 F_OutOfRange S_OutOfRange O_OutOfRange nname_OutOfRange, B_OutOfRange⟩
  have X_PowerCut : ExT K mg ca "PowerCut" := mkXT q_PowerCut (PySem.W.mg_of X G a_PowerCut) PySem.F.excBase_ValueError xt_PowerCut kC_PowerCut eC_PowerCut tC_PowerCut
  have C__wall := calF0 (x := "_wall") (PySem.W.mg_of X G a__wall) k__wall (ok__wall (P := P) (w := w) (base := base) F__wall T ) B__wall
  have C__is_block := calF0 (x := "_is_block") (PySem.W.mg_of X G a__is_block) k__is_block (ok__is_block (P := P) (w := w) (base := base) F__is_block T ) B__is_block
  have C__law_cell := calF0 (x := "_law_cell") (PySem.W.mg_of X G a__law_cell) k__law_cell (ok__law_cell (P := P) (w := w) (base := base) F__law_cell T ) B__law_cell
  have C__law_draw := calF0 (x := "_law_draw") (PySem.W.mg_of X G a__law_draw) k__law_draw (ok__law_draw (P := P) (w := w) (base := base) F__law_draw T ) B__law_draw
  have C__law_read := calF0 (x := "_law_read") (PySem.W.mg_of X G a__law_read) k__law_read (ok__law_read (P := P) (w := w) (base := base) F__law_read T ) B__law_read
  have M_Disk_size : MetF P w K mg base ca "Disk" "size" 1 [true] .frz f_Disk_size d_Disk_size := metF0 (q_Disk ▸ ⟨pg_Disk, hd_Disk, po_Disk, sa_Disk⟩) (q_Disk ▸ ⟨mf_Disk_size, fn_Disk_size, k_Disk_size⟩) (ok_Disk_size (P := P) (w := w) (base := base) F_Disk_size T ) B_Disk_size
  have M_Disk__cut : MetF P w K mg base ca "Disk" "_cut" 1 [true, false] .frz f_Disk__cut d_Disk__cut := metF0 (q_Disk ▸ ⟨pg_Disk, hd_Disk, po_Disk, sa_Disk⟩) (q_Disk ▸ ⟨mf_Disk__cut, fn_Disk__cut, k_Disk__cut⟩) (ok_Disk__cut (P := P) (w := w) (base := base) F_Disk__cut T ) B_Disk__cut
  have M_Disk_pending_count : MetF P w K mg base ca "Disk" "pending_count" 1 [true] .frz f_Disk_pending_count d_Disk_pending_count := metF0 (q_Disk ▸ ⟨pg_Disk, hd_Disk, po_Disk, sa_Disk⟩) (q_Disk ▸ ⟨mf_Disk_pending_count, fn_Disk_pending_count, k_Disk_pending_count⟩) (ok_Disk_pending_count (P := P) (w := w) (base := base) F_Disk_pending_count T ) B_Disk_pending_count
  have M_Disk_cut_count : MetF P w K mg base ca "Disk" "cut_count" 1 [true] .frz f_Disk_cut_count d_Disk_cut_count := metF0 (q_Disk ▸ ⟨pg_Disk, hd_Disk, po_Disk, sa_Disk⟩) (q_Disk ▸ ⟨mf_Disk_cut_count, fn_Disk_cut_count, k_Disk_cut_count⟩) (ok_Disk_cut_count (P := P) (w := w) (base := base) F_Disk_cut_count T ) B_Disk_cut_count
  have C__law_digits := calF0 (x := "_law_digits") (PySem.W.mg_of X G a__law_digits) k__law_digits (ok__law_digits (P := P) (w := w) (base := base) F__law_digits T C__law_cell) B__law_digits
  have C__law_torn := calF0 (x := "_law_torn") (PySem.W.mg_of X G a__law_torn) k__law_torn (ok__law_torn (P := P) (w := w) (base := base) F__law_torn T C__law_draw) B__law_torn
  have C__law_block := calF0 (x := "_law_block") (PySem.W.mg_of X G a__law_block) k__law_block (ok__law_block (P := P) (w := w) (base := base) F__law_block T C__law_draw) B__law_block
  have M_Disk_schedule_cut : MetF P w K mg base ca "Disk" "schedule_cut" 2 [true, false, false] .frz f_Disk_schedule_cut d_Disk_schedule_cut := metF0 (q_Disk ▸ ⟨pg_Disk, hd_Disk, po_Disk, sa_Disk⟩) (q_Disk ▸ ⟨mf_Disk_schedule_cut, fn_Disk_schedule_cut, k_Disk_schedule_cut⟩) (ok_Disk_schedule_cut (P := P) (w := w) (base := base) F_Disk_schedule_cut T C__wall) B_Disk_schedule_cut
  have C__check_torn := calF0 (x := "_check_torn") (PySem.W.mg_of X G a__check_torn) k__check_torn (ok__check_torn (P := P) (w := w) (base := base) F__check_torn T X_OutOfRange) B__check_torn
  have K_Disk : MakF P w K mg base ca "Disk" 3 [true, false] f_Disk___init__ d_Disk___init__ := makF0 (q_Disk ▸ PySem.W.mg_of X G a_Disk) (q_Disk ▸ ⟨mk_Disk, mf_Disk___init__, fn_Disk___init__, kC_Disk⟩) (ok_Disk___init__ (P := P) (w := w) (base := base) F_Disk___init__ T X_OutOfRange) B_Disk___init__
  have M_Disk__check_at : MetF P w K mg base ca "Disk" "_check_at" 3 [true, false] .frz f_Disk__check_at d_Disk__check_at := metF0 (q_Disk ▸ ⟨pg_Disk, hd_Disk, po_Disk, sa_Disk⟩) (q_Disk ▸ ⟨mf_Disk__check_at, fn_Disk__check_at, k_Disk__check_at⟩) (ok_Disk__check_at (P := P) (w := w) (base := base) F_Disk__check_at T X_OutOfRange) B_Disk__check_at
  have M_Disk__spend : MetF P w K mg base ca "Disk" "_spend" 3 [true] .frz f_Disk__spend d_Disk__spend := metF0 (q_Disk ▸ ⟨pg_Disk, hd_Disk, po_Disk, sa_Disk⟩) (q_Disk ▸ ⟨mf_Disk__spend, fn_Disk__spend, k_Disk__spend⟩) (ok_Disk__spend (P := P) (w := w) (base := base) F_Disk__spend T M_Disk__cut X_PowerCut) B_Disk__spend
  have M_Disk_read : MetF P w K mg base ca "Disk" "read" 4 [true, false] .fre f_Disk_read d_Disk_read := metF0 (q_Disk ▸ ⟨pg_Disk, hd_Disk, po_Disk, sa_Disk⟩) (q_Disk ▸ ⟨mf_Disk_read, fn_Disk_read, k_Disk_read⟩) (ok_Disk_read (P := P) (w := w) (base := base) F_Disk_read T M_Disk__check_at) B_Disk_read
  have M_Disk_write : MetF P w K mg base ca "Disk" "write" 4 [true, true, false] .frz f_Disk_write d_Disk_write := metF0 (q_Disk ▸ ⟨pg_Disk, hd_Disk, po_Disk, sa_Disk⟩) (q_Disk ▸ ⟨mf_Disk_write, fn_Disk_write, k_Disk_write⟩) (ok_Disk_write (P := P) (w := w) (base := base) F_Disk_write T C__is_block M_Disk__check_at M_Disk__spend X_OutOfRange) B_Disk_write
  have M_Disk_flush : MetF P w K mg base ca "Disk" "flush" 4 [true] .frz f_Disk_flush d_Disk_flush := metF0 (q_Disk ▸ ⟨pg_Disk, hd_Disk, po_Disk, sa_Disk⟩) (q_Disk ▸ ⟨mf_Disk_flush, fn_Disk_flush, k_Disk_flush⟩) (ok_Disk_flush (P := P) (w := w) (base := base) F_Disk_flush T M_Disk__spend) B_Disk_flush
  have M_Disk_cut_power : MetF P w K mg base ca "Disk" "cut_power" 4 [true, false] .frz f_Disk_cut_power d_Disk_cut_power := metF0 (q_Disk ▸ ⟨pg_Disk, hd_Disk, po_Disk, sa_Disk⟩) (q_Disk ▸ ⟨mf_Disk_cut_power, fn_Disk_cut_power, k_Disk_cut_power⟩) (ok_Disk_cut_power (P := P) (w := w) (base := base) F_Disk_cut_power T M_Disk__cut C__check_torn) B_Disk_cut_power
  have C__law_call_raw := calF0 (x := "_law_call_raw") (PySem.W.mg_of X G a__law_call_raw) k__law_call_raw (ok__law_call_raw (P := P) (w := w) (base := base) F__law_call_raw T M_Disk_read M_Disk_write M_Disk_cut_power) B__law_call_raw
  have C__law_refusal := calF0 (x := "_law_refusal") (PySem.W.mg_of X G a__law_refusal) k__law_refusal (ok__law_refusal (P := P) (w := w) (base := base) F__law_refusal T K_Disk) B__law_refusal
  have C__law_call := calF0 (x := "_law_call") (PySem.W.mg_of X G a__law_call) k__law_call (ok__law_call (P := P) (w := w) (base := base) F__law_call T C__law_call_raw) B__law_call
  have C__law_wrong := calF0 (x := "_law_wrong") (PySem.W.mg_of X G a__law_wrong) k__law_wrong (ok__law_wrong (P := P) (w := w) (base := base) F__law_wrong T C__law_draw C__law_call) B__law_wrong
  exact ok_law (P := P) (w := w) (base := base) F_law T C__law_draw C__law_read M_Disk_size M_Disk_pending_count M_Disk_cut_count C__law_digits C__law_torn C__law_block K_Disk M_Disk_read M_Disk_flush C__law_refusal C__law_call C__law_wrong
end
end K57

namespace K57
open PySem DL L2
theorem draw_ex {ds : List Int} {p : Int} {tl : Sto} {m : Int} (h0 : 0 ≤ p) (hm : 0 < m) : ∃ r, f__law_draw [.obj 0, .int m] (bx ds p :: tl) = some (.ok (.int r), bx ds (p + 1) :: tl) ∧ 0 ≤ r ∧ r < m := by
  by_cases h : p < ds.length
  · obtain ⟨k, hk⟩ := atI_int (ds := ds) h0 h
    refine ⟨k % m, ?_, Int.emod_nonneg _ (by omega), Int.emod_lt_of_pos _ hm⟩
    simp [f__law_draw, b__law_draw, h, hm, hk]
  · refine ⟨(p * 7 + 3) % m, ?_, Int.emod_nonneg _ (by omega), Int.emod_lt_of_pos _ hm⟩
    simp [f__law_draw, b__law_draw, h, hm, cMul_r]
/-! ### the digits -/
theorem dig1 {s0 s1 s2 s4 s7 : Sl} {S : Sto} : ∀ (L : List D) (ds : List Int) (c : Int) (s6 : Sl), unlk (some s6) = true → ds.length + L.length ≤ 1000000 → ∃ (ds' : List Int) (c' : Int) (s6' : Sl), unlk (some s6') = true ∧ forD (tgName 6) l0__law_digits L [s0, s1, s2, .own (.lst (ds.map .int)), s4, .val (.int c), s6, s7] S =
      some (.nx [s0, s1, s2, .own (.lst (ds'.map .int)), s4, .val (.int c'), s6', s7], S) ∧ ds'.length ≤ ds.length + L.length
  | [], ds, c, s6, h6, _ => ⟨ds, c, s6, h6, by simp, by simp⟩
  | d :: L, ds, c, s6, h6, hl => by
    rw [List.length_cons] at hl
    by_cases h : 0 < c
    · obtain ⟨ds', c', s6', u, e, l⟩ := dig1 L (ds ++ [c % 1000]) (c / 1000) (.val d) rfl (by rw [List.length_append, List.length_singleton]; omega)
      refine ⟨ds', c', s6', u, ?_, by rw [List.length_append, List.length_singleton] at l; rw [List.length_cons]; omega⟩
      have a := app_l (l := ds.map D.int) (d := .int (c % 1000)) (by rw [List.length_map]; omega)
      rw [List.map_append] at e
      simp [l0__law_digits, h6, h, a]
      exact e
    · obtain ⟨ds', c', s6', u, e, l⟩ := dig1 L ds c (.val d) rfl (by omega)
      refine ⟨ds', c', s6', u, ?_, by rw [List.length_cons]; omega⟩
      simp [l0__law_digits, h6, h]
      exact e
theorem dig2 {s0 s1 s2 s4 s5 : Sl} {S : Sto} : ∀ (L : List D) (ds : List Int) (c : Int) (s6 : Sl), unlk (some s6) = true → (∀ d ∈ L, ∃ k : Int, d = .int k) → ds.length + L.length ≤ 1000000 → ∃ (ds' : List Int) (c' : Int) (s6' : Sl), unlk (some s6') = true ∧ forD (tgName 6) l1__law_digits L [s0, s1, s2, .own (.lst (ds.map .int)), s4, s5, s6, .val (.int c)] S =
      some (.nx [s0, s1, s2, .own (.lst (ds'.map .int)), s4, s5, s6', .val (.int c')], S) ∧ ds'.length ≤ ds.length + L.length
  | [], ds, c, s6, h6, _, _ => ⟨ds, c, s6, h6, by simp, by simp⟩
  | d :: L, ds, c, s6, h6, hd, hl => by
    rw [List.length_cons] at hl
    obtain ⟨k, rfl⟩ := hd d List.mem_cons_self
    obtain ⟨ds', c', s6', u, e, l⟩ := dig2 L (ds ++ [(c * 40014 + 5 * k + 3) % 2147483563 / 1009 % 1000]) ((c * 40014 + 5 * k + 3) % 2147483563) (.val (.int k)) rfl (fun d h => hd d (List.mem_cons_of_mem _ h)) (by rw [List.length_append, List.length_singleton]; omega)
    refine ⟨ds', c', s6', u, ?_, by rw [List.length_append, List.length_singleton] at l; rw [List.length_cons]; omega⟩
    have a := app_l (l := ds.map D.int) (d := .int ((c * 40014 + 5 * k + 3) % 2147483563 / 1009 % 1000)) (by rw [List.length_map]; omega)
    have m1 : cMul c 40014 = true := cMul_r (by decide) (by decide)
    have m2 : cMul 5 k = true := cMul_l (by decide) (by decide)
    rw [List.map_append] at e
    simp [l1__law_digits, h6, a, m1, m2]
    exact e
theorem cell_ex {ns : List Int} {k : Int} {S : Sto} (h0 : 0 ≤ k) : ∃ c, f__law_cell [.rol (ns.map .int), .int k] S = some (.ok (.int c), S) := by
  by_cases h : k < ns.length
  · obtain ⟨c, hc⟩ := atI_int (ds := ns) h0 h
    exact ⟨c, by simp [f__law_cell, b__law_cell, h, hc]⟩
  · exact ⟨0, by simp [f__law_cell, b__law_cell, h]⟩
theorem dig3 {ns : List Int} {s1 s2 : Sl} {S : Sto} : ∀ (L : List D) (ds : List Int) (s4 s5 s6 s7 : Sl), unlk (some s4) = true → unlk (some s5) = true → unlk (some s6) = true → unlk (some s7) = true → (∀ d ∈ L, ∃ k : Int, d = .int k ∧ 0 ≤ k) → ds.length + 60 * L.length ≤ 100000 →
    ∃ (ds' : List Int) (s4' s5' s6' s7' : Sl), forD (tgName 4) l2__law_digits L [.bo (.rol (ns.map .int)), s1, s2, .own (.lst (ds.map .int)), s4, s5, s6, s7] S = some (.nx [.bo (.rol (ns.map .int)), s1, s2, .own (.lst (ds'.map .int)), s4', s5', s6', s7'], S)
  | [], ds, s4, s5, s6, s7, _, _, _, _, _, _ => ⟨ds, s4, s5, s6, s7, by simp⟩
  | d :: L, ds, s4, s5, s6, s7, h4, h5, h6, h7, hd, hl => by
    rw [List.length_cons] at hl
    obtain ⟨k, rfl, k0⟩ := hd d List.mem_cons_self
    obtain ⟨c, ec⟩ := cell_ex (ns := ns) (S := S) k0
    have r60 : oRng [.int 60] = some (dRng 0 60) := rng_1 (by decide) (by decide)
    have r12 : oRng [.int 12] = some (dRng 0 12) := rng_1 (by decide) (by decide)
    have go : ∀ c' : Int, ∃ (ds' : List Int) (s5' s6' s7' : Sl), unlk (some s5') = true ∧ unlk (some s6') = true ∧ unlk (some s7') = true ∧ ds'.length ≤ ds.length + 60 ∧ bIf (sBl (sBin oGe (sVarB 5) (cI 1000000000000000000))) (bFor (sRng (sCons (cI 60) sNil)) (tgName 6) l0__law_digits) (bSeq (bSet 7 (sBin oMod (sCall oInt (sCons (sBin oAdd (sBin oAdd (sBin oMul (sVarB 5) (cI 40692)) (sBin oMul (sVarB 4) (cI 52774))) (cI 17)) sNil)) (cI 2147483399)))
        (bFor (sRng (sCons (cI 12) sNil)) (tgName 6) l1__law_digits)) [.bo (.rol (ns.map .int)), s1, s2, .own (.lst (ds.map .int)), .val (.int k), .val (.int c'), s6, s7] S = some (.nx [.bo (.rol (ns.map .int)), s1, s2, .own (.lst (ds'.map .int)), .val (.int k), s5', s6', s7'], S) := fun c' => by
      by_cases hb : 1000000000000000000 ≤ c'
      · obtain ⟨ds', c2, s6', u, e, l⟩ := dig1 (s0 := .bo (.rol (ns.map .int))) (s1 := s1) (s2 := s2) (s4 := .val (.int k)) (s7 := s7) (S := S) (dRng 0 60) ds c' s6 h6 (by rw [dRng_len]; omega)
        rw [dRng_len] at l
        exact ⟨ds', .val (.int c2), s6', s7, rfl, u, h7, l, by simp [hb, r60]; exact e⟩
      · obtain ⟨ds', c2, s6', u, e, l⟩ := dig2 (s0 := .bo (.rol (ns.map .int))) (s1 := s1) (s2 := s2) (s4 := .val (.int k)) (s5 := .val (.int c')) (S := S) (dRng 0 12) ds ((c' * 40692 + k * 52774 + 17) % 2147483399) s6 h6 (fun d h => by obtain ⟨j, e, _⟩ := dRng_mem h; exact ⟨j, e⟩) (by rw [dRng_len]; omega)
        rw [dRng_len] at l
        have m1 : cMul c' 40692 = true := cMul_r (by decide) (by decide)
        have m2 : cMul k 52774 = true := cMul_r (by decide) (by decide)
        exact ⟨ds', .val (.int c'), s6', .val (.int c2), rfl, u, rfl, by omega, by simp [hb, r12, h7, m1, m2]; exact e⟩
    have m3 : ∀ c, cMul 2 c = true := fun c => cMul_l (by decide) (by decide)
    have st : ∃ (ds' : List Int) (s5' s6' s7' : Sl), unlk (some s5') = true ∧ unlk (some s6') = true ∧ unlk (some s7') = true ∧ ds'.length ≤ ds.length + 60 ∧ l2__law_digits [.bo (.rol (ns.map .int)), s1, s2, .own (.lst (ds.map .int)), .val (.int k), s5, s6, s7] S = some (.nx [.bo (.rol (ns.map .int)), s1, s2, .own (.lst (ds'.map .int)), .val (.int k), s5', s6', s7'], S) := by
      by_cases hn : c < 0
      · obtain ⟨ds', s5', s6', s7', u5, u6, u7, l, e⟩ := go (1 - 2 * c)
        exact ⟨ds', s5', s6', s7', u5, u6, u7, l, by simp [l2__law_digits, d__law_cell, ec, h5, hn, m3] at e ⊢; exact e⟩
      · obtain ⟨ds', s5', s6', s7', u5, u6, u7, l, e⟩ := go c
        exact ⟨ds', s5', s6', s7', u5, u6, u7, l, by simp [l2__law_digits, d__law_cell, ec, h5, hn] at e ⊢; exact e⟩
    obtain ⟨ds1, s51, s61, s71, u5, u6, u7, l, e⟩ := st
    obtain ⟨ds', s4', s5', s6', s7', e2⟩ := dig3 L ds1 (.val (.int k)) s51 s61 s71 rfl u5 u6 u7 (fun d h => hd d (List.mem_cons_of_mem _ h)) (by omega)
    refine ⟨ds', s4', s5', s6', s7', ?_⟩
    rw [forD_c]
    simp only [tgName_e, List.getElem?_cons_succ, List.getElem?_cons_zero, h4, if_true, List.set_cons_succ, List.set_cons_zero, e]
    exact e2
theorem digits_ex {ns : List Int} {S : Sto} : ∃ ds : List Int, f__law_digits [.rol (ns.map .int), .int 0, .int 63] S = some (.ok (.lst (ds.map .int)), S) := by
  obtain ⟨ds', s4', s5', s6', s7', e⟩ := dig3 (ns := ns) (s1 := .bo (.int 0)) (s2 := .bo (.int 63)) (S := S) (dRng 0 63) [] .no .no .no .no rfl rfl rfl rfl (fun d h => by obtain ⟨j, e, h0, _⟩ := dRng_mem h; exact ⟨j, e, h0⟩) (by rw [dRng_len]; decide)
  have r : oRng [.int 0, .int 63] = some (dRng 0 63) := rng_2 (by decide) (by decide) (by decide) (by decide)
  refine ⟨ds', ?_⟩
  have e' : forD (tgName 4) l2__law_digits (dRng 0 63) [.bo (.rol (ns.map .int)), .bo (.int 0), .bo (.int 63), .own (.lst []), .no, .no, .no, .no] S = _ := e
  unfold f__law_digits b__law_digits
  rw [semB_e]
  simp only [parSl_f, parSl_n, List.length_cons, List.length_nil, bSeq_e, bSetOwn_e, sLst_e, sNil_e, mb_e, mp_e, sb_e, bFor_e, sRng_e, sCons_e, sVar_e]
  simp [r, isCont, e', line_eq]
def dI (l : List Nat) : List D := l.map fun c => .int (c : Nat)
theorem mul_l0 {n : Int} (h0 : -1000 ≤ n) (h1 : n ≤ 1000) : oMul (.lst [.int 0]) (.int n) = some (.lst (List.replicate n.toNat (.int 0))) := by
  show cif (-1000000 ≤ n ∧ n ≤ 1000000 ∧ 1 * n.toNat ≤ sizeLine) (some (D.lst (List.replicate n.toNat [D.int 0]).flatten)) none = _
  rw [line_eq, cif_pos ⟨by omega, by omega, by omega⟩]
  congr 2
  induction n.toNat with
  | zero => rfl
  | succ k ih => rw [List.replicate_succ, List.flatten_cons, ih, List.replicate_succ]; rfl
theorem add_l {a b : List D} (h : a.length + b.length ≤ 16777216) : oAdd (.lst a) (.lst b) = some (.lst (a ++ b)) := by
  show (if a.length + b.length ≤ sizeLine then some (D.lst (a ++ b)) else none) = _
  rw [line_eq, if_pos h]
theorem dI_len (l : List Nat) : (dI l).length = l.length := by unfold dI; rw [List.length_map]
theorem cutD_nat (l : List D) {i j : Nat} (h : i ≤ j) (hj : j ≤ l.length) : cutD l (some (i : Nat)) (some (j : Nat)) = (l.drop i).take (j - i) := by
  unfold cutD
  rw [HT.sIx_nat, HT.sIx_nat, Nat.min_eq_left hj, Nat.min_eq_left (by omega)]
theorem at_nat {l : List D} {i : Nat} {d : D} (h : l[i]? = some d) : oIx (.lst l) (.int (i : Nat)) = some d := by
  rw [oIx_l]
  unfold atI
  have hi := (List.getElem?_eq_some_iff.mp h).1
  rw [ixN_nat (by omega) (by omega), Int.toNat_natCast]
  exact h
theorem mod_i {i j : Int} (h : 0 < j) : oMod (.int i) (.int j) = some (.int (i % j)) := by rw [oMod_i, if_pos h]
structure Blk (b : List Nat) : Prop where
  len : b.length = 32
  lt : ∀ c ∈ b, c < 256
theorem dI_drop (b : List Nat) (i : Nat) : (dI b).drop i = dI (b.drop i) := by simp [dI, List.map_drop]
theorem dI_take (b : List Nat) (i : Nat) : (dI b).take i = dI (b.take i) := by simp [dI, List.map_take]
def tn (a b : List Nat) (k : Nat) : List Nat := a.take k ++ b.drop k
theorem tn_Blk {a b : List Nat} (ha : Blk a) (hb : Blk b) {k : Nat} (hk : k ≤ 32) : Blk (tn a b k) where
  len := by
    have := ha.len
    have := hb.len
    simp [tn]; omega
  lt := fun c hc => by
    rcases List.mem_append.mp hc with h | h
    · exact ha.lt c (List.mem_of_mem_take h)
    · exact hb.lt c (List.mem_of_mem_drop h)
theorem s_to {b : List Nat} (h : Blk b) {k : Nat} (hk : k ≤ 32) : oSl (.lst (dI b)) none (some (k : Int)) = some (.lst (dI (b.take k))) := by
  show some (D.lst (cutD (dI b) none (some (k : Int)))) = _
  unfold cutD
  have e : HT.sIx (dI b).length 0 none = 0 := rfl
  rw [HT.sIx_nat, e, dI_len, h.len, Nat.min_eq_left hk]
  simp [dI_take]
theorem s_from {b : List Nat} (h : Blk b) {k : Nat} (hk : k ≤ 32) : oSl (.lst (dI b)) (some (k : Int)) none = some (.lst (dI (b.drop k))) := by
  show some (D.lst (cutD (dI b) (some (k : Int)) none)) = _
  unfold cutD
  have e : HT.sIx (dI b).length (dI b).length none = (dI b).length := rfl
  have hl := h.len
  rw [HT.sIx_nat, e, dI_len, h.len, Nat.min_eq_left hk, List.take_of_length_le (by rw [List.length_drop, dI_len]; omega), dI_drop]
theorem a_tn {a b : List Nat} (ha : Blk a) (hb : Blk b) (k : Nat) : oAdd (.lst (dI (a.take k))) (.lst (dI (b.drop k))) = some (.lst (dI (tn a b k))) := by
  have := ha.len
  have := hb.len
  rw [add_l (by rw [dI_len, dI_len]; simp; omega)]
  simp [tn, dI]
end K57
namespace K57
open PySem DL L2
/-! ### the disk in the store -/
def BD (B : List (List Nat)) : List D := B.map fun b => .lst (dI b)
def PD (P : List (Nat × List Nat)) : List D := P.map fun z => .tup [.int (z.1 : Nat), .lst (dI z.2)]
def fl (p : Nat) (C : Int) (L : D) (T : List Nat) : List (Str × D) := [(("_blocks" : Str), .obj 2), (("_pending" : Str), .obj p), (("_cuts" : Str), .int C), (("_left" : Str), L), (("_torn" : Str), .lst (dI T))]
structure Dk (S : Sto) (p : Nat) (B : List (List Nat)) (P : List (Nat × List Nat)) (C : Int) (L : D) (T : List Nat) : Prop where
  ins : S[1]? = some (.ins ("Disk" : Str) (fl p C L T))
  blo : S[2]? = some (.lst (BD B))
  pen : S[p]? = some (.lst (PD P))
  np : 2 < p
  bB : ∀ b ∈ B, Blk b
  bP : ∀ z ∈ P, z.1 < B.length ∧ Blk z.2
theorem Dk.stI {S : Sto} {p : Nat} {B : List (List Nat)} {P : List (Nat × List Nat)} {C : Int} {L : D} {T : List Nat} (h : Dk S p B P C L T) : DL.stI S 1 = some (("Disk" : Str), fl p C L T) := stI_at h.ins
theorem lk_b (p C L T) : (fl p C L T).lookup ("_blocks" : Str) = some (.obj 2) := rfl
theorem lk_p (p C L T) : (fl p C L T).lookup ("_pending" : Str) = some (.obj p) := rfl
theorem lk_c (p C L T) : (fl p C L T).lookup ("_cuts" : Str) = some (.int C) := rfl
theorem lk_l (p C L T) : (fl p C L T).lookup ("_left" : Str) = some L := rfl
theorem lk_t (p C L T) : (fl p C L T).lookup ("_torn" : Str) = some (.lst (dI T)) := rfl
theorem no_m (p C L T) : (fl p C L T).lookup ("_cut" : Str) = none ∧ (fl p C L T).lookup ("_spend" : Str) = none ∧ (fl p C L T).lookup ("_check_at" : Str) = none ∧ (fl p C L T).lookup ("read" : Str) = none ∧ (fl p C L T).lookup ("write" : Str) = none ∧ (fl p C L T).lookup ("flush" : Str) = none ∧ (fl p C L T).lookup ("cut_power" : Str) = none ∧ (fl p C L T).lookup ("schedule_cut" : Str) = none ∧ (fl p C L T).lookup ("pending_count" : Str) = none ∧ (fl p C L T).lookup ("cut_count" : Str) = none := ⟨rfl, rfl, rfl, rfl, rfl, rfl, rfl, rfl, rfl, rfl⟩
theorem pt_p (q p C L T) : putD ("_pending" : Str) (.obj q) (fl p C L T) = fl q C L T := rfl
theorem pt_c (q p C L T) : putD ("_cuts" : Str) (.int q) (fl p C L T) = fl p q L T := rfl
theorem pt_l (q p C L T) : putD ("_left" : Str) q (fl p C L T) = fl p C q T := rfl
theorem pt_t (q p C L T) : putD ("_torn" : Str) (.lst (dI q)) (fl p C L T) = fl p C L q := rfl
theorem fl_len (p C L T) : (fl p C L T).length = 5 := rfl
theorem aB : ("Disk" : Str) ∈ a__blocks := by decide
theorem aP : ("Disk" : Str) ∈ a__pending := by decide
theorem aL : ("Disk" : Str) ∈ a__left := by decide
theorem aC : ("Disk" : Str) ∈ a__cuts := by decide
theorem aT : ("Disk" : Str) ∈ a__torn := by decide
theorem BD_len (B : List (List Nat)) : (BD B).length = B.length := by simp [BD]
theorem PD_len (P : List (Nat × List Nat)) : (PD P).length = P.length := by simp [PD]
theorem BD_at {B : List (List Nat)} {a : Nat} {x : List Nat} (h : B[a]? = some x) : (BD B)[a]? = some (.lst (dI x)) := by simp [BD, h]
theorem BD_set (B : List (List Nat)) (a : Nat) (x : List Nat) : (BD B).set a (.lst (dI x)) = BD (B.set a x) := by simp [BD, List.map_set]
theorem setAt_nat {l : List D} {a : Nat} (d : D) (h : a < l.length) : setAt l (.int (a : Nat)) d = some (l.set a d) := by
  unfold setAt
  simp only [asInt_i]
  rw [ixN_nat (by omega) (by omega), Int.toNat_natCast]; rfl
theorem dref_blo {S : Sto} {p : Nat} {B : List (List Nat)} {P : List (Nat × List Nat)} {C : Int} {L : D} {T : List Nat} (h : Dk S p B P C L T) : dref S (.obj 2) = .lst (BD B) := dref_at h.blo
/-! a cut in the model -/
def cutK (T : List Nat) (P : List (Nat × List Nat)) (B : List (List Nat)) : Nat → List (List Nat)
  | 0 => B
  | i + 1 => match P[i]? with
    | some z => (cutK T P B i).set z.1 (tn z.2 ((cutK T P B i).getD z.1 []) (T.getD i 0))
    | none => cutK T P B i
theorem cutK_len (T : List Nat) (P : List (Nat × List Nat)) (B : List (List Nat)) : ∀ i, (cutK T P B i).length = B.length
  | 0 => rfl
  | i + 1 => by
    unfold cutK
    split
    · rw [List.length_set, cutK_len]
    · exact cutK_len T P B i
theorem cutK_Blk {T : List Nat} {P : List (Nat × List Nat)} {B : List (List Nat)} (hB : ∀ b ∈ B, Blk b) (hP : ∀ z ∈ P, z.1 < B.length ∧ Blk z.2) (hT : ∀ t ∈ T, t ≤ 32) : ∀ i, ∀ b ∈ cutK T P B i, Blk b
  | 0 => hB
  | i + 1 => by
    have ih := cutK_Blk hB hP hT i
    have hl := cutK_len T P B i
    unfold cutK
    split
    · rename_i z hz
      have hm := hP z (List.mem_of_getElem? hz)
      intro b hb
      rcases List.mem_or_eq_of_mem_set hb with h | rfl
      · exact ih b h
      · refine tn_Blk hm.2 ?_ ?_
        · have : z.1 < (cutK T P B i).length := by omega
          rw [List.getD_eq_getElem?_getD, List.getElem?_eq_getElem this]
          exact ih _ (List.getElem_mem this)
        · rw [List.getD_eq_getElem?_getD]
          cases e : T[i]? with
          | none => simp
          | some t => exact hT t (List.mem_of_getElem? e)
    · exact ih
theorem cutK_stop {T : List Nat} {P : List (Nat × List Nat)} {B : List (List Nat)} (hP : ∀ z ∈ P, z.1 < B.length ∧ Blk z.2) : ∀ k, cutK T P B (min T.length P.length + k) = cutK T P B (min T.length P.length)
  | 0 => rfl
  | k + 1 => by
    rw [← cutK_stop hP k]
    show cutK T P B (min T.length P.length + k + 1) = _
    conv => lhs; unfold cutK
    split
    · rename_i z hz
      have hlt := (List.getElem?_eq_some_iff.mp hz).1
      have h0 : T.getD (min T.length P.length + k) 0 = 0 := by
        rw [List.getD_eq_getElem?_getD, List.getElem?_eq_none (by omega)]; rfl
      have hm := hP z (List.mem_of_getElem? hz)
      have hl := cutK_len T P B (min T.length P.length + k)
      rw [h0]
      have e : tn z.2 ((cutK T P B (min T.length P.length + k)).getD z.1 []) 0 = (cutK T P B (min T.length P.length + k)).getD z.1 [] := by simp [tn]
      rw [e, List.getD_eq_getElem?_getD, List.getElem?_eq_getElem (by omega), Option.getD_some, List.set_getElem_self]
    · rfl
/-- one step of the disk's cut -/
theorem cut_step {S : Sto} {p : Nat} {B : List (List Nat)} {P : List (Nat × List Nat)} {C : Int} {L : D} {T T' : List Nat} (h : Dk S p B P C L T) (hT : ∀ t ∈ T', t ≤ 32) {i : Nat} {z : Nat × List Nat} (hz : P[i]? = some z) {v5 : U} :
    l0_Disk__cut [.val (.obj 1), .bo (.lst (dI T')), .val (.int (i : Nat)), .val (.int (z.1 : Nat)), .val (.lst (dI z.2)), v5.1] S =
      some (.nx [.val (.obj 1), .bo (.lst (dI T')), .val (.int (i : Nat)), .val (.int (z.1 : Nat)), .val (.lst (dI z.2)), .val (.int (T'.getD i 0 : Nat))], S.set 2 (.lst (BD (B.set z.1 (tn z.2 (B.getD z.1 []) (T'.getD i 0)))))) := by
  obtain ⟨h1, h2⟩ := h.bP z (List.mem_of_getElem? hz)
  have hb : B[z.1]? = some (B.getD z.1 []) := by rw [List.getD_eq_getElem?_getD, List.getElem?_eq_getElem h1]; rfl
  have hk : T'.getD i 0 ≤ 32 := by
    rw [List.getD_eq_getElem?_getD]
    cases e : T'[i]? with
    | none => simp
    | some t => exact hT t (List.mem_of_getElem? e)
  have hbb : Blk (B.getD z.1 []) := h.bB _ (List.mem_of_getElem? hb)
  have ix := at_nat (BD_at hb)
  have st := stL_at h.blo
  have df := dref_blo h
  have di := h.stI
  have s1 := s_to h2 hk
  have s2 := s_from hbb hk
  have a1 := a_tn h2 hbb (T'.getD i 0)
  have lb := lk_b p C L T
  have sa := setAt_nat (l := BD B) (a := z.1) (.lst (dI (tn z.2 (B.getD z.1 []) (T'.getD i 0)))) (by rw [BD_len]; exact h1)
  rw [BD_set] at sa
  have e5 : e0_Disk__cut [.val (.obj 1), .bo (.lst (dI T')), .val (.int (i : Nat)), .val (.int (z.1 : Nat)), .val (.lst (dI z.2)), v5.1] S = some (.ok (.int (T'.getD i 0 : Nat)), S) := by
    by_cases hi : i < T'.length
    · have ti := at_nat (l := dI T') (i := i) (d := .int (T'.getD i 0 : Nat)) (by simp [dI, hi])
      have hl := dI_len T'
      simp [e0_Disk__cut, hl, hi, ti]
    · have hl := dI_len T'
      have t0 : T'.getD i 0 = 0 := by rw [List.getD_eq_getElem?_getD, List.getElem?_eq_none (by omega)]; rfl
      rw [t0]
      simp [e0_Disk__cut, hl, hi]
  generalize T'.getD i 0 = k at *
  generalize B.getD z.1 [] = x at *
  generalize BD (B.set z.1 (tn z.2 x k)) = Bn at *
  generalize BD B = Bo at *
  generalize fl p C L T = F at *
  simp [l0_Disk__cut, e5, di, aB, lb, df, ix, s1, s2, a1, st, sa]
end K57
namespace K57
open PySem DL L2
section
variable {S : Sto} {p : Nat} {B : List (List Nat)} {P : List (Nat × List Nat)} {C : Int} {L : D} {T : List Nat}
theorem Dk.len (h : Dk S p B P C L T) : 2 < S.length := (List.getElem?_eq_some_iff.mp h.blo).1
theorem Dk.setB (h : Dk S p B P C L T) {B' : List (List Nat)} (hl : B'.length = B.length) (hb : ∀ b ∈ B', Blk b) : Dk (S.set 2 (.lst (BD B'))) p B' P C L T where
  ins := by rw [List.getElem?_set_ne (by decide)]; exact h.ins
  blo := List.getElem?_set_self h.len
  pen := by rw [List.getElem?_set_ne (by have := h.np; omega)]; exact h.pen
  np := h.np
  bB := hb
  bP := fun z hz => by rw [hl]; exact h.bP z hz
theorem Dk.setF (h : Dk S p B P C L T) {C' : Int} {L' : D} {T' : List Nat} : Dk (S.set 1 (.ins ("Disk" : Str) (fl p C' L' T'))) p B P C' L' T' where
  ins := List.getElem?_set_self (by have := h.len; omega)
  blo := by rw [List.getElem?_set_ne (by decide)]; exact h.blo
  pen := by rw [List.getElem?_set_ne (by have := h.np; omega)]; exact h.pen
  np := h.np
  bB := h.bB
  bP := h.bP
theorem Dk.newP (h : Dk S p B P C L T) {C' : Int} {L' : D} {T' : List Nat} : Dk ((S ++ [Ob.lst []]).set 1 (.ins ("Disk" : Str) (fl S.length C' L' T'))) S.length B [] C' L' T' where
  ins := List.getElem?_set_self (by have := h.len; simp; omega)
  blo := by rw [List.getElem?_set_ne (by decide), List.getElem?_append_left h.len]; exact h.blo
  pen := by rw [List.getElem?_set_ne (by have := h.len; omega)]; simp [PD]
  np := h.len
  bB := h.bB
  bP := fun z hz => by cases hz
theorem Dk.setP (h : Dk S p B P C L T) {P' : List (Nat × List Nat)} (hP : ∀ z ∈ P', z.1 < B.length ∧ Blk z.2) : Dk (S.set p (.lst (PD P'))) p B P' C L T where
  ins := by rw [List.getElem?_set_ne (by have := h.np; omega)]; exact h.ins
  blo := by rw [List.getElem?_set_ne (by have := h.np; omega)]; exact h.blo
  pen := List.getElem?_set_self (List.getElem?_eq_some_iff.mp h.pen).1
  np := h.np
  bB := h.bB
  bP := hP
theorem stI_set {X : Sto} (h : 1 < X.length) (f : List (Str × D)) : DL.stI (X.set 1 (.ins ("Disk" : Str) f)) 1 = some (("Disk" : Str), f) := stI_at (List.getElem?_set_self h)
theorem stI_X (h : Dk S p B P C L T) : DL.stI (S ++ [Ob.lst []]) 1 = some (("Disk" : Str), fl p C L T) := stI_at (by rw [List.getElem?_append_left (by have := h.len; omega)]; exact h.ins)
theorem cut_ok (h : Dk S p B P C L T) {T' : List Nat} (hT : ∀ t ∈ T', t ≤ 32) : ∃ S' p', f_Disk__cut [.obj 1, .lst (dI T')] S = some (.ok .non, S') ∧ Dk S' p' (cutK T' P B P.length) [] (C + 1) .non [] ∧ S'[0]? = S[0]? := by
  obtain ⟨ρ', S1, e, v2, v3, v4, v5, rfl, h1, h0⟩ := foR_nx (it := itEn) (n := p) (t := tgTup 2 (tgCons (tgName 2) (tgCons (tgTup 2 (tgCons (tgName 3) (tgCons (tgName 4) tgNil))) tgNil))) (b := l0_Disk__cut) (PD P)
    (fun i ρ S' => ∃ v2 v3 v4 v5 : U, ρ = [.val (.obj 1), .bo (.lst (dI T')), v2.1, v3.1, v4.1, v5.1] ∧ Dk S' p (cutK T' P B i) P C L T ∧ S'[0]? = S[0]?)
    (fun i ρ S' hi ⟨v2, v3, v4, v5, h2, h3, h4⟩ => stL_at h3.pen)
    (fun i d ρ S' hd ⟨v2, v3, v4, v5, h2, h3, h4⟩ => by
      subst h2
      obtain ⟨z, hz, rfl⟩ : ∃ z, P[i]? = some z ∧ D.tup [.int (z.1 : Nat), .lst (dI z.2)] = d := by simpa [PD] using hd
      have st := cut_step h3 hT hz (v5 := v5)
      have hl := cutK_len T' P B
      have hc : cutK T' P B (i + 1) = (cutK T' P B i).set z.1 (tn z.2 ((cutK T' P B i).getD z.1 []) (T'.getD i 0)) := by
        conv => lhs; unfold cutK
        rw [hz]
      rw [← hc] at st
      refine ⟨[.val (.obj 1), .bo (.lst (dI T')), .val (.int (i : Nat)), .val (.int (z.1 : Nat)), .val (.lst (dI z.2)), v5.1], by simp [itEn, tgTup, tgCons, tgNil], _, _, st, uV (.int (i : Nat)), uV (.int (z.1 : Nat)), uV (.lst (dI z.2)), uV (.int (T'.getD i 0 : Nat)), rfl, h3.setB (by rw [hl, hl]) (cutK_Blk h.bB h.bP hT _), ?_⟩
      rw [List.getElem?_set_ne (by decide)]; exact h4)
    (ρ := [.val (.obj 1), .bo (.lst (dI T')), .no, .no, .no, .no]) (S := S) ⟨uN, uN, uN, uN, rfl, h, rfl⟩
  rw [PD_len] at h1
  refine ⟨(S1 ++ [Ob.lst []]).set 1 (.ins ("Disk" : Str) (fl S1.length (C + 1) .non [])), S1.length, ?_, h1.newP, ?_⟩
  · have d0 := h.stI
    have lp := lk_p p C L T
    have s0 := stI_X h1
    have hx : 1 < (S1 ++ [Ob.lst []]).length := by have := h1.len; simp; omega
    have s1 := stI_set hx
    have pt0 : ∀ q c l t, putD ("_torn" : Str) (.lst []) (fl q c l t) = fl q c l [] := fun _ _ _ _ => rfl
    have l0 : (0 : Nat) ≤ sizeLine := by decide
    simp [f_Disk__cut, b_Disk__cut, d0, aP, lp, e, sObj, obOf, s0, fl_len, pt_p, s1, aC, lk_c, pt_c, aL, pt_l, aT, pt0, l0]
  · rw [List.getElem?_set_ne (by decide), List.getElem?_append_left (by have := h1.len; omega)]; exact h0
end
end K57
namespace K57
open PySem DL L2
def Lf : Option Nat → D
  | none => .non
  | some k => .int (k : Nat)
section
variable {S : Sto} {p : Nat} {B : List (List Nat)} {P : List (Nat × List Nat)} {C : Int} {L : D} {l : Option Nat} {T : List Nat}
theorem spend_go (h : Dk S p B P C (Lf l) T) (hl : l ≠ some 0) : ∃ S', f_Disk__spend [.obj 1] S = some (.ok .non, S') ∧ Dk S' p B P C (Lf (l.map (· - 1))) T ∧ S'[0]? = S[0]? := by
  have d0 := h.stI
  cases l with
  | none =>
    refine ⟨S, ?_, h, rfl⟩
    have e : Lf none = .non := rfl
    rw [e] at d0
    simp [f_Disk__spend, b_Disk__spend, d0, aL, lk_l, sIsN, isN]
  | some k =>
    obtain ⟨j, rfl⟩ : ∃ j, k = j + 1 := ⟨k - 1, by have : k ≠ 0 := fun z => hl (by rw [z]); omega⟩
    refine ⟨S.set 1 (.ins ("Disk" : Str) (fl p C (.int (j : Nat)) T)), ?_, h.setF, by rw [List.getElem?_set_ne (by decide)]⟩
    have e : Lf (some (j + 1)) = .int ((j : Int) + 1) := rfl
    rw [e] at d0
    have g1 : ¬ (j : Int) + 1 = 0 := by omega
    have g2 : (j : Int) + 1 - 1 = j := by omega
    simp [f_Disk__spend, b_Disk__spend, d0, aL, lk_l, sIsN, isN, g1, g2, fl_len, pt_l]
theorem spend_cut (h : Dk S p B P C (Lf (some 0)) T) (hT : ∀ t ∈ T, t ≤ 32) : ∃ S' p', f_Disk__spend [.obj 1] S = some (.error ⟨("PowerCut" : Str), none⟩, S') ∧ Dk S' p' (cutK T P B P.length) [] (C + 1) (Lf none) [] ∧ S'[0]? = S[0]? := by
  obtain ⟨S', p', e, h1, h2⟩ := cut_ok h hT
  refine ⟨S', p', ?_, h1, h2⟩
  have d0 := h.stI
  have eL : Lf (some 0) = .int 0 := rfl
  rw [eL] at d0
  obtain ⟨n1, _⟩ := no_m p C (.int 0) T
  simp [f_Disk__spend, b_Disk__spend, d0, aL, lk_l, sIsN, isN, n1, aT, lk_t, d_Disk__cut, e]
theorem at_ok (h : Dk S p B P C L T) {a : Nat} (ha : a < B.length) : f_Disk__check_at [.obj 1, .int (a : Nat)] S = some (.ok .non, S) := by
  have d0 := h.stI
  have df := dref_blo h
  have bl := BD_len B
  have g1 : (0 : Int) ≤ a := by omega
  simp [f_Disk__check_at, b_Disk__check_at, sChain, d0, aB, lk_b, df, bl, ha, g1]
theorem at_no (h : Dk S p B P C L T) : f_Disk__check_at [.obj 1, .int (B.length : Nat)] S = some (.error ⟨("OutOfRange" : Str), some [(("name" : Str), .str "at")]⟩, S) := by
  have d0 := h.stI
  have df := dref_blo h
  have bl := BD_len B
  have g1 : (0 : Int) ≤ (B.length : Nat) := by omega
  simp [f_Disk__check_at, b_Disk__check_at, sChain, d0, aB, lk_b, df, bl, g1]
theorem isb {b : List Nat} (h : Blk b) (S : Sto) : f__is_block [.lst (dI b)] S = some (.ok (.bl true), S) := by
  have go : ∀ (y : List Nat) (v : U), (∀ c ∈ y, c < 256) → ∃ v' : U, forD (tgName 1) l0__is_block (dI y) [.bo (.lst (dI b)), v.1] S = some (.nx [.bo (.lst (dI b)), v'.1], S) := by
    intro y
    induction y with
    | nil => exact fun v _ => ⟨v, rfl⟩
    | cons c y ih =>
      intro v hy
      obtain ⟨v', e⟩ := ih (uV (.int c)) fun d hd => hy d (List.mem_cons_of_mem _ hd)
      refine ⟨v', ?_⟩
      rw [← e]
      have e2 : dI (c :: y) = .int c :: dI y := rfl
      have := hy c List.mem_cons_self
      have g1 : (c : Int) ≤ 255 := by omega
      rw [e2]
      simp [l0__is_block, sChain, g1]
  obtain ⟨v', e⟩ := go b uN h.lt
  have c3 : c_BLOCK = .int 32 := rfl
  have hl : (dI b).length = 32 := by rw [dI_len, h.len]
  simp [f__is_block, b__is_block, c3, hl, e]
theorem isb_31 (S : Sto) : f__is_block [.lst (List.replicate 31 (.int 0))] S = some (.ok (.bl false), S) := by
  have c3 : c_BLOCK = .int 32 := rfl
  simp [f__is_block, b__is_block, c3]
theorem write_go (h : Dk S p B P C (Lf l) T) (hl : l ≠ some 0) {a : Nat} {b : List Nat} (ha : a < B.length) (hb : Blk b) (hP : P.length ≤ 1000) :
    ∃ S', f_Disk_write [.obj 1, .int (a : Nat), .lst (dI b)] S = some (.ok .non, S') ∧ Dk S' p B (P ++ [(a, b)]) C (Lf (l.map (· - 1))) T ∧ S'[0]? = S[0]? := by
  have e1 := at_ok h ha
  have e2 := isb hb S
  obtain ⟨S1, e3, h1, z0⟩ := spend_go h hl
  refine ⟨S1.set p (.lst (PD (P ++ [(a, b)]))), ?_, h1.setP ?_, ?_⟩
  · have st := stL_at h1.pen
    have ol : oList [.lst (dI b)] = some (.lst (dI b)) := rfl
    have l2 : (2 : Nat) ≤ sizeLine := by decide
    have ap := app_l (l := PD P) (d := .tup [.int (a : Nat), .lst (dI b)]) (by rw [PD_len]; omega)
    have e : PD P ++ [.tup [.int (a : Nat), .lst (dI b)]] = PD (P ++ [(a, b)]) := by simp [PD]
    rw [e] at ap
    have d0 := h.stI
    have d1 := h1.stI
    obtain ⟨_, n2, n3, _⟩ := no_m p C (Lf l) T
    simp [f_Disk_write, b_Disk_write, d0, n3, d_Disk__check_at, e1, d__is_block, e2, n2, d_Disk__spend, e3, d1, aP, lk_p, st, ol, l2, ap, sMut, asObj]
  · intro z hz
    rcases List.mem_append.mp hz with hz | hz
    · exact h.bP z hz
    · cases List.mem_singleton.mp hz; exact ⟨ha, hb⟩
  · rw [List.getElem?_set_ne (by have := h.np; omega)]; exact z0
theorem write_cut (h : Dk S p B P C (Lf (some 0)) T) (hT : ∀ t ∈ T, t ≤ 32) {a : Nat} {b : List Nat} (ha : a < B.length) (hb : Blk b) :
    ∃ S' p', f_Disk_write [.obj 1, .int (a : Nat), .lst (dI b)] S = some (.error ⟨("PowerCut" : Str), none⟩, S') ∧ Dk S' p' (cutK T P B P.length) [] (C + 1) (Lf none) [] ∧ S'[0]? = S[0]? := by
  have e1 := at_ok h ha
  have e2 := isb hb S
  obtain ⟨S1, p', e3, h1, z0⟩ := spend_cut h hT
  refine ⟨S1, p', ?_, h1, z0⟩
  have d0 := h.stI
  obtain ⟨_, n2, n3, _⟩ := no_m p C (Lf (some 0)) T
  simp [f_Disk_write, b_Disk_write, d0, n3, d_Disk__check_at, e1, d__is_block, e2, n2, d_Disk__spend, e3]
theorem write_at (h : Dk S p B P C L T) {d : D} : f_Disk_write [.obj 1, .int (B.length : Nat), d] S = some (.error ⟨("OutOfRange" : Str), some [(("name" : Str), .str "at")]⟩, S) := by
  have e1 := at_no h
  have d0 := h.stI
  obtain ⟨_, n2, n3, _⟩ := no_m p C L T
  simp [f_Disk_write, b_Disk_write, d0, n3, d_Disk__check_at, e1]
theorem write_blk (h : Dk S p B P C L T) (ha : 0 < B.length) : f_Disk_write [.obj 1, .int 0, .lst (List.replicate 31 (.int 0))] S = some (.error ⟨("OutOfRange" : Str), some [(("name" : Str), .str "block")]⟩, S) := by
  have e1 := at_ok h ha
  have e2 := isb_31 S
  have d0 := h.stI
  obtain ⟨_, n2, n3, _⟩ := no_m p C L T
  simp at e1
  generalize List.replicate 31 (D.int 0) = R at *
  simp [f_Disk_write, b_Disk_write, d0, n3, d_Disk__check_at, e1, d__is_block, e2]
/-! flush -/
def flK (P : List (Nat × List Nat)) (B : List (List Nat)) : Nat → List (List Nat)
  | 0 => B
  | i + 1 => match P[i]? with
    | some z => (flK P B i).set z.1 z.2
    | none => flK P B i
theorem flK_len (P : List (Nat × List Nat)) (B : List (List Nat)) : ∀ i, (flK P B i).length = B.length
  | 0 => rfl
  | i + 1 => by
    unfold flK
    split
    · rw [List.length_set, flK_len]
    · exact flK_len P B i
theorem flK_Blk {P : List (Nat × List Nat)} {B : List (List Nat)} (hB : ∀ b ∈ B, Blk b) (hP : ∀ z ∈ P, z.1 < B.length ∧ Blk z.2) : ∀ i, ∀ b ∈ flK P B i, Blk b
  | 0 => hB
  | i + 1 => by
    have ih := flK_Blk hB hP i
    unfold flK
    split
    · rename_i z hz
      intro b hb
      rcases List.mem_or_eq_of_mem_set hb with h | rfl
      · exact ih b h
      · exact (hP z (List.mem_of_getElem? hz)).2
    · exact ih
theorem flush_go (h : Dk S p B P C (Lf l) T) (hl : l ≠ some 0) : ∃ S' p', f_Disk_flush [.obj 1] S = some (.ok .non, S') ∧ Dk S' p' (flK P B P.length) [] C (Lf (l.map (· - 1))) T ∧ S'[0]? = S[0]? := by
  obtain ⟨S0, e3, hA, zA⟩ := spend_go h hl
  obtain ⟨ρ', S1, e, v1, v2, rfl, h1, h0⟩ := foR_nx (it := itId) (n := p) (t := tgTup 2 (tgCons (tgName 1) (tgCons (tgName 2) tgNil))) (b := l0_Disk_flush) (PD P)
    (fun i ρ S' => ∃ v1 v2 : U, ρ = [.val (.obj 1), v1.1, v2.1] ∧ Dk S' p (flK P B i) P C (Lf (l.map (· - 1))) T ∧ S'[0]? = S0[0]?)
    (fun i ρ S' hi ⟨v1, v2, h2, h3, h4⟩ => stL_at h3.pen)
    (fun i d ρ S' hd ⟨v1, v2, h2, h3, h4⟩ => by
      subst h2
      obtain ⟨z, hz, rfl⟩ : ∃ z, P[i]? = some z ∧ D.tup [.int (z.1 : Nat), .lst (dI z.2)] = d := by simpa [PD] using hd
      have hl2 := flK_len P B
      obtain ⟨q1, q2⟩ := h.bP z (List.mem_of_getElem? hz)
      have hc : flK P B (i + 1) = (flK P B i).set z.1 z.2 := by
        conv => lhs; unfold flK
        rw [hz]
      have sa := setAt_nat (l := BD (flK P B i)) (a := z.1) (.lst (dI z.2)) (by rw [BD_len, hl2]; exact q1)
      rw [BD_set, ← hc] at sa
      have st := stL_at h3.blo
      have d0 := h3.stI
      refine ⟨[.val (.obj 1), .val (.int (z.1 : Nat)), .val (.lst (dI z.2))], by simp [itId, tgTup, tgCons, tgNil], [.val (.obj 1), .val (.int (z.1 : Nat)), .val (.lst (dI z.2))], S'.set 2 (.lst (BD (flK P B (i + 1)))), by simp [l0_Disk_flush, d0, aB, lk_b, st, sa], uV (.int (z.1 : Nat)), uV (.lst (dI z.2)), rfl, h3.setB (by rw [hl2, hl2]) (flK_Blk h.bB h.bP _), ?_⟩
      rw [List.getElem?_set_ne (by decide)]; exact h4)
    (ρ := [.val (.obj 1), .no, .no]) (S := S0) ⟨uN, uN, rfl, hA, rfl⟩
  rw [PD_len] at h1
  refine ⟨(S1 ++ [Ob.lst []]).set 1 (.ins ("Disk" : Str) (fl S1.length C (Lf (l.map (· - 1))) T)), S1.length, ?_, h1.newP, ?_⟩
  · have d0 := h.stI
    have dA := hA.stI
    have s0 := stI_X h1
    have l0 : (0 : Nat) ≤ sizeLine := by decide
    obtain ⟨_, n2, n3, _⟩ := no_m p C (Lf l) T
    simp [f_Disk_flush, b_Disk_flush, d0, n2, d_Disk__spend, e3, dA, aP, lk_p, e, sObj, obOf, s0, fl_len, pt_p, l0]
  · rw [List.getElem?_set_ne (by decide), List.getElem?_append_left (by have := h1.len; omega), h0]; exact zA
theorem flush_cut (h : Dk S p B P C (Lf (some 0)) T) (hT : ∀ t ∈ T, t ≤ 32) :
    ∃ S' p', f_Disk_flush [.obj 1] S = some (.error ⟨("PowerCut" : Str), none⟩, S') ∧ Dk S' p' (cutK T P B P.length) [] (C + 1) (Lf none) [] ∧ S'[0]? = S[0]? := by
  obtain ⟨S1, p', e3, h1, z0⟩ := spend_cut h hT
  refine ⟨S1, p', ?_, h1, z0⟩
  have d0 := h.stI
  obtain ⟨_, n2, n3, _⟩ := no_m p C (Lf (some 0)) T
  simp [f_Disk_flush, b_Disk_flush, d0, n2, d_Disk__spend, e3]
end
end K57
namespace K57
open PySem DL L2
theorem lcD_all {t : D → Rho → Option Rho} {ft : ST} {fe : SE} {ρ : Rho} (P : Sto → Prop) (Q : D → Prop) : ∀ (L out : List D) (S : Sto), P S → out.length + L.length ≤ sizeLine →
    (∀ d ∈ L, ∀ S, P S → ∃ ρ1, t d ρ = some ρ1 ∧ ft ρ1 S = some (.ok true, S) ∧ ∃ y S', fe ρ1 S = some (.ok y, S') ∧ Q y ∧ P S') →
    ∃ ys S', lcD t ft fe ρ out L S = some (.ok (.lst (out ++ ys)), S') ∧ ys.length = L.length ∧ (∀ y ∈ ys, Q y) ∧ P S'
  | [], out, S, p, _, _ => ⟨[], S, by simp, rfl, by simp, p⟩
  | d :: L, out, S, p, hl, h => by
    obtain ⟨ρ1, e1, e2, y, S1, e3, q, p1⟩ := h d List.mem_cons_self S p
    rw [List.length_cons] at hl
    obtain ⟨ys, S', e4, l, hq, p'⟩ := lcD_all P Q L (out ++ [y]) S1 p1 (by rw [List.length_append, List.length_singleton]; omega) (fun x hx => h x (List.mem_cons_of_mem _ hx))
    refine ⟨y :: ys, S', ?_, by rw [List.length_cons, l, List.length_cons], fun x hx => ?_, p'⟩
    · rw [lcD_cons, e1]
      simp only [mb_e, mq_ok, e2, e3, if_true]
      rw [if_pos (by omega), e4, List.append_assoc]; rfl
    · rcases List.mem_cons.mp hx with rfl | hx
      · exact q
      · exact hq x hx
theorem hd0 {S : Sto} {x : Ob} (h : S[0]? = some x) : ∃ tl, S = x :: tl := by
  cases S with
  | nil => cases h
  | cons y tl => simp at h; exact ⟨tl, by rw [h]⟩
section
variable {S : Sto} {p : Nat} {B : List (List Nat)} {P : List (Nat × List Nat)} {C : Int} {L : D} {l : Option Nat} {T : List Nat}
theorem Dk.box {x y : Ob} {tl : Sto} (h : Dk (x :: tl) p B P C L T) : Dk (y :: tl) p B P C L T := by
  obtain ⟨k, rfl⟩ : ∃ k, p = k + 1 := ⟨p - 1, by have := h.np; omega⟩
  exact ⟨by simpa using h.ins, by simpa using h.blo, by simpa using h.pen, h.np, h.bB, h.bP⟩
theorem check_ok (hT : ∀ t ∈ T, t ≤ 32) (S : Sto) : f__check_torn [.lst (dI T)] S = some (.ok .non, S) := by
  have c3 : c_BLOCK = .int 32 := rfl
  have go : ∀ (y : List Nat) (v : U), (∀ c ∈ y, c ≤ 32) → ∃ v' : U, forD (tgName 1) l0__check_torn (dI y) [.bo (.lst (dI T)), v.1] S = some (.nx [.bo (.lst (dI T)), v'.1], S) := by
    intro y
    induction y with
    | nil => exact fun v _ => ⟨v, rfl⟩
    | cons c y ih =>
      intro v hy
      obtain ⟨v', e⟩ := ih (uV (.int c)) fun d hd => hy d (List.mem_cons_of_mem _ hd)
      refine ⟨v', ?_⟩
      rw [← e]
      have e2 : dI (c :: y) = .int c :: dI y := rfl
      have := hy c List.mem_cons_self
      have g1 : (c : Int) ≤ 32 := by omega
      rw [e2]
      simp [l0__check_torn, sChain, g1, c3]
  obtain ⟨v', e⟩ := go T uN hT
  simp [f__check_torn, b__check_torn, e]
theorem count_p (h : Dk S p B P C L T) : f_Disk_pending_count [.obj 1] S = some (.ok (.int (P.length : Nat)), S) := by
  have d0 := h.stI
  have df := dref_at h.pen
  have pl := PD_len P
  simp [f_Disk_pending_count, b_Disk_pending_count, d0, aP, lk_p, df, pl]
theorem count_c (h : Dk S p B P C L T) : f_Disk_cut_count [.obj 1] S = some (.ok (.int C), S) := by
  have d0 := h.stI
  simp [f_Disk_cut_count, b_Disk_cut_count, d0, aC, lk_c]
theorem no_size (p C L T) : (fl p C L T).lookup ("size" : Str) = none := rfl
theorem size_ok (h : Dk S p B P C L T) : f_Disk_size [.obj 1] S = some (.ok (.int (B.length : Nat)), S) := by
  have d0 := h.stI
  have df := dref_blo h
  have bl := BD_len B
  simp [f_Disk_size, b_Disk_size, d0, aB, lk_b, df, bl]
theorem check_a (S : Sto) : f__check_torn [.lst [.int 32, .int 33]] S = some (.error ⟨("OutOfRange" : Str), some [(("name" : Str), .str "torn")]⟩, S) := by
  have c3 : c_BLOCK = .int 32 := rfl
  simp [f__check_torn, b__check_torn, l0__check_torn, sChain, c3]
theorem check_b (S : Sto) : f__check_torn [.lst [.int (-1)]] S = some (.error ⟨("OutOfRange" : Str), some [(("name" : Str), .str "torn")]⟩, S) := by
  have c3 : c_BLOCK = .int 32 := rfl
  simp [f__check_torn, b__check_torn, l0__check_torn, sChain, c3]
theorem at_bad (h : Dk S p B P C L T) {i : Int} (hi : i = -1 ∨ i = (B.length : Nat)) : f_Disk__check_at [.obj 1, .int i] S = some (.error ⟨("OutOfRange" : Str), some [(("name" : Str), .str "at")]⟩, S) := by
  rcases hi with rfl | rfl
  · simp [f_Disk__check_at, b_Disk__check_at, sChain]
  · exact at_no h
theorem power_ok (h : Dk S p B P C L T) {T' : List Nat} (hT : ∀ t ∈ T', t ≤ 32) : ∃ S' p', f_Disk_cut_power [.obj 1, .lst (dI T')] S = some (.ok .non, S') ∧ Dk S' p' (cutK T' P B P.length) [] (C + 1) (Lf none) [] ∧ S'[0]? = S[0]? := by
  obtain ⟨S', p', e, h1, z⟩ := cut_ok h hT
  have e1 := check_ok hT S
  have ol : oList [.lst (dI T')] = some (.lst (dI T')) := rfl
  have d0 := h.stI
  obtain ⟨n1, _⟩ := no_m p C L T
  exact ⟨S', p', by simp [f_Disk_cut_power, b_Disk_cut_power, d__check_torn, e1, d0, n1, ol, d_Disk__cut, e], h1, z⟩
theorem power_no {d : D} (e : f__check_torn [d] S = some (.error ⟨("OutOfRange" : Str), some [(("name" : Str), .str "torn")]⟩, S)) : f_Disk_cut_power [.obj 1, d] S = some (.error ⟨("OutOfRange" : Str), some [(("name" : Str), .str "torn")]⟩, S) := by
  simp [f_Disk_cut_power, b_Disk_cut_power, d__check_torn, e]
/-! reads -/
def rdK (P : List (Nat × List Nat)) (x : List Nat) (a : Nat) : Nat → List Nat
  | 0 => x
  | i + 1 => match P[i]? with
    | some z => if z.1 = a then z.2 else rdK P x a i
    | none => rdK P x a i
theorem rdK_Blk {x : List Nat} {a : Nat} (hx : Blk x) (hP : ∀ z ∈ P, z.1 < B.length ∧ Blk z.2) : ∀ i, Blk (rdK P x a i)
  | 0 => hx
  | i + 1 => by
    unfold rdK
    split
    · rename_i z hz
      split
      · exact (hP z (List.mem_of_getElem? hz)).2
      · exact rdK_Blk hx hP i
    · exact rdK_Blk hx hP i
theorem rdK_s {x : List Nat} {a i : Nat} {z : Nat × List Nat} (hz : P[i]? = some z) : rdK P x a (i + 1) = if z.1 = a then z.2 else rdK P x a i := by
  conv => lhs; unfold rdK
  rw [hz]
theorem read_ok (h : Dk S p B P C L T) {a : Nat} {x : List Nat} (ha : B[a]? = some x) : f_Disk_read [.obj 1, .int (a : Nat)] S = some (.ok (.lst (dI (rdK P x a P.length))), S) := by
  have hl := (List.getElem?_eq_some_iff.mp ha).1
  have e1 := at_ok h hl
  have d0 := h.stI
  have df := dref_blo h
  have ix := at_nat (BD_at ha)
  obtain ⟨_, _, n3, _⟩ := no_m p C L T
  obtain ⟨ρ', S1, e, v3, v4, rfl, rfl⟩ := foR_nx (it := itId) (n := p) (t := tgTup 2 (tgCons (tgName 3) (tgCons (tgName 4) tgNil))) (b := l0_Disk_read) (PD P)
    (fun i ρ S' => ∃ v3 v4 : U, ρ = [.val (.obj 1), .bo (.int (a : Nat)), .val (.lst (dI (rdK P x a i))), v3.1, v4.1] ∧ S' = S)
    (fun i ρ S' hi ⟨v3, v4, h2, h3⟩ => by rw [h3]; exact stL_at h.pen)
    (fun i d ρ S' hd ⟨v3, v4, h2, h3⟩ => by
      subst h2; subst h3
      obtain ⟨z, hz, rfl⟩ : ∃ z, P[i]? = some z ∧ D.tup [.int (z.1 : Nat), .lst (dI z.2)] = d := by simpa [PD] using hd
      refine ⟨[.val (.obj 1), .bo (.int (a : Nat)), .val (.lst (dI (rdK P x a i))), .val (.int (z.1 : Nat)), .val (.lst (dI z.2))], by simp [itId, tgTup, tgCons, tgNil], [.val (.obj 1), .bo (.int (a : Nat)), .val (.lst (dI (rdK P x a (i + 1)))), .val (.int (z.1 : Nat)), .val (.lst (dI z.2))], S', ?_, uV (.int (z.1 : Nat)), uV (.lst (dI z.2)), rfl, rfl⟩
      rw [rdK_s hz]
      by_cases g : z.1 = a
      · rw [if_pos g]
        subst g
        simp [l0_Disk_read]
      · rw [if_neg g]
        have g2 : ¬ (z.1 : Int) = a := by omega
        simp [l0_Disk_read, g2, g])
    (ρ := [.val (.obj 1), .bo (.int (a : Nat)), .val (.lst (dI x)), .no, .no]) (S := S) ⟨uN, uN, rfl, rfl⟩
  rw [PD_len] at e
  have ol : ∀ z, oList [.lst (dI z)] = some (.lst (dI z)) := fun _ => rfl
  simp [f_Disk_read, b_Disk_read, d0, n3, d_Disk__check_at, e1, aB, lk_b, df, ix, aP, lk_p, e, ol]
def PL (P : List (Nat × List Nat)) : List D := P.map fun z => .lst [.int (z.1 : Nat), .lst (dI z.2)]
theorem PL_len (P : List (Nat × List Nat)) : (PL P).length = P.length := by simp [PL]
theorem PL_at {i : Nat} {z : Nat × List Nat} (h : P[i]? = some z) : (PL P)[i]? = some (.lst [.int (z.1 : Nat), .lst (dI z.2)]) := by simp [PL, h]
theorem lread_ok {a : Nat} {x : List Nat} (ha : B[a]? = some x) : f__law_read [.lst (BD B), .lst (PL P), .int (a : Nat)] S = some (.ok (.lst (dI (rdK P x a P.length))), S) := by
  have ix := at_nat (BD_at ha)
  obtain ⟨ρ', S', e, i, v4, h1, h2, rfl, rfl⟩ := forD_nx (t := tgName 4) (b := l0__law_read)
    (fun L ρ S' => ∃ (i : Nat) (v4 : U), i ≤ P.length ∧ L = (PL P).drop i ∧ ρ = [.bo (.lst (BD B)), .bo (.lst (PL P)), .bo (.int (a : Nat)), .val (.lst (dI (rdK P x a i))), v4.1] ∧ S' = S)
    (fun d L ρ S' ⟨i, v4, h1, h2, h3, h4⟩ => by
      subst h3; subst h4
      have hi : i < P.length := by
        rcases Nat.lt_or_ge i P.length with h | h
        · exact h
        · rw [List.drop_eq_nil_of_le (by rw [PL_len]; exact h)] at h2; cases h2
      obtain ⟨z, hz⟩ : ∃ z, P[i]? = some z := ⟨_, List.getElem?_eq_getElem hi⟩
      have hd := List.drop_eq_getElem_cons (l := PL P) (i := i) (by rw [PL_len]; exact hi)
      rw [hd] at h2
      injection h2 with h5 h6
      have hat := PL_at hz
      rw [List.getElem?_eq_getElem (by rw [PL_len]; exact hi)] at hat
      rw [Option.some.inj hat] at h5
      subst h5
      refine ⟨[.bo (.lst (BD B)), .bo (.lst (PL P)), .bo (.int (a : Nat)), .val (.lst (dI (rdK P x a i))), .val (.lst [.int (z.1 : Nat), .lst (dI z.2)])], by simp, [.bo (.lst (BD B)), .bo (.lst (PL P)), .bo (.int (a : Nat)), .val (.lst (dI (rdK P x a (i + 1)))), .val (.lst [.int (z.1 : Nat), .lst (dI z.2)])], _, ?_, i + 1, uV (.lst [.int (z.1 : Nat), .lst (dI z.2)]), hi, h6, rfl, rfl⟩
      rw [rdK_s hz]
      by_cases g : z.1 = a
      · rw [if_pos g]
        subst g
        simp [l0__law_read]
      · rw [if_neg g]
        have g2 : ¬ (z.1 : Int) = a := by omega
        simp [l0__law_read, g2, g])
    (PL P) [.bo (.lst (BD B)), .bo (.lst (PL P)), .bo (.int (a : Nat)), .val (.lst (dI x)), .no] S ⟨0, uN, by omega, rfl, rfl, rfl⟩
  have hi : i = P.length := by
    rcases Nat.lt_or_ge i P.length with h | h
    · have z : (PL P).length - i = 0 := by rw [← List.length_drop, ← h2]; rfl
      rw [PL_len] at z; omega
    · omega
  rw [hi] at e
  generalize BD B = BB at *
  generalize PL P = PP at *
  simp [f__law_read, b__law_read, ix, e]
/-! bad blocks -/
theorem bad31 (S : Sto) : f__is_block [.lst (List.replicate 31 (.int 0))] S = some (.ok (.bl false), S) := isb_31 S
theorem bad33 (S : Sto) : f__is_block [.lst (List.replicate 33 (.int 0))] S = some (.ok (.bl false), S) := by
  have c3 : c_BLOCK = .int 32 := rfl
  simp [f__is_block, b__is_block, c3]
theorem zeros_go (d : D) (x : D) (k : Nat) (r : List D) (S : Sto) : ∀ v : U, ∃ v' : U, forD (tgName 1) l0__is_block (List.replicate k (.int 0) ++ r) [.bo d, v.1] S = forD (tgName 1) l0__is_block r [.bo d, v'.1] S := by
  induction k with
  | zero => exact fun v => ⟨v, rfl⟩
  | succ k ih =>
    intro v
    obtain ⟨v', e⟩ := ih (uV (.int 0))
    refine ⟨v', ?_⟩
    rw [← e, List.replicate_succ]
    simp [l0__is_block, sChain]
theorem bad256 (S : Sto) : f__is_block [.lst (List.replicate 31 (.int 0) ++ [.int 256])] S = some (.ok (.bl false), S) := by
  have c3 : c_BLOCK = .int 32 := rfl
  obtain ⟨v', e⟩ := zeros_go (.lst (List.replicate 31 (.int 0) ++ [.int 256])) .non 31 [.int 256] S uN
  have hl : (List.replicate 31 (D.int 0) ++ [D.int 256]).length = 32 := rfl
  have e2 : forD (tgName 1) l0__is_block [.int 256] [.bo (.lst (List.replicate 31 (.int 0) ++ [.int 256])), v'.1] S = some (.ret (.bl false), S) := by
    generalize D.lst (List.replicate 31 (.int 0) ++ [.int 256]) = d
    simp [l0__is_block, sChain]
  rw [e2] at e
  have e : forD (tgName 1) l0__is_block (List.replicate 31 (.int 0) ++ [.int 256]) [.bo (.lst (List.replicate 31 (.int 0) ++ [.int 256])), .no] S = some (.ret (.bl false), S) := e
  generalize List.replicate 31 (D.int 0) ++ [D.int 256] = R at *
  simp [f__is_block, b__is_block, c3, hl, e]
theorem badm1 (S : Sto) : f__is_block [.lst ([.int (-1)] ++ List.replicate 31 (.int 0))] S = some (.ok (.bl false), S) := by
  have c3 : c_BLOCK = .int 32 := rfl
  have hl : ([D.int (-1)] ++ List.replicate 31 (D.int 0)).length = 32 := rfl
  have e : ∀ d, forD (tgName 1) l0__is_block ([D.int (-1)] ++ List.replicate 31 (D.int 0)) [.bo d, .no] S = some (.ret (.bl false), S) := fun d => by
    generalize List.replicate 31 (D.int 0) = R
    simp [l0__is_block, sChain]
  have e := e (.lst ([D.int (-1)] ++ List.replicate 31 (D.int 0)))
  generalize [D.int (-1)] ++ List.replicate 31 (D.int 0) = R at *
  simp [f__is_block, b__is_block, c3, hl, e]
theorem write_no (h : Dk S p B P C L T) {a : Nat} (ha : a < B.length) {d : D} (hd : f__is_block [d] S = some (.ok (.bl false), S)) : f_Disk_write [.obj 1, .int (a : Nat), d] S = some (.error ⟨("OutOfRange" : Str), some [(("name" : Str), .str "block")]⟩, S) := by
  have e1 := at_ok h ha
  have d0 := h.stI
  obtain ⟨_, n2, n3, _⟩ := no_m p C L T
  simp [f_Disk_write, b_Disk_write, d0, n3, d_Disk__check_at, e1, d__is_block, hd]
theorem write_bad (h : Dk S p B P C L T) {i : Int} (hi : i = -1 ∨ i = (B.length : Nat)) {d : D} : f_Disk_write [.obj 1, .int i, d] S = some (.error ⟨("OutOfRange" : Str), some [(("name" : Str), .str "at")]⟩, S) := by
  have e1 := at_bad h hi
  have d0 := h.stI
  obtain ⟨_, n2, n3, _⟩ := no_m p C L T
  simp [f_Disk_write, b_Disk_write, d0, n3, d_Disk__check_at, e1]
theorem read_bad (h : Dk S p B P C L T) {i : Int} (hi : i = -1 ∨ i = (B.length : Nat)) : f_Disk_read [.obj 1, .int i] S = some (.error ⟨("OutOfRange" : Str), some [(("name" : Str), .str "at")]⟩, S) := by
  have e1 := at_bad h hi
  have d0 := h.stI
  obtain ⟨_, n2, n3, _⟩ := no_m p C L T
  simp [f_Disk_read, b_Disk_read, d0, n3, d_Disk__check_at, e1]
/-! calls of the law -/
theorem t2 : t_OutOfRange.lookup ("OutOfRange" : Str) = some true := rfl
theorem xs (x : D) : xField x_name ("name" : Str) ⟨("OutOfRange" : Str), some [(("name" : Str), x)]⟩ = some x := rfl
theorem raw_w (h : Dk S p B P C L T) {i d : D} {r} (e : f_Disk_write [.obj 1, i, d] S = some r) : f__law_call_raw [.obj 1, .int 0, i, d] S = some r := by
  have d0 := h.stI
  obtain ⟨_, _, _, _, n5, _⟩ := no_m p C L T
  obtain ⟨r, S'⟩ := r
  cases r <;> simp [f__law_call_raw, b__law_call_raw, d0, n5, d_Disk_write, e]
theorem raw_c (h : Dk S p B P C L T) {i d : D} {r} (e : f_Disk_cut_power [.obj 1, i] S = some r) : f__law_call_raw [.obj 1, .int 1, i, d] S = some r := by
  have d0 := h.stI
  obtain ⟨_, _, _, _, _, _, n7, _⟩ := no_m p C L T
  obtain ⟨r, S'⟩ := r
  cases r <;> simp [f__law_call_raw, b__law_call_raw, d0, n7, d_Disk_cut_power, e]
theorem raw_r (h : Dk S p B P C L T) {i d : D} {r} (e : f_Disk_read [.obj 1, i] S = some r) : f__law_call_raw [.obj 1, .int 2, i, d] S = some r := by
  have d0 := h.stI
  obtain ⟨_, _, _, n4, _⟩ := no_m p C L T
  obtain ⟨r, S'⟩ := r
  cases r <;> simp [f__law_call_raw, b__law_call_raw, d0, n4, d_Disk_read, e]
theorem lc_go {w i d : D} {S' : Sto} (e : f__law_call_raw [.obj 1, w, i, d] S = some (.ok .non, S')) : f__law_call [.obj 1, w, i, d] S = some (.ok .non, S') := by
  simp [f__law_call, b__law_call, d__law_call_raw, e]
theorem lc_no {w i d : D} {S' : Sto} {x : Str} (e : f__law_call_raw [.obj 1, w, i, d] S = some (.error ⟨("OutOfRange" : Str), some [(("name" : Str), .str x)]⟩, S')) : f__law_call [.obj 1, w, i, d] S = some (.ok (.tup [.str "refused", .str x]), S') := by
  have l2 : (2 : Nat) ≤ sizeLine := by decide
  simp [f__law_call, b__law_call, d__law_call_raw, e, t2, exAt, xs, l2]
end
end K57
namespace K57
open PySem DL L2
theorem dI_of {m : Nat} : ∀ ys : List D, (∀ y ∈ ys, ∃ c : Nat, y = .int c ∧ c ≤ m) → ∃ b : List Nat, ys = dI b ∧ b.length = ys.length ∧ ∀ c ∈ b, c ≤ m
  | [], _ => ⟨[], rfl, rfl, by simp⟩
  | y :: ys, h => by
    obtain ⟨b, h1, h2, h3⟩ := dI_of ys fun x hx => h x (List.mem_cons_of_mem _ hx)
    obtain ⟨c, rfl, hc⟩ := h y List.mem_cons_self
    exact ⟨c :: b, by rw [h1]; rfl, by simp [h2], fun x hx => by rcases List.mem_cons.mp hx with rfl | hx; · exact hc
                                                                 · exact h3 x hx⟩
theorem mul_32 {n : Nat} (h : n ≤ 1000) : oMul (.lst [.int 32]) (.int (n : Nat)) = some (.lst (dI (List.replicate n 32))) := by
  show cif (-1000000 ≤ (n : Int) ∧ (n : Int) ≤ 1000000 ∧ 1 * (n : Int).toNat ≤ sizeLine) (some (D.lst (List.replicate (n : Int).toNat [D.int 32]).flatten)) none = _
  rw [line_eq, cif_pos ⟨by omega, by omega, by omega⟩, Int.toNat_natCast]
  congr 2
  induction n with
  | zero => rfl
  | succ k ih => rw [List.replicate_succ, List.flatten_cons, ih (by omega), List.replicate_succ]; rfl
theorem law_torn_ok {ds : List Int} {q : Int} {tl : Sto} (hq : 0 ≤ q) {n : Nat} (hn : n ≤ 1000) : ∃ (T : List Nat) (q' : Int), f__law_torn [.obj 0, .int (n : Nat)] (bx ds q :: tl) = some (.ok (.lst (dI T)), bx ds q' :: tl) ∧ (∀ t ∈ T, t ≤ 32) ∧ T.length ≤ 1000 ∧ 0 ≤ q' := by
  obtain ⟨r, e1, a1, b1⟩ := draw_ex (ds := ds) (p := q) (tl := tl) (m := 4) hq (by decide)
  have er : oRng [.int (n : Nat)] = some (dRng 0 n) := by rw [rng_1 (by omega) (by omega)]; rfl
  have l0 : (0 : Nat) ≤ sizeLine := by decide
  have l1 : (1 : Nat) ≤ sizeLine := by decide
  have m32 := mul_32 hn
  by_cases r0 : r = 0
  · subst r0
    exact ⟨[], q + 1, by simp [f__law_torn, b__law_torn, d__law_draw, e1, l0, dI], by simp, by simp, by omega⟩
  by_cases r1 : r = 1
  · subst r1
    exact ⟨List.replicate n 32, q + 1, by simp [f__law_torn, b__law_torn, d__law_draw, e1, l1, m32], by simp, by simp; omega, by omega⟩
  by_cases r2 : r = 2
  · subst r2
    obtain ⟨ys, S', e, hl, hQ, q', rfl, q0⟩ := lcD_all (t := tgName 3) (ft := sYes) (fe := sBin oMul (cI 32) (sCallU f__law_draw (d__law_draw.drop 0) (sCons (sVar 0) (sCons (cI 2) sNil)))) (ρ := [.val (.obj 0), .bo (.int (n : Nat)), .val (.int 2), .no])
      (fun S => ∃ q', S = bx ds q' :: tl ∧ 0 ≤ q') (fun y => ∃ c : Nat, y = .int c ∧ c ≤ 32) (dRng 0 n) [] (bx ds (q + 1) :: tl) ⟨q + 1, rfl, by omega⟩ (by rw [dRng_len, line_eq]; simp; omega) (fun d hd S ⟨q, hS, q0⟩ => by
        subst hS
        obtain ⟨r, e, r0, r1⟩ := draw_ex (ds := ds) (p := q) (tl := tl) (m := 2) q0 (by decide)
        have cm := cMul_l (i := 32) (j := r) (by decide) (by decide)
        exact ⟨[.val (.obj 0), .bo (.int (n : Nat)), .val (.int 2), .val d], by simp, by simp, .int (32 * r), bx ds (q + 1) :: tl, by simp [d__law_draw, e, cm], ⟨(32 * r).toNat, by congr 1; omega, by omega⟩, q + 1, rfl, by omega⟩)
    obtain ⟨T, rfl, hT, hc⟩ := dI_of ys hQ
    refine ⟨T, q', ?_, hc, by rw [hT, hl, dRng_len]; omega, q0⟩
    simp [d__law_draw] at e
    simp [f__law_torn, b__law_torn, d__law_draw, e1, e0__law_torn, er, e]
  · obtain ⟨ys, S', e, hl, hQ, q', rfl, q0⟩ := lcD_all (t := tgName 3) (ft := sYes) (fe := sCallU f__law_draw (d__law_draw.drop 0) (sCons (sVar 0) (sCons (cI 33) sNil))) (ρ := [.val (.obj 0), .bo (.int (n : Nat)), .val (.int r), .no])
      (fun S => ∃ q', S = bx ds q' :: tl ∧ 0 ≤ q') (fun y => ∃ c : Nat, y = .int c ∧ c ≤ 32) (dRng 0 n) [] (bx ds (q + 1) :: tl) ⟨q + 1, rfl, by omega⟩ (by rw [dRng_len, line_eq]; simp; omega) (fun d hd S ⟨q, hS, q0⟩ => by
        subst hS
        obtain ⟨r', e, r0, r1⟩ := draw_ex (ds := ds) (p := q) (tl := tl) (m := 33) q0 (by decide)
        exact ⟨[.val (.obj 0), .bo (.int (n : Nat)), .val (.int r), .val d], by simp, by simp, .int r', bx ds (q + 1) :: tl, by simp [d__law_draw, e], ⟨r'.toNat, by congr 1; omega, by omega⟩, q + 1, rfl, by omega⟩)
    obtain ⟨T, rfl, hT, hc⟩ := dI_of ys hQ
    refine ⟨T, q', ?_, hc, by rw [hT, hl, dRng_len]; omega, q0⟩
    simp [d__law_draw] at e
    simp [f__law_torn, b__law_torn, d__law_draw, e1, r0, r1, r2, e1__law_torn, er, e]
theorem law_block_ok {ds : List Int} {q : Int} {tl : Sto} (hq : 0 ≤ q) : ∃ (b : List Nat) (q' : Int), f__law_block [.obj 0] (bx ds q :: tl) = some (.ok (.lst (dI b)), bx ds q' :: tl) ∧ Blk b ∧ 0 ≤ q' := by
  obtain ⟨r, e1, a1, b1⟩ := draw_ex (ds := ds) (p := q) (tl := tl) (m := 4) hq (by decide)
  have er : oRng [.int 32] = some (dRng 0 32) := rng_1 (by omega) (by omega)
  have l1 : (1 : Nat) ≤ sizeLine := by decide
  by_cases r0 : r = 0
  · subst r0
    have m32 : oMul (.lst [.int 0]) (.int 32) = some (.lst (dI (List.replicate 32 0))) := by rw [mul_l0 (by omega) (by omega)]; simp [dI]
    refine ⟨List.replicate 32 0, q + 1, ?_, ⟨by simp, fun c hc => by rw [(List.mem_replicate.mp hc).2]; decide⟩, by omega⟩
    generalize dI (List.replicate 32 0) = Z at *
    simp [f__law_block, b__law_block, d__law_draw, e1, l1, m32]
  by_cases r1 : r = 1
  · subst r1
    obtain ⟨ys, S', e, hl, hQ, rfl⟩ := lcD_all (t := tgName 2) (ft := sYes) (fe := sBin oSub (cI 255) (sVarB 2)) (ρ := [.val (.obj 0), .val (.int 1), .no])
      (fun S => S = bx ds (q + 1) :: tl) (fun y => ∃ c : Nat, y = .int c ∧ c ≤ 255) (dRng 0 32) [] (bx ds (q + 1) :: tl) rfl (by rw [dRng_len]; decide) (fun d hd S hS => by
        subst hS
        obtain ⟨k, hk1, rfl⟩ : ∃ k, k < 32 ∧ D.int (k : Nat) = d := by simpa [dRng] using hd
        exact ⟨[.val (.obj 0), .val (.int 1), .val (.int (k : Nat))], by simp, by simp, .int (255 - k), bx ds (q + 1) :: tl, by simp, ⟨(255 - (k : Int)).toNat, by congr 1; omega, by omega⟩, rfl⟩)
    obtain ⟨b, rfl, hb, hc⟩ := dI_of ys hQ
    refine ⟨b, q + 1, ?_, ⟨by rw [hb, hl, dRng_len], fun c h => by have := hc c h; omega⟩, by omega⟩
    simp at e
    simp [f__law_block, b__law_block, d__law_draw, e1, e0__law_block, er, e]
  · obtain ⟨ys, S', e, hl, hQ, q', rfl, q0⟩ := lcD_all (t := tgName 2) (ft := sYes) (fe := sCallU f__law_draw (d__law_draw.drop 0) (sCons (sVar 0) (sCons (cI 256) sNil))) (ρ := [.val (.obj 0), .val (.int r), .no])
      (fun S => ∃ q', S = bx ds q' :: tl ∧ 0 ≤ q') (fun y => ∃ c : Nat, y = .int c ∧ c ≤ 255) (dRng 0 32) [] (bx ds (q + 1) :: tl) ⟨q + 1, rfl, by omega⟩ (by rw [dRng_len]; decide) (fun d hd S ⟨q, hS, q0⟩ => by
        subst hS
        obtain ⟨r', e, r0, r1⟩ := draw_ex (ds := ds) (p := q) (tl := tl) (m := 256) q0 (by decide)
        exact ⟨[.val (.obj 0), .val (.int r), .val d], by simp, by simp, .int r', bx ds (q + 1) :: tl, by simp [d__law_draw, e], ⟨r'.toNat, by congr 1; omega, by omega⟩, q + 1, rfl, by omega⟩)
    obtain ⟨b, rfl, hb, hc⟩ := dI_of ys hQ
    refine ⟨b, q', ?_, ⟨by rw [hb, hl, dRng_len], fun c h => by have := hc c h; omega⟩, q0⟩
    simp [d__law_draw] at e
    simp [f__law_block, b__law_block, d__law_draw, e1, r0, r1, e1__law_block, er, e]
theorem rf_wf (w : Str) (h : PyData.strOk w = true) : wf 1 (.tup [.str "refused", .str w]) = true := by
  have h2 : PyData.strOk ("refused" : Str) = true := by decide +kernel
  simp [wf, h, h2]
theorem ne_at : dNe (.tup [.str "refused", .str "at"]) (.tup [.str "refused", .str "at"]) = some (.bl false) := dNe_self (rf_wf "at" (by decide +kernel))
theorem ne_block : dNe (.tup [.str "refused", .str "block"]) (.tup [.str "refused", .str "block"]) = some (.bl false) := dNe_self (rf_wf "block" (by decide +kernel))
theorem ne_many : dNe (.tup [.str "refused", .str "many"]) (.tup [.str "refused", .str "many"]) = some (.bl false) := dNe_self (rf_wf "many" (by decide +kernel))
theorem ne_torn : dNe (.tup [.str "refused", .str "torn"]) (.tup [.str "refused", .str "torn"]) = some (.bl false) := dNe_self (rf_wf "torn" (by decide +kernel))
theorem ne_cut : dNe (.tup [.str "refused", .str "cut"]) (.tup [.str "refused", .str "cut"]) = some (.bl false) := dNe_self (rf_wf "cut" (by decide +kernel))
section
variable {p : Nat} {B : List (List Nat)} {P : List (Nat × List Nat)} {C : Int} {L : D} {T : List Nat} {n : Nat}
theorem pick4 {x : Int} {a b c d : D} (h0 : 0 ≤ x) (h1 : x < 4) : ∃ z, oIx (.lst [a, b, c, d]) (.int x) = some z ∧ (z = a ∨ z = b ∨ z = c ∨ z = d) := by
  have : x = 0 ∨ x = 1 ∨ x = 2 ∨ x = 3 := by omega
  rcases this with rfl | rfl | rfl | rfl
  · exact ⟨a, rfl, by simp⟩
  · exact ⟨b, rfl, by simp⟩
  · exact ⟨c, rfl, by simp⟩
  · exact ⟨d, rfl, by simp⟩
theorem pick2 {x : Int} {n : Nat} (h0 : 0 ≤ x) (h1 : x < 2) : ∃ z : Int, oIx (.lst [.int (-1), .int (n : Nat)]) (.int x) = some (.int z) ∧ (z = -1 ∨ z = (n : Nat)) := by
  have : x = 0 ∨ x = 1 := by omega
  rcases this with rfl | rfl
  · exact ⟨-1, rfl, by simp⟩
  · exact ⟨n, rfl, by simp⟩
theorem wrong_ok {ds : List Int} {q : Int} {tl : Sto} (hq : 0 ≤ q) (h : Dk (bx ds q :: tl) p B P C L T) (hn : B.length = n) (n0 : 0 < n) : ∃ q', f__law_wrong [.obj 0, .obj 1, .int (n : Nat)] (bx ds q :: tl) = some (.ok (.bl true), bx ds q' :: tl) ∧ 0 ≤ q' := by
  obtain ⟨r1, f1, a1, b1⟩ := draw_ex (ds := ds) (p := q) (tl := tl) (m := 4) hq (by decide)
  obtain ⟨r2, f2, a2, b2⟩ := draw_ex (ds := ds) (p := q + 1) (tl := tl) (m := 2) (by omega) (by decide)
  obtain ⟨r3, f3, a3, b3⟩ := draw_ex (ds := ds) (p := q + 1 + 1) (tl := tl) (m := 2) (by omega) (by decide)
  have h2 : Dk (bx ds (q + 1 + 1) :: tl) p B P C L T := h.box
  have h3 : Dk (bx ds (q + 1 + 1 + 1) :: tl) p B P C L T := h.box
  have m31 : oMul (.lst [.int 0]) (.int 31) = some (.lst (List.replicate 31 (.int 0))) := mul_l0 (n := 31) (by omega) (by omega)
  have m33 : oMul (.lst [.int 0]) (.int 33) = some (.lst (List.replicate 33 (.int 0))) := mul_l0 (n := 33) (by omega) (by omega)
  have a1' := add_l (a := List.replicate 31 (.int 0)) (b := [.int 256]) (by simp)
  have a2' := add_l (a := [.int (-1)]) (b := List.replicate 31 (.int 0)) (by simp)
  obtain ⟨bad, g1, hbad⟩ := pick4 (a := .lst (List.replicate 31 (.int 0))) (b := .lst (List.replicate 33 (.int 0))) (c := .lst (List.replicate 31 (.int 0) ++ [.int 256])) (d := .lst ([.int (-1)] ++ List.replicate 31 (.int 0))) a1 b1
  have isb : ∀ S, f__is_block [bad] S = some (.ok (.bl false), S) := by
    rcases hbad with rfl | rfl | rfl | rfl
    · exact bad31
    · exact bad33
    · exact bad256
    · exact badm1
  have dr : ∀ S, dref S bad = bad := by
    rcases hbad with rfl | rfl | rfl | rfl <;> exact fun _ => rfl
  obtain ⟨z2, g2, hz2⟩ := pick2 (n := n) a2 b2
  obtain ⟨z3, g3, hz3⟩ := pick2 (n := n) a3 b3
  have e2 := lc_no (raw_w h2 (write_bad h2 (i := z2) (by rw [hn]; exact hz2) (d := bad)))
  have e3 := lc_no (raw_w h2 (write_no h2 (a := n - 1) (by omega) (isb _)))
  have e4 := lc_no (raw_c h2 (power_no (check_a _)) (d := .int 0))
  have e5 := lc_no (raw_c h2 (power_no (check_b _)) (d := .int 0))
  have e6 := lc_no (raw_r h3 (read_bad h3 (i := z3) (by rw [hn]; exact hz3)) (d := .int 0))
  have n1 : ((n - 1 : Nat) : Int) = (n : Int) - 1 := by omega
  rw [n1] at e3
  have l1 : (1 : Nat) ≤ sizeLine := by decide
  have l2 : (2 : Nat) ≤ sizeLine := by decide
  have l4 : (4 : Nat) ≤ sizeLine := by decide
  have eq_at : dEq (.tup [.str "refused", .str "at"]) (.tup [.str "refused", .str "at"]) = some (.bl true) := dEq_self (rf_wf "at" (by decide +kernel))
  refine ⟨q + 1 + 1 + 1, ?_, by omega⟩
  clear h h2 h3 hbad isb
  generalize List.replicate 31 (D.int 0) ++ [D.int 256] = R1 at *
  generalize [D.int (-1)] ++ List.replicate 31 (D.int 0) = R2 at *
  generalize List.replicate 31 (D.int 0) = R3 at *
  generalize List.replicate 33 (D.int 0) = R4 at *
  simp [f__law_wrong, b__law_wrong, l1, m31, m33, a1', a2', l4, l2, d__law_draw, f1, g1, f2, g2, d__law_call, dr, e2, ne_at, e3, ne_block, e4, e5, ne_torn, f3, g3, e6, eq_at]
end
end K57
namespace K57
open PySem DL L2
theorem PL_nil : PL [] = [] := rfl
abbrev en (s0 : Sl) (n : Nat) (B : List (List Nat)) (P : List (Nat × List Nat)) (C : Int) (v7 v8 v9 v10 v11 v12 v13 v14 v15 v16 v17 : Sl) : Rho :=
  [s0, .val (.obj 0), .val (.int (n : Nat)), .val (.obj 1), .own (.lst (BD B)), .own (.lst (PL P)), .val (.int C), v7, v8, v9, v10, v11, v12, v13, v14, v15, v16, v17]
theorem kl : kitB "list" "list" = some true := by decide +kernel
theorem wf_dI (x : List Nat) : wf 1 (.lst (dI x)) = true := by
  simp only [wf, List.all_eq_true]
  intro d hd
  obtain ⟨c, _, rfl⟩ := List.mem_map.mp hd
  rfl
theorem set0 {b : List Nat} (hb : Blk b) (d : D) : setAt (dI b) (.int 0) d = some ((dI b).set 0 d) := setAt_nat (a := 0) d (by rw [dI_len, hb.len]; decide)
noncomputable def xA : SS := (bSeq (bIf (sBl (sIsN true (eMeth "Disk" "flush" f_Disk_flush d_Disk_flush (sVar 3) sNil))) (bRet (cB false)) bNil)
    (bSeq (bFz 5 (bFor (sItems (sVarS 5)) (tgName 9) l0_law))
    (bSetOwn 5 (sLst sNil))))
noncomputable def xB : SS := (bSeq (bSet 10 (sCallU f__law_torn (d__law_torn.drop 0) (sCons (sVar 1) (sCons (sCallU f__law_draw (d__law_draw.drop 0) (sCons (sVar 1) (sCons (sBin oAdd (sCall oLen (sCons (sVarB 5) sNil)) (cI 2)) sNil))) sNil))))
    (bSeq (bIf (sBl (sIsN true (sCallU f__law_call (d__law_call.drop 0) (sCons (sVar 3) (sCons (cI 1) (sCons (sCall oList (sCons (sVarB 10) sNil)) (sCons (cI 0) sNil))))))) (bRet (cB false)) bNil)
    (bSeq (bFor (sRng (sCons (sCall oMin (sCons (sCall oLen (sCons (sVarB 10) sNil)) (sCons (sCall oLen (sCons (sVarB 5) sNil)) sNil))) sNil)) (tgName 11) l1_law)
    (bSeq (bSetOwn 5 (sLst sNil))
    (bSet 6 (sBin oAdd (sVarB 6) (cI 1)))))))
noncomputable def xC : SS := (bIf (sNot (sTru (sCallU f__law_wrong (d__law_wrong.drop 0) (sCons (sVar 1) (sCons (sVar 3) (sCons (sVar 2) sNil)))))) (bRet (cB false)) bNil)
noncomputable def xE : SS := (bSeq (bSet 12 (sCallU f__law_draw (d__law_draw.drop 0) (sCons (sVar 1) (sCons (sVarB 2) sNil))))
    (bSeq (bSet 13 (sCallU f__law_block (d__law_block.drop 0) (sCons (sVar 1) sNil)))
    (bSeq (bSetOwn 14 (sCall oList (sCons (sVarB 13) sNil)))
    (bSeq (bIf (sOr (sBl (sIsN true (sCallU f__law_call (d__law_call.drop 0) (sCons (sVar 3) (sCons (cI 0) (sCons (sVar 12) (sCons (sVarB 14) sNil))))))) (sBl (sBin dNe (sVarB 14) (sVarB 13)))) (bRet (cB false)) bNil)
    (bSeq (bSetIx 14 (cI 0) (sBin oSub (cI 77) (sBin oIx (sVarB 14) (cI 1))))
    (bMut 5 uAppend (sCons (sLst (sCons (sVar 12) (sCons (sVar 13) sNil))) sNil)))))))
noncomputable def xFor : SS := (bFor (sItems (sLst (sCons (cI 0) (sCons (sVar 12) (sCons (sBin oSub (sVarB 2) (cI 1)) sNil))))) (tgName 15) l2_law)
noncomputable def xEnd : SS := (bIf (sOr (sBl (sBin dNe (eMeth "Disk" "pending_count" f_Disk_pending_count d_Disk_pending_count (sVar 3) sNil) (sCall oLen (sCons (sVarB 5) sNil)))) (sOr (sBl (sBin dNe (eMeth "Disk" "cut_count" f_Disk_cut_count d_Disk_cut_count (sVar 3) sNil) (sVarB 6))) (sBl (sBin dNe (eMeth "Disk" "size" f_Disk_size d_Disk_size (sVar 3) sNil) (sVarB 2))))) (bRet (cB false)) bNil)
theorem l3_eq : l3_law = bSeq (bSet 8 (sCallU f__law_draw (d__law_draw.drop 0) (sCons (sVar 1) (sCons (cI 8) sNil)))) (bSeq (bIf (sBl (sBin dEq (sVarB 8) (cI 0))) xA (bIf (sBl (sBin dEq (sVarB 8) (cI 1))) xB (bIf (sBl (sBin dEq (sVarB 8) (cI 2))) xC xE))) (bSeq (bSet 12 (sCallU f__law_draw (d__law_draw.drop 0) (sCons (sVar 1) (sCons (sVarB 2) sNil)))) (bSeq xFor xEnd))) := rfl
section
variable {S : Sto} {p : Nat} {B : List (List Nat)} {P : List (Nat × List Nat)} {C : Int} {L : D} {T : List Nat} {n : Nat}
theorem l2_ok (h : Dk S p B P C L T) {k : Nat} (hk : k < B.length) {s0 v7 v8 v9 v10 v11 v12 v13 v14 v17 : Sl} {v16 : U} :
    ∃ v16' : U, l2_law (en s0 n B P C v7 v8 v9 v10 v11 v12 v13 v14 (.val (.int (k : Nat))) v16.1 v17) S = some (.nx (en s0 n B P C v7 v8 v9 v10 v11 v12 v13 v14 (.val (.int (k : Nat))) v16'.1 v17), S) := by
  have hb : B[k]? = some (B.getD k []) := by rw [List.getD_eq_getElem?_getD, List.getElem?_eq_getElem hk]; rfl
  have hX := rdK_Blk (a := k) (h.bB _ (List.mem_of_getElem? hb)) h.bP P.length
  have e1 := read_ok h hb
  have e2 := lread_ok (P := P) (S := S) hb
  have d0 := h.stI
  obtain ⟨_, _, _, n4, _⟩ := no_m p C L T
  generalize rdK P (B.getD k []) k P.length = X at *
  have ne := dNe_self (wf_dI X)
  have st := set0 hX (.int 1)
  refine ⟨uO (.lst ((dI X).set 0 (.int 1))), ?_⟩
  generalize (dI X).set 0 (D.int 1) = Y at *
  generalize dI X = Z at *
  generalize hBB : BD B = BB at *
  generalize hPP : PL P = PP at *
  simp [l2_law, hBB, hPP, d0, n4, d_Disk_read, e1, isTy, kl, d__law_read, e2, ne, st]
theorem xFor_ok (h : Dk S p B P C L T) (hn : B.length = n) (n0 : 0 < n) {a : Nat} (ha : a < n) {s0 v7 v8 v9 v10 v11 v13 v14 v17 : Sl} {v15 v16 : U} :
    ∃ v15' v16' : U, xFor (en s0 n B P C v7 v8 v9 v10 v11 (.val (.int (a : Nat))) v13 v14 v15.1 v16.1 v17) S = some (.nx (en s0 n B P C v7 v8 v9 v10 v11 (.val (.int (a : Nat))) v13 v14 v15'.1 v16'.1 v17), S) := by
  obtain ⟨w1, e1⟩ := l2_ok (n := n) h (k := 0) (by omega) (s0 := s0) (v7 := v7) (v8 := v8) (v9 := v9) (v10 := v10) (v11 := v11) (v12 := .val (.int (a : Nat))) (v13 := v13) (v14 := v14) (v17 := v17) (v16 := v16)
  obtain ⟨w2, e2⟩ := l2_ok (n := n) h (k := a) (by omega) (s0 := s0) (v7 := v7) (v8 := v8) (v9 := v9) (v10 := v10) (v11 := v11) (v12 := .val (.int (a : Nat))) (v13 := v13) (v14 := v14) (v17 := v17) (v16 := w1)
  obtain ⟨w3, e3⟩ := l2_ok (n := n) h (k := n - 1) (by omega) (s0 := s0) (v7 := v7) (v8 := v8) (v9 := v9) (v10 := v10) (v11 := v11) (v12 := .val (.int (a : Nat))) (v13 := v13) (v14 := v14) (v17 := v17) (v16 := w2)
  have n1 : ((n - 1 : Nat) : Int) = (n : Int) - 1 := by omega
  rw [n1] at e3
  refine ⟨uV (.int ((n : Int) - 1)), w3, ?_⟩
  have l3 : (3 : Nat) ≤ sizeLine := by decide
  simp at e1
  simp [xFor, l3, e1, e2, e3]
theorem xEnd_ok (h : Dk S p B P C L T) (hn : B.length = n) {s0 v7 v8 v9 v10 v11 v12 v13 v14 v15 v16 v17 : Sl} : xEnd (en s0 n B P C v7 v8 v9 v10 v11 v12 v13 v14 v15 v16 v17) S = some (.nx (en s0 n B P C v7 v8 v9 v10 v11 v12 v13 v14 v15 v16 v17), S) := by
  have e1 := count_p h
  have e2 := count_c h
  have e3 := size_ok h
  rw [hn] at e3
  have d0 := h.stI
  obtain ⟨_, _, _, _, _, _, _, _, n9, n10⟩ := no_m p C L T
  have n11 := no_size p C L T
  have pl := PL_len P
  simp [xEnd, d0, n9, n10, n11, d_Disk_pending_count, d_Disk_cut_count, d_Disk_size, e1, e2, e3, pl]
theorem flL (hP : ∀ z ∈ P, z.1 < B.length ∧ Blk z.2) {s0 s2 s3 s5 s6 v7 v8 v10 v11 v12 v13 v14 v15 v16 v17 : Sl} {v9 : U} :
    ∃ v9' : U, forD (tgName 9) l0_law (PL P) [s0, .val (.obj 0), s2, s3, .own (.lst (BD B)), s5, s6, v7, v8, v9.1, v10, v11, v12, v13, v14, v15, v16, v17] S = some (.nx [s0, .val (.obj 0), s2, s3, .own (.lst (BD (flK P B P.length))), s5, s6, v7, v8, v9'.1, v10, v11, v12, v13, v14, v15, v16, v17], S) := by
  obtain ⟨ρ', S', e, i, v9', h1, h2, rfl, rfl⟩ := forD_nx (t := tgName 9) (b := l0_law)
    (fun L ρ S' => ∃ (i : Nat) (v9 : U), i ≤ P.length ∧ L = (PL P).drop i ∧ ρ = [s0, .val (.obj 0), s2, s3, .own (.lst (BD (flK P B i))), s5, s6, v7, v8, v9.1, v10, v11, v12, v13, v14, v15, v16, v17] ∧ S' = S)
    (fun d L ρ S' ⟨i, v9, h1, h2, h3, h4⟩ => by
      subst h3; subst h4
      have hi : i < P.length := by
        rcases Nat.lt_or_ge i P.length with h | h
        · exact h
        · rw [List.drop_eq_nil_of_le (by rw [PL_len]; exact h)] at h2; cases h2
      obtain ⟨z, hz⟩ : ∃ z, P[i]? = some z := ⟨_, List.getElem?_eq_getElem hi⟩
      have hd := List.drop_eq_getElem_cons (l := PL P) (i := i) (by rw [PL_len]; exact hi)
      rw [hd] at h2
      injection h2 with h5 h6
      have hat := PL_at hz
      rw [List.getElem?_eq_getElem (by rw [PL_len]; exact hi)] at hat
      rw [Option.some.inj hat] at h5
      subst h5
      obtain ⟨q1, q2⟩ := hP z (List.mem_of_getElem? hz)
      have hl2 := flK_len P B
      have hc : flK P B (i + 1) = (flK P B i).set z.1 z.2 := by
        conv => lhs; unfold flK
        rw [hz]
      have sa := setAt_nat (l := BD (flK P B i)) (a := z.1) (.lst (dI z.2)) (by rw [BD_len, hl2]; exact q1)
      rw [BD_set, ← hc] at sa
      generalize hX : BD (flK P B i) = X at *
      exact ⟨[s0, .val (.obj 0), s2, s3, .own (.lst X), s5, s6, v7, v8, .val (.lst [.int (z.1 : Nat), .lst (dI z.2)]), v10, v11, v12, v13, v14, v15, v16, v17], by simp, _, _, by simp [l0_law, sa], i + 1, uV (.lst [.int (z.1 : Nat), .lst (dI z.2)]), hi, h6, rfl, rfl⟩)
    (PL P) [s0, .val (.obj 0), s2, s3, .own (.lst (BD B)), s5, s6, v7, v8, v9.1, v10, v11, v12, v13, v14, v15, v16, v17] S ⟨0, v9, by omega, rfl, rfl, rfl⟩
  have hi : i = P.length := by
    rcases Nat.lt_or_ge i P.length with h | h
    · have z : (PL P).length - i = 0 := by rw [← List.length_drop, ← h2]; rfl
      rw [PL_len] at z; omega
    · omega
  rw [← hi]
  exact ⟨v9', e⟩
theorem l1_ok (hB : ∀ b ∈ B, Blk b) (hP : ∀ z ∈ P, z.1 < B.length ∧ Blk z.2) (hT : ∀ t ∈ T, t ≤ 32) {i : Nat} {z : Nat × List Nat} (hz : P[i]? = some z) (hi : i < T.length) {s0 v7 v8 v9 v13 v14 v15 v16 v17 : Sl} {v12 : U} :
    l1_law (en s0 n B P C v7 v8 v9 (.val (.lst (dI T))) (.val (.int (i : Nat))) v12.1 v13 v14 v15 v16 v17) S = some (.nx (en s0 n (B.set z.1 (tn z.2 (B.getD z.1 []) (T.getD i 0))) P C v7 v8 v9 (.val (.lst (dI T))) (.val (.int (i : Nat))) (.val (.int (z.1 : Nat))) v13 v14 v15 v16 v17), S) := by
  obtain ⟨h1, h2⟩ := hP z (List.mem_of_getElem? hz)
  have hb : B[z.1]? = some (B.getD z.1 []) := by rw [List.getD_eq_getElem?_getD, List.getElem?_eq_getElem h1]; rfl
  have ht : T[i]? = some (T.getD i 0) := by rw [List.getD_eq_getElem?_getD, List.getElem?_eq_getElem hi]; rfl
  have hk : T.getD i 0 ≤ 32 := hT _ (List.mem_of_getElem? ht)
  have hbb : Blk (B.getD z.1 []) := hB _ (List.mem_of_getElem? hb)
  have pi := at_nat (PL_at hz)
  have ti := at_nat (l := dI T) (i := i) (d := .int (T.getD i 0 : Nat)) (by simp [dI, hi])
  have ix := at_nat (BD_at hb)
  have s1 := s_to h2 hk
  have s2 := s_from hbb hk
  have a1 := a_tn h2 hbb (T.getD i 0)
  have sa := setAt_nat (l := BD B) (a := z.1) (.lst (dI (tn z.2 (B.getD z.1 []) (T.getD i 0)))) (by rw [BD_len]; exact h1)
  rw [BD_set] at sa
  generalize T.getD i 0 = k at *
  generalize B.getD z.1 [] = x at *
  generalize hBn : BD (B.set z.1 (tn z.2 x k)) = Bn at *
  generalize hBo : BD B = Bo at *
  generalize hPo : PL P = Po at *
  generalize hTo : dI T = To at *
  simp [l1_law, en, hBn, hBo, hPo, hTo, pi, ti, ix, s1, s2, a1, sa]
theorem cutL (hB : ∀ b ∈ B, Blk b) (hP : ∀ z ∈ P, z.1 < B.length ∧ Blk z.2) (hT : ∀ t ∈ T, t ≤ 32) {s0 v7 v8 v9 v13 v14 v15 v16 v17 : Sl} {v11 v12 : U} :
    ∃ v11' v12' : U, forD (tgName 11) l1_law (dRng 0 (min T.length P.length)) (en s0 n B P C v7 v8 v9 (.val (.lst (dI T))) v11.1 v12.1 v13 v14 v15 v16 v17) S = some (.nx (en s0 n (cutK T P B P.length) P C v7 v8 v9 (.val (.lst (dI T))) v11'.1 v12'.1 v13 v14 v15 v16 v17), S) := by
  obtain ⟨ρ', S', e, v11', v12', rfl, rfl⟩ := rng_nx (t := tgName 11) (b := l1_law)
    (fun i ρ S' => ∃ v11 v12 : U, ρ = en s0 n (cutK T P B i) P C v7 v8 v9 (.val (.lst (dI T))) v11.1 v12.1 v13 v14 v15 v16 v17 ∧ S' = S) 0 (min T.length P.length)
    (fun i ρ S' hi ⟨v11, v12, h1, h2⟩ => by
      subst h1; subst h2
      obtain ⟨z, hz⟩ : ∃ z, P[i]? = some z := ⟨_, List.getElem?_eq_getElem (by omega)⟩
      have hc : cutK T P B (i + 1) = (cutK T P B i).set z.1 (tn z.2 ((cutK T P B i).getD z.1 []) (T.getD i 0)) := by
        conv => lhs; unfold cutK
        rw [hz]
      have hl := cutK_len T P B i
      have e := l1_ok (S := S') (n := n) (C := C) (cutK_Blk hB hP hT i) (fun z hz => by rw [hl]; exact hP z hz) hT hz (by omega) (s0 := s0) (v7 := v7) (v8 := v8) (v9 := v9) (v12 := v12) (v13 := v13) (v14 := v14) (v15 := v15) (v16 := v16) (v17 := v17)
      rw [← hc] at e
      exact ⟨_, by simp [en], _, _, e, uV (.int (i : Nat)), uV (.int (z.1 : Nat)), rfl, rfl⟩)
    (ρ := en s0 n B P C v7 v8 v9 (.val (.lst (dI T))) v11.1 v12.1 v13 v14 v15 v16 v17) (S := S) ⟨v11, v12, rfl, rfl⟩
  refine ⟨v11', v12', ?_⟩
  rw [e]
  have hs := cutK_stop (T := T) (P := P) (B := B) hP (P.length - min T.length P.length)
  rw [show min T.length P.length + (P.length - min T.length P.length) = P.length by omega] at hs
  rw [hs]
end
end K57
namespace K57
open PySem DL L2
/-- what holds between the turns -/
structure Ok (S : Sto) (n : Nat) (p : Nat) (B : List (List Nat)) (P : List (Nat × List Nat)) (C : Int) (Td : List Nat) (m : Nat) : Prop where
  dk : Dk S p B P C (Lf none) Td
  hn : B.length = n
  hm : P.length ≤ m
section
variable {p : Nat} {B : List (List Nat)} {P : List (Nat × List Nat)} {C : Int} {Td : List Nat} {n m : Nat} {ds : List Int} {q : Int} {tl : Sto}
theorem xA_ok (h : Ok (bx ds q :: tl) n p B P C Td m) {s0 v7 v8 v10 v11 v12 v13 v14 v15 v16 v17 : Sl} {v9 : U} :
    ∃ p' B' tl', ∃ v9' : U, xA (en s0 n B P C v7 v8 v9.1 v10 v11 v12 v13 v14 v15 v16 v17) (bx ds q :: tl) = some (.nx (en s0 n B' [] C v7 v8 v9'.1 v10 v11 v12 v13 v14 v15 v16 v17), bx ds q :: tl') ∧ Ok (bx ds q :: tl') n p' B' [] C Td (m + 1) := by
  obtain ⟨S', p', e, h1, z⟩ := flush_go h.dk (by simp)
  obtain ⟨tl', rfl⟩ := hd0 (x := bx ds q) z
  obtain ⟨v9', e2⟩ := flL (S := bx ds q :: tl') h.dk.bP (s0 := s0) (s2 := .val (.int (n : Nat))) (s3 := .val (.obj 1)) (s5 := .val (.lst (PL P))) (s6 := .val (.int C)) (v7 := v7) (v8 := v8) (v9 := v9) (v10 := v10) (v11 := v11) (v12 := v12) (v13 := v13) (v14 := v14) (v15 := v15) (v16 := v16) (v17 := v17)
  refine ⟨p', _, tl', v9', ?_, ⟨h1, by rw [flK_len]; exact h.hn, by simp⟩⟩
  have d0 := h.dk.stI
  obtain ⟨_, _, _, _, _, n6, _⟩ := no_m p C (Lf none) Td
  have l0 : (0 : Nat) ≤ sizeLine := by decide
  simp [xA, d0, n6, d_Disk_flush, e, sIsN, isN, e2, l0, PL_nil]
theorem xB_ok (hq : 0 ≤ q) (hm : m ≤ 900) (h : Ok (bx ds q :: tl) n p B P C Td m) {s0 v7 v8 v9 v13 v14 v15 v16 v17 : Sl} {v10 v11 v12 : U} :
    ∃ p' B' q' tl', ∃ v10' v11' v12' : U, xB (en s0 n B P C v7 v8 v9 v10.1 v11.1 v12.1 v13 v14 v15 v16 v17) (bx ds q :: tl) = some (.nx (en s0 n B' [] (C + 1) v7 v8 v9 v10'.1 v11'.1 v12'.1 v13 v14 v15 v16 v17), bx ds q' :: tl') ∧ Ok (bx ds q' :: tl') n p' B' [] (C + 1) [] (m + 1) ∧ 0 ≤ q' := by
  have hP := h.hm
  obtain ⟨r, f1, a1, b1⟩ := draw_ex (ds := ds) (p := q) (tl := tl) (m := (P.length : Int) + 2) hq (by omega)
  obtain ⟨k, rfl⟩ : ∃ k : Nat, r = k := ⟨r.toNat, by omega⟩
  obtain ⟨T, q1, f2, hT, hl, q10⟩ := law_torn_ok (ds := ds) (q := q + 1) (tl := tl) (by omega) (n := k) (by omega)
  have h1 : Dk (bx ds q1 :: tl) p B P C (Lf none) Td := h.dk.box
  obtain ⟨S', p', e, h2, z⟩ := power_ok h1 hT
  have e := lc_go (raw_c h1 e (d := .int 0))
  obtain ⟨tl', rfl⟩ := hd0 (x := bx ds q1) z
  obtain ⟨v11', v12', ec⟩ := cutL (S := bx ds q1 :: tl') (n := n) (C := C) h1.bB h1.bP hT (s0 := s0) (v7 := v7) (v8 := v8) (v9 := v9) (v13 := v13) (v14 := v14) (v15 := v15) (v16 := v16) (v17 := v17) (v11 := v11) (v12 := v12)
  refine ⟨p', _, q1, tl', uV (.lst (dI T)), v11', v12', ?_, ⟨h2, by rw [cutK_len]; exact h.hn, by simp⟩, q10⟩
  have mn : oMin [.int (T.length : Nat), .int (P.length : Nat)] = some (.int (min T.length P.length : Nat)) := by
    show some (D.int (if (P.length : Int) < (T.length : Int) then (P.length : Int) else (T.length : Int))) = _
    congr 2
    split <;> omega
  have er : oRng [.int (min T.length P.length : Nat)] = some (dRng 0 (min T.length P.length)) := by rw [rng_1 (by omega) (by omega)]; rfl
  have pl := PL_len P
  have tl := dI_len T
  have l0 : (0 : Nat) ≤ sizeLine := by decide
  have ol : oList [.lst (dI T)] = some (.lst (dI T)) := rfl
  generalize min T.length P.length = mm at *
  simp [xB, pl, d__law_draw, f1, d__law_torn, f2, ol, d__law_call, e, sIsN, isN, tl, mn, er, ec, l0, PL_nil]
theorem xC_ok (hq : 0 ≤ q) (n0 : 0 < n) (h : Ok (bx ds q :: tl) n p B P C Td m) {s0 v7 v8 v9 v10 v11 v12 v13 v14 v15 v16 v17 : Sl} :
    ∃ q', xC (en s0 n B P C v7 v8 v9 v10 v11 v12 v13 v14 v15 v16 v17) (bx ds q :: tl) = some (.nx (en s0 n B P C v7 v8 v9 v10 v11 v12 v13 v14 v15 v16 v17), bx ds q' :: tl) ∧ Ok (bx ds q' :: tl) n p B P C Td (m + 1) ∧ 0 ≤ q' := by
  obtain ⟨q', e, q0⟩ := wrong_ok hq h.dk h.hn n0
  refine ⟨q', ?_, ⟨h.dk.box, h.hn, by have := h.hm; omega⟩, q0⟩
  simp [xC, d__law_wrong, e]
theorem xE_ok (hq : 0 ≤ q) (hm : m ≤ 900) (n0 : 0 < n) (h : Ok (bx ds q :: tl) n p B P C Td m) {s0 v7 v8 v9 v10 v11 v15 v16 v17 : Sl} {v12 v13 v14 : U} :
    ∃ P' q' tl', ∃ v12' v13' v14' : U, xE (en s0 n B P C v7 v8 v9 v10 v11 v12.1 v13.1 v14.1 v15 v16 v17) (bx ds q :: tl) = some (.nx (en s0 n B P' C v7 v8 v9 v10 v11 v12'.1 v13'.1 v14'.1 v15 v16 v17), bx ds q' :: tl') ∧ Ok (bx ds q' :: tl') n p B P' C Td (m + 1) ∧ 0 ≤ q' := by
  have hP := h.hm
  obtain ⟨r, f1, a1, b1⟩ := draw_ex (ds := ds) (p := q) (tl := tl) (m := (n : Nat)) hq (by omega)
  obtain ⟨a, rfl⟩ : ∃ k : Nat, r = k := ⟨r.toNat, by omega⟩
  obtain ⟨b, q1, f2, hb, q10⟩ := law_block_ok (ds := ds) (q := q + 1) (tl := tl) (by omega)
  have h1 : Dk (bx ds q1 :: tl) p B P C (Lf none) Td := h.dk.box
  obtain ⟨S', e, h2, z⟩ := write_go h1 (by simp) (a := a) (b := b) (by rw [h.hn]; omega) hb (by omega)
  have e := lc_go (raw_w h1 e)
  obtain ⟨tl', rfl⟩ := hd0 (x := bx ds q1) z
  obtain ⟨x, hx⟩ : ∃ x, b[1]? = some x := ⟨_, List.getElem?_eq_getElem (by rw [hb.len]; decide)⟩
  have ix : oIx (.lst (dI b)) (.int 1) = some (.int (x : Nat)) := at_nat (i := 1) (by simp [dI, hx])
  have st := set0 hb (.int (77 - (x : Int)))
  have ne := dNe_self (wf_dI b)
  have ol : oList [.lst (dI b)] = some (.lst (dI b)) := rfl
  have ap := app_l (l := PL P) (d := .lst [.int (a : Nat), .lst (dI b)]) (by rw [PL_len]; omega)
  have eP : PL P ++ [.lst [.int (a : Nat), .lst (dI b)]] = PL (P ++ [(a, b)]) := by simp [PL]
  rw [eP] at ap
  have l2 : (2 : Nat) ≤ sizeLine := by decide
  refine ⟨P ++ [(a, b)], q1, tl', uV (.int (a : Nat)), uV (.lst (dI b)), uO (.lst ((dI b).set 0 (.int (77 - (x : Int))))), ?_, ⟨h2, h.hn, by simp; omega⟩, q10⟩
  generalize hP2 : PL (P ++ [(a, b)]) = P2 at *
  generalize (dI b).set 0 (D.int (77 - (x : Int))) = Y at *
  simp [xE, d__law_draw, f1, d__law_block, f2, ol, d__law_call, e, sIsN, isN, ne, ix, st, l2, ap, hP2]
theorem turn_ok (hq : 0 ≤ q) (hm : m ≤ 900) (n0 : 0 < n) (h : Ok (bx ds q :: tl) n p B P C Td m) {s0 v7 : Sl} {v8 v9 v10 v11 v12 v13 v14 v15 v16 v17 : U} :
    ∃ p' B' P' C' Td' q' tl', ∃ v8' v9' v10' v11' v12' v13' v14' v15' v16' v17' : U, l3_law (en s0 n B P C v7 v8.1 v9.1 v10.1 v11.1 v12.1 v13.1 v14.1 v15.1 v16.1 v17.1) (bx ds q :: tl) =
      some (.nx (en s0 n B' P' C' v7 v8'.1 v9'.1 v10'.1 v11'.1 v12'.1 v13'.1 v14'.1 v15'.1 v16'.1 v17'.1), bx ds q' :: tl') ∧ Ok (bx ds q' :: tl') n p' B' P' C' Td' (m + 1) ∧ 0 ≤ q' := by
  obtain ⟨kd, f1, a1, b1⟩ := draw_ex (ds := ds) (p := q) (tl := tl) (m := 8) hq (by decide)
  have h1 : Ok (bx ds (q + 1) :: tl) n p B P C Td m := ⟨h.dk.box, h.hn, h.hm⟩
  have mid : ∃ p' B' P' C' Td' q' tl', ∃ v9' v10' v11' v12' v13' v14' : U, bIf (sBl (sBin dEq (sVarB 8) (cI 0))) xA (bIf (sBl (sBin dEq (sVarB 8) (cI 1))) xB (bIf (sBl (sBin dEq (sVarB 8) (cI 2))) xC xE)) (en s0 n B P C v7 (.val (.int kd)) v9.1 v10.1 v11.1 v12.1 v13.1 v14.1 v15.1 v16.1 v17.1) (bx ds (q + 1) :: tl) =
      some (.nx (en s0 n B' P' C' v7 (.val (.int kd)) v9'.1 v10'.1 v11'.1 v12'.1 v13'.1 v14'.1 v15.1 v16.1 v17.1), bx ds q' :: tl') ∧ Ok (bx ds q' :: tl') n p' B' P' C' Td' (m + 1) ∧ 0 ≤ q' := by
    by_cases k0 : kd = 0
    · subst k0
      obtain ⟨p', B', tl', v9', e, h2⟩ := xA_ok h1 (s0 := s0) (v7 := v7) (v8 := .val (.int 0)) (v9 := v9) (v10 := v10.1) (v11 := v11.1) (v12 := v12.1) (v13 := v13.1) (v14 := v14.1) (v15 := v15.1) (v16 := v16.1) (v17 := v17.1)
      exact ⟨p', B', [], C, Td, q + 1, tl', v9', v10, v11, v12, v13, v14, by simp [e], h2, by omega⟩
    · by_cases k1 : kd = 1
      · subst k1
        obtain ⟨p', B', q', tl', v10', v11', v12', e, h2, q0⟩ := xB_ok (by omega) hm h1 (s0 := s0) (v7 := v7) (v8 := .val (.int 1)) (v9 := v9.1) (v10 := v10) (v11 := v11) (v12 := v12) (v13 := v13.1) (v14 := v14.1) (v15 := v15.1) (v16 := v16.1) (v17 := v17.1)
        exact ⟨p', B', [], C + 1, [], q', tl', v9, v10', v11', v12', v13, v14, by simp [e], h2, q0⟩
      · by_cases k2 : kd = 2
        · subst k2
          obtain ⟨q', e, h2, q0⟩ := xC_ok (by omega) n0 h1 (s0 := s0) (v7 := v7) (v8 := .val (.int 2)) (v9 := v9.1) (v10 := v10.1) (v11 := v11.1) (v12 := v12.1) (v13 := v13.1) (v14 := v14.1) (v15 := v15.1) (v16 := v16.1) (v17 := v17.1)
          exact ⟨p, B, P, C, Td, q', tl, v9, v10, v11, v12, v13, v14, by simp [e], h2, q0⟩
        · obtain ⟨P', q', tl', v12', v13', v14', e, h2, q0⟩ := xE_ok (by omega) hm n0 h1 (s0 := s0) (v7 := v7) (v8 := .val (.int kd)) (v9 := v9.1) (v10 := v10.1) (v11 := v11.1) (v12 := v12) (v13 := v13) (v14 := v14) (v15 := v15.1) (v16 := v16.1) (v17 := v17.1)
          exact ⟨p, B, P', C, Td, q', tl', v9, v10, v11, v12', v13', v14', by simp [k0, k1, k2, e], h2, q0⟩
  obtain ⟨p', B', P', C', Td', q1, tl', v9', v10', v11', v12', v13', v14', e1, h2, q10⟩ := mid
  obtain ⟨r, f2, a2, b2⟩ := draw_ex (ds := ds) (p := q1) (tl := tl') (m := (n : Nat)) q10 (by omega)
  obtain ⟨a, rfl⟩ : ∃ k : Nat, r = k := ⟨r.toNat, by omega⟩
  have h3 : Ok (bx ds (q1 + 1) :: tl') n p' B' P' C' Td' (m + 1) := ⟨h2.dk.box, h2.hn, h2.hm⟩
  obtain ⟨v15', v16', e2⟩ := xFor_ok h3.dk h3.hn n0 (a := a) (by omega) (s0 := s0) (v7 := v7) (v8 := .val (.int kd)) (v9 := v9'.1) (v10 := v10'.1) (v11 := v11'.1) (v13 := v13'.1) (v14 := v14'.1) (v15 := v15) (v16 := v16) (v17 := v17.1)
  have e3 := xEnd_ok h3.dk h3.hn (s0 := s0) (v7 := v7) (v8 := .val (.int kd)) (v9 := v9'.1) (v10 := v10'.1) (v11 := v11'.1) (v12 := .val (.int (a : Nat))) (v13 := v13'.1) (v14 := v14'.1) (v15 := v15'.1) (v16 := v16'.1) (v17 := v17.1)
  refine ⟨p', B', P', C', Td', q1 + 1, tl', uV (.int kd), v9', v10', v11', uV (.int (a : Nat)), v13', v14', v15', v16', v17, ?_, h3, by omega⟩
  rw [l3_eq]
  generalize bIf (sBl (sBin dEq (sVarB 8) (cI 0))) xA (bIf (sBl (sBin dEq (sVarB 8) (cI 1))) xB (bIf (sBl (sBin dEq (sVarB 8) (cI 2))) xC xE)) = Z at *
  simp [d__law_draw, f1, e1, f2, e2, e3]
end
end K57
namespace K57
open PySem DL L2
def zb : List Nat := List.replicate 32 0
theorem zb_Blk : Blk zb := ⟨by simp [zb], fun c hc => by rw [(List.mem_replicate.mp hc).2]; decide⟩
theorem mul32 : oMul (.lst [.int 0]) (.int 32) = some (.lst (dI zb)) := by
  rw [mul_l0 (by omega) (by omega)]; simp [dI, zb]
def dk (n : Nat) : List (Str × D) := [(("_blocks" : Str), .obj (n + 1)), (("_pending" : Str), .obj (n + 2)), (("_cuts" : Str), .int 0), (("_left" : Str), .non), (("_torn" : Str), .lst [])]
def DS (S : Sto) (B P : List D) : Sto := S ++ [.ins ("Disk" : Str) (dk S.length), .lst B, .lst P]
theorem init_8 (S : Sto) : f_Disk___init__ [.obj S.length, .int 8] (S ++ [.ins ("Disk" : Str) []]) = some (.ok .non, DS S (List.replicate 8 (.lst (dI zb))) []) := by
  have c1 : c_BLOCKS_LEAST = .int 8 := rfl
  have c2 : c_BLOCKS_MOST = .int 400 := rfl
  have c3 : c_BLOCK = .int 32 := rfl
  have m := mul32
  have l0 : (0 : Nat) ≤ sizeLine := by decide
  have l1 : (1 : Nat) ≤ sizeLine := by decide
  have er : oRng [.int 8] = some (dRng 0 8) := rng_1 (by omega) (by omega)
  have lc := lcD_map (t := tgName 2) (ft := sYes) (fe := sBin oMul (sLst (sCons (cI 0) sNil)) (cG c_BLOCK)) (ρ := [.val (.obj S.length), .bo (.int 8), .no]) (S := S ++ [.ins ("Disk" : Str) []]) (fun _ => .lst (dI zb)) (dRng 0 8) []
    (by rw [dRng_len]; decide) (fun d hd => by
      exact ⟨[.val (.obj S.length), .bo (.int 8), .val d], by simp, by simp, by simp [c3, m, l1]⟩)
  have e : List.map (fun _ => D.lst (dI zb)) (dRng 0 8) = List.replicate 8 (.lst (dI zb)) := by
    rw [List.map_const', dRng_len]
  rw [e, List.nil_append] at lc
  have ev : e0_Disk___init__ [.val (.obj S.length), .bo (.int 8), .no] (S ++ [.ins ("Disk" : Str) []]) = some (.ok (.lst (List.replicate 8 (.lst (dI zb)))), S ++ [.ins ("Disk" : Str) []]) := by
    simp [c3] at lc
    simp [e0_Disk___init__, er, c3, lc]
  generalize List.replicate 8 (D.lst (dI zb)) = B at *
  have s0 : stI (S ++ [.ins ("Disk" : Str) [], .lst B]) S.length = some (("Disk" : Str), []) := stI_at (by simp)
  have s1 : stI (S ++ [.ins ("Disk" : Str) [(("_blocks" : Str), .obj (S.length + 1))], .lst B, .lst []]) S.length = some (("Disk" : Str), [(("_blocks" : Str), .obj (S.length + 1))]) := stI_at (by simp)
  have s2 : stI (S ++ [.ins ("Disk" : Str) [(("_blocks" : Str), .obj (S.length + 1)), (("_pending" : Str), .obj (S.length + 2))], .lst B, .lst []]) S.length = some (("Disk" : Str), [(("_blocks" : Str), .obj (S.length + 1)), (("_pending" : Str), .obj (S.length + 2))]) := stI_at (by simp)
  have s3 : stI (S ++ [.ins ("Disk" : Str) [(("_blocks" : Str), .obj (S.length + 1)), (("_pending" : Str), .obj (S.length + 2)), (("_cuts" : Str), .int 0)], .lst B, .lst []]) S.length = some (("Disk" : Str), [(("_blocks" : Str), .obj (S.length + 1)), (("_pending" : Str), .obj (S.length + 2)), (("_cuts" : Str), .int 0)]) := stI_at (by simp)
  have s4 : stI (S ++ [.ins ("Disk" : Str) [(("_blocks" : Str), .obj (S.length + 1)), (("_pending" : Str), .obj (S.length + 2)), (("_cuts" : Str), .int 0), (("_left" : Str), .non)], .lst B, .lst []]) S.length = some (("Disk" : Str), [(("_blocks" : Str), .obj (S.length + 1)), (("_pending" : Str), .obj (S.length + 2)), (("_cuts" : Str), .int 0), (("_left" : Str), .non)]) := stI_at (by simp)
  have p0 : putD ("_blocks" : Str) (.obj (S.length + 1)) [] = [(("_blocks" : Str), .obj (S.length + 1))] := rfl
  have p1 : putD ("_pending" : Str) (.obj (S.length + 2)) [(("_blocks" : Str), .obj (S.length + 1))] = [(("_blocks" : Str), .obj (S.length + 1)), (("_pending" : Str), .obj (S.length + 2))] := rfl
  have p2 : putD ("_cuts" : Str) (.int 0) [(("_blocks" : Str), .obj (S.length + 1)), (("_pending" : Str), .obj (S.length + 2))] = [(("_blocks" : Str), .obj (S.length + 1)), (("_pending" : Str), .obj (S.length + 2)), (("_cuts" : Str), .int 0)] := rfl
  have p3 : putD ("_left" : Str) .non [(("_blocks" : Str), .obj (S.length + 1)), (("_pending" : Str), .obj (S.length + 2)), (("_cuts" : Str), .int 0)] = [(("_blocks" : Str), .obj (S.length + 1)), (("_pending" : Str), .obj (S.length + 2)), (("_cuts" : Str), .int 0), (("_left" : Str), .non)] := rfl
  have p4 : putD ("_torn" : Str) (.lst []) [(("_blocks" : Str), .obj (S.length + 1)), (("_pending" : Str), .obj (S.length + 2)), (("_cuts" : Str), .int 0), (("_left" : Str), .non)] = dk S.length := rfl
  have aC : ("Disk" : Str) ∈ a__cuts := by decide
  have aT : ("Disk" : Str) ∈ a__torn := by decide
  simp [f_Disk___init__, b_Disk___init__, c1, c2, sChain, ev, s0, aB, p0, List.set_append_right, l0, s1, aP, p1, s2, aC, p2, s3, aL, p3, s4, aT, p4, DS]
theorem init_eq {b0 : Ob} {n : Nat} (h1 : 8 ≤ n) (h2 : n ≤ 400) : f_Disk___init__ [.obj 1, .int (n : Nat)] [b0, .ins ("Disk" : Str) []] = some (.ok .non, [b0, .ins ("Disk" : Str) (fl 3 0 .non []), .lst (BD (List.replicate n zb)), .lst []]) := by
  have c1 : c_BLOCKS_LEAST = .int 8 := rfl
  have c2 : c_BLOCKS_MOST = .int 400 := rfl
  have c3 : c_BLOCK = .int 32 := rfl
  have m := mul32
  have l0 : (0 : Nat) ≤ sizeLine := by decide
  have l1 : (1 : Nat) ≤ sizeLine := by decide
  have er : oRng [.int (n : Nat)] = some (dRng 0 n) := by rw [rng_1 (by omega) (by omega)]; rfl
  have lc := lcD_map (t := tgName 2) (ft := sYes) (fe := sBin oMul (sLst (sCons (cI 0) sNil)) (cG c_BLOCK)) (ρ := [.val (.obj 1), .bo (.int (n : Nat)), .no]) (S := [b0, .ins ("Disk" : Str) []]) (fun _ => .lst (dI zb)) (dRng 0 n) []
    (by rw [dRng_len, line_eq]; simp; omega) (fun d hd => by
      exact ⟨[.val (.obj 1), .bo (.int (n : Nat)), .val d], by simp, by simp, by simp [c3, m, l1]⟩)
  have e : List.map (fun _ => D.lst (dI zb)) (dRng 0 n) = BD (List.replicate n zb) := by
    rw [List.map_const', dRng_len]; simp [BD]
  rw [e, List.nil_append] at lc
  have ev : e0_Disk___init__ [.val (.obj 1), .bo (.int (n : Nat)), .no] [b0, .ins ("Disk" : Str) []] = some (.ok (.lst (BD (List.replicate n zb))), [b0, .ins ("Disk" : Str) []]) := by
    simp [c3] at lc
    simp [e0_Disk___init__, er, c3, lc]
  generalize BD (List.replicate n zb) = BB at *
  have st : ∀ f r, DL.stI (b0 :: .ins ("Disk" : Str) f :: r) 1 = some (("Disk" : Str), f) := fun _ _ => rfl
  have p0 : putD ("_blocks" : Str) (.obj 2) [] = [(("_blocks" : Str), .obj 2)] := rfl
  have p1 : putD ("_pending" : Str) (.obj 3) [(("_blocks" : Str), .obj 2)] = [(("_blocks" : Str), .obj 2), (("_pending" : Str), .obj 3)] := rfl
  have p2 : putD ("_cuts" : Str) (.int 0) [(("_blocks" : Str), .obj 2), (("_pending" : Str), .obj 3)] = [(("_blocks" : Str), .obj 2), (("_pending" : Str), .obj 3), (("_cuts" : Str), .int 0)] := rfl
  have p3 : putD ("_left" : Str) .non [(("_blocks" : Str), .obj 2), (("_pending" : Str), .obj 3), (("_cuts" : Str), .int 0)] = [(("_blocks" : Str), .obj 2), (("_pending" : Str), .obj 3), (("_cuts" : Str), .int 0), (("_left" : Str), .non)] := rfl
  have p4 : putD ("_torn" : Str) (.lst []) [(("_blocks" : Str), .obj 2), (("_pending" : Str), .obj 3), (("_cuts" : Str), .int 0), (("_left" : Str), .non)] = fl 3 0 .non [] := rfl
  have g1 : (8 : Int) ≤ n := by omega
  have g2 : (n : Int) ≤ 400 := by omega
  simp [f_Disk___init__, b_Disk___init__, c1, c2, sChain, g1, g2, ev, sObj, obOf, st, aB, p0, l0, aP, p1, aC, p2, aL, p3, aT, p4]
noncomputable def xR : SS := (bSeq (bSet 3 (eMake "Disk" f_Disk___init__ (d_Disk___init__.drop 0) (sCons (sVarB 2) sNil)))
    (bSeq (bSetOwn 4 e0_law)
    (bSeq (bSetOwn 5 (sLst sNil))
    (bSeq (bSet 6 (cI 0))
    (bSeq (bFor (sRng (sCons (sCall oMin (sCons (sCall oMax (sCons (cI 0) (sCons (sBin oSub (sCall oLen (sCons (sVarB 0) sNil)) (cI 4)) sNil))) (sCons (cI 40) sNil))) sNil)) (tgName 7) l3_law)
    (bSeq (bSet 17 (sCallU f__law_draw (d__law_draw.drop 0) (sCons (sVar 1) (sCons (cI 90) sNil))))
    (bSeq (bIf (sBl (sBin dNe (sTup (sCons (cG c_BLOCK) (sCons (cG c_BLOCKS_MOST) sNil))) (sTup (sCons (cI 32) (sCons (cI 400) sNil))))) (bRet (cB false)) bNil)
    (bRet (sAndV (sBin dEq (sCallU f__law_refusal (d__law_refusal.drop 0) (sCons (sBin oSub (cI 7) (sVarB 17)) sNil)) (cS "blocks")) (sAndV (sBin dEq (sCallU f__law_refusal (d__law_refusal.drop 0) (sCons (sBin oAdd (cI 401) (sVarB 17)) sNil)) (cS "blocks")) (sBin dEq (sCallU f__law_refusal (d__law_refusal.drop 0) (sCons (cI 8) sNil)) (cS ""))))))))))))
theorem law_eq : b_law = bSeq (bSet 1 (sObj (sLst (sCons (sCallU f__law_digits (d__law_digits.drop 0) (sCons (sVarB 0) (sCons (cI 0) (sCons (cI 63) sNil)))) (sCons (cI 0) sNil))))) (bSeq (bSet 2 (sBin oAdd (cI 8) (sCallU f__law_draw (d__law_draw.drop 0) (sCons (sVar 1) (sCons (cI 6) sNil))))) (bSeq (bIf (sBl (sBin dEq (sCallU f__law_draw (d__law_draw.drop 0) (sCons (sVar 1) (sCons (cI 10) sNil))) (cI 0))) (bSet 2 (cI 400)) bNil) xR)) := rfl
theorem init_bad {i : Int} (h : i < 8 ∨ 400 < i) {k : Nat} (S : Sto) : f_Disk___init__ [.obj k, .int i] S = some (.error ⟨("OutOfRange" : Str), some [(("name" : Str), .str "blocks")]⟩, S) := by
  have c1 : c_BLOCKS_LEAST = .int 8 := rfl
  have c2 : c_BLOCKS_MOST = .int 400 := rfl
  by_cases h0 : 8 ≤ i
  · have g1 : ¬ i ≤ 400 := by omega
    simp [f_Disk___init__, b_Disk___init__, c1, c2, sChain, h0, g1]
  · simp [f_Disk___init__, b_Disk___init__, c1, c2, sChain, h0]
theorem ref_bad {i : Int} (h : i < 8 ∨ 400 < i) (S : Sto) : ∃ S', f__law_refusal [.int i] S = some (.ok (.str "blocks"), S') := by
  have e := init_bad h (k := S.length) (S ++ [.ins ("Disk" : Str) []])
  exact ⟨_, by simp [f__law_refusal, b__law_refusal, d_Disk___init__, e, mkR, t2, exAt, xs]; rfl⟩
theorem ref_8 (S : Sto) : ∃ S', f__law_refusal [.int 8] S = some (.ok (.str ""), S') := by
  have e := init_8 S
  exact ⟨_, by simp [f__law_refusal, b__law_refusal, d_Disk___init__, e, mkR]; rfl⟩
end K57
namespace K57
open PySem DL L2
theorem ne_c : dNe (.tup [.int 32, .int 400]) (.tup [.int 32, .int 400]) = some (.bl false) := dNe_self (n := 1) rfl
theorem rest_ok {ns : List Int} {ds : List Int} {n : Nat} (n8 : 8 ≤ n) (n400 : n ≤ 400) {q : Int} (hq : 0 ≤ q) : ∃ ρ' S', xR [.val (.rol (ns.map D.int)), .val (.obj 0), .val (.int (n : Nat)), .no, .no, .no, .no, .no, .no, .no, .no, .no, .no, .no, .no, .no, .no, .no] [bx ds q] = some (.ret (.bl true), S') ∧ ρ' = S' := by
  have ei := init_eq (b0 := bx ds q) (n := n) n8 n400
  have er : oRng [.int (n : Nat)] = some (dRng 0 n) := by rw [rng_1 (by omega) (by omega)]; rfl
  have l0 : (0 : Nat) ≤ sizeLine := by decide
  have l1 : (1 : Nat) ≤ sizeLine := by decide
  have l2 : (2 : Nat) ≤ sizeLine := by decide
  have m := mul32
  have h0 : Dk [bx ds q, .ins ("Disk" : Str) (fl 3 0 .non []), .lst (BD (List.replicate n zb)), .lst []] 3 (List.replicate n zb) [] 0 (Lf none) [] :=
    ⟨rfl, rfl, rfl, by omega, fun b hb => by rw [(List.mem_replicate.mp hb).2]; exact zb_Blk, fun z hz => by cases hz⟩
  obtain ⟨tl, htl⟩ : ∃ tl : Sto, [bx ds q, .ins ("Disk" : Str) (fl 3 0 .non []), .lst (BD (List.replicate n zb)), .lst []] = bx ds q :: tl := ⟨_, rfl⟩
  rw [htl] at ei h0
  have lc := lcD_map (t := tgName 11) (ft := sYes) (fe := sBin oMul (sLst (sCons (cI 0) sNil)) (cI 32)) (ρ := [.val (.rol (ns.map D.int)), .val (.obj 0), .val (.int (n : Nat)), .val (.obj 1), .no, .no, .no, .no, .no, .no, .no, .no, .no, .no, .no, .no, .no, .no]) (S := bx ds q :: tl) (fun _ => .lst (dI zb)) (dRng 0 n) []
    (by rw [dRng_len, line_eq]; simp; omega) (fun d hd => by
      exact ⟨[.val (.rol (ns.map D.int)), .val (.obj 0), .val (.int (n : Nat)), .val (.obj 1), .no, .no, .no, .no, .no, .no, .no, .val d, .no, .no, .no, .no, .no, .no], by simp, by simp, by simp [m, l1]⟩)
  have e : List.map (fun _ => D.lst (dI zb)) (dRng 0 n) = BD (List.replicate n zb) := by
    rw [List.map_const', dRng_len]; simp [BD]
  rw [e, List.nil_append] at lc
  have ev : e0_law [.val (.rol (ns.map D.int)), .val (.obj 0), .val (.int (n : Nat)), .val (.obj 1), .no, .no, .no, .no, .no, .no, .no, .no, .no, .no, .no, .no, .no, .no] (bx ds q :: tl) = some (.ok (.lst (BD (List.replicate n zb))), bx ds q :: tl) := by
    try simp at lc
    simp [e0_law, er, lc]
  have ml : oLen [.rol (ns.map D.int)] = some (.int (ns.length : Nat)) := by rw [oLen_r, List.length_map]
  obtain ⟨M, mx, hM⟩ : ∃ M : Int, oMax [.int 0, .int ((ns.length : Int) - 4)] = some (.int M) ∧ 0 ≤ M := ⟨_, rfl, by split <;> omega⟩
  obtain ⟨k, mn, hk⟩ : ∃ k : Nat, oMin [.int M, .int 40] = some (.int (k : Nat)) ∧ k ≤ 40 := by
    refine ⟨(if 40 < M then (40 : Int) else M).toNat, ?_, by split <;> omega⟩
    show some (D.int (if 40 < M then 40 else M)) = _
    congr 2
    split <;> omega
  have ek : oRng [.int (k : Nat)] = some (dRng 0 k) := by rw [rng_1 (by omega) (by omega)]; rfl
  obtain ⟨ρ', S1, e2, p, B, P, C, Td, q2, tl1, v7, v8, v9, v10, v11, v12, v13, v14, v15, v16, v17, rfl, rfl, hk2, q20⟩ := rng_nx (t := tgName 7) (b := l3_law)
    (fun i ρ S => ∃ p B P C Td q tl, ∃ v7 v8 v9 v10 v11 v12 v13 v14 v15 v16 v17 : U, ρ = en (.val (.rol (ns.map D.int))) n B P C v7.1 v8.1 v9.1 v10.1 v11.1 v12.1 v13.1 v14.1 v15.1 v16.1 v17.1 ∧ S = bx ds q :: tl ∧ Ok S n p B P C Td i ∧ 0 ≤ q) 0 k
    (fun i ρ S hi ⟨p, B, P, C, Td, q, tl, v7, v8, v9, v10, v11, v12, v13, v14, v15, v16, v17, h1, h2, h3, q0⟩ => by
      subst h1; subst h2
      obtain ⟨p', B', P', C', Td', q', tl', v8', v9', v10', v11', v12', v13', v14', v15', v16', v17', e, h4, q0'⟩ := turn_ok q0 (by omega) (by omega) h3 (s0 := .val (.rol (ns.map D.int))) (v7 := .val (.int (i : Nat))) (v8 := v8) (v9 := v9) (v10 := v10) (v11 := v11) (v12 := v12) (v13 := v13) (v14 := v14) (v15 := v15) (v16 := v16) (v17 := v17)
      exact ⟨_, by simp; rfl, _, _, by first | exact e | (simp at e; exact e), p', B', P', C', Td', q', tl', uV (.int (i : Nat)), v8', v9', v10', v11', v12', v13', v14', v15', v16', v17', rfl, rfl, h4, q0'⟩)
    (ρ := en (.val (.rol (ns.map D.int))) n (List.replicate n zb) [] 0 .no .no .no .no .no .no .no .no .no .no .no) (S := bx ds q :: tl)
    ⟨3, List.replicate n zb, [], 0, [], q, tl, uN, uN, uN, uN, uN, uN, uN, uN, uN, uN, uN, rfl, rfl, ⟨h0, by simp, by simp⟩, hq⟩
  obtain ⟨far, f1, a1, b1⟩ := draw_ex (ds := ds) (p := q2) (tl := tl1) (m := 90) q20 (by decide)
  obtain ⟨S2, g1⟩ := ref_bad (i := 7 - far) (by omega) (bx ds (q2 + 1) :: tl1)
  obtain ⟨S3, g2⟩ := ref_bad (i := 401 + far) (by omega) S2
  obtain ⟨S4, g3⟩ := ref_8 S3
  have c1 : c_BLOCK = .int 32 := rfl
  have c2 : c_BLOCKS_MOST = .int 400 := rfl
  have nc := ne_c
  refine ⟨S4, S4, ?_, rfl⟩
  clear lc hk2 h0
  generalize hBB : BD B = BB at *
  generalize hPP : PL P = PP at *
  generalize hB0 : BD (List.replicate n zb) = B0 at *
  have p0 : PL [] = [] := rfl
  simp only [en, hB0, hBB, hPP, p0] at e2
  simp [xR, d_Disk___init__, mkR, ei, ev, l0, l2, ml, mx, mn, ek, e2, d__law_draw, f1, c1, c2, nc, d__law_refusal, g1, g2, g3]
theorem law_true (ns : List Int) (_h : ns.length ≤ 63) (_h2 : ∀ z ∈ ns, Builtin.Int.intBits z ≤ 1048576) : ∃ S', f_law [.rol (ns.map D.int)] [] = some (.ok (.bl true), S') := by
  obtain ⟨ds, e1⟩ := digits_ex (ns := ns) (S := [])
  obtain ⟨r1, f1, a1, b1⟩ := draw_ex (ds := ds) (p := 0) (tl := []) (m := 6) (by omega) (by decide)
  obtain ⟨r2, f2, a2, b2⟩ := draw_ex (ds := ds) (p := 1) (tl := []) (m := 10) (by omega) (by decide)
  have l2 : (2 : Nat) ≤ sizeLine := by decide
  by_cases h : r2 = 0
  · subst h
    obtain ⟨_, S', e, _⟩ := rest_ok (ns := ns) (ds := ds) (n := 400) (by omega) (by omega) (q := 2) (by omega)
    refine ⟨S', ?_⟩
    have e : xR [.val (.rol (ns.map D.int)), .val (.obj 0), .val (.int 400), .no, .no, .no, .no, .no, .no, .no, .no, .no, .no, .no, .no, .no, .no, .no] [bx ds 2] = some (.ret (.bl true), S') := e
    simp [f_law, law_eq, d__law_digits, e1, l2, d__law_draw, f1, f2, e]
  · obtain ⟨n, hn⟩ : ∃ n : Nat, 8 + r1 = n := ⟨(8 + r1).toNat, by omega⟩
    obtain ⟨_, S', e, _⟩ := rest_ok (ns := ns) (ds := ds) (n := n) (by omega) (by omega) (q := 2) (by omega)
    refine ⟨S', ?_⟩
    simp [f_law, law_eq, d__law_digits, e1, l2, d__law_draw, f1, f2, hn, h, e]
end K57

open PySem PySem.W PyProof.Rows
set_option maxRecDepth 100000 in
set_option maxHeartbeats 0 in
theorem PySem.Challenge.cw_farfacts_k57_disk_reads_and_flushes_holds : PySem.Challenge.rw_farfacts_k57_disk_reads_and_flushes.Holds := by
  w_on; o_law; k_head; (case hw => w_witness2)
  k_fill
  case hc =>
  refine DL.walk_end (l := _) (n := 63) (k := 8) (x := "_law_script") (sem := K57.f_law) (mr := .frz) rfl (by decide) rfl ⟨rfl, by decide, by decide⟩ (fun w h Y => PySem.W.kIn_of Y) ?F rfl K57.law_true
  case F =>
    intro w mg fa h KX G hmg
    refine' K57.fin KX G hmg ?z_enumerate ?z_int ?z_isinstance ?z_len ?z_list ?z_max ?z_min ?z_range ?g_BLOCK ?g_BLOCKS_LEAST ?g_BLOCKS_MOST ?a_FarError ?eC_FarError ?tC_FarError ?kC_FarError ?hC_FarError ?a_OutOfRange ?eC_OutOfRange ?tC_OutOfRange ?kC_OutOfRange ?hC_OutOfRange ?x_OutOfRange ?r_OutOfRange ?sa_OutOfRange ?i_OutOfRange ?ti_OutOfRange ?l_OutOfRange ?c_OutOfRange ?k_OutOfRange ?nname_OutOfRange ?ga_OutOfRange ?gg_OutOfRange ?a_PowerCut ?eC_PowerCut ?tC_PowerCut ?kC_PowerCut ?hC_PowerCut ?xt_PowerCut ?ga_PowerCut ?gg_PowerCut ?a_Disk ?pg_Disk ?hd_Disk ?po_Disk ?sa_Disk ?mk_Disk ?kC_Disk ?na_blocks_Disk ?na_cuts_Disk ?na_left_Disk ?na_pending_Disk ?na_torn_Disk ?e_OutOfRange_FarError ?e_PowerCut_FarError ?e_OutOfRange_OutOfRange ?e_PowerCut_OutOfRange ?a__wall ?l__wall ?c__wall ?k__wall ?a__is_block ?l__is_block ?c__is_block ?k__is_block ?a__law_cell ?l__law_cell ?c__law_cell ?k__law_cell ?a__law_draw ?l__law_draw ?c__law_draw ?k__law_draw ?a__law_read ?l__law_read ?c__law_read ?k__law_read ?mf_Disk_size ?fn_Disk_size ?l_Disk_size ?c_Disk_size ?k_Disk_size ?mf_Disk__cut ?fn_Disk__cut ?l_Disk__cut ?c_Disk__cut ?k_Disk__cut ?mf_Disk_pending_count ?fn_Disk_pending_count ?l_Disk_pending_count ?c_Disk_pending_count ?k_Disk_pending_count ?mf_Disk_cut_count ?fn_Disk_cut_count ?l_Disk_cut_count ?c_Disk_cut_count ?k_Disk_cut_count ?a__law_digits ?l__law_digits ?c__law_digits ?k__law_digits ?a__law_torn ?l__law_torn ?c__law_torn ?k__law_torn ?a__law_block ?l__law_block ?c__law_block ?k__law_block ?mf_Disk_schedule_cut ?fn_Disk_schedule_cut ?l_Disk_schedule_cut ?c_Disk_schedule_cut ?k_Disk_schedule_cut ?a__check_torn ?l__check_torn ?c__check_torn ?k__check_torn ?mf_Disk___init__ ?fn_Disk___init__ ?l_Disk___init__ ?c_Disk___init__ ?k_Disk___init__ ?mf_Disk__check_at ?fn_Disk__check_at ?l_Disk__check_at ?c_Disk__check_at ?k_Disk__check_at ?mf_Disk__spend ?fn_Disk__spend ?l_Disk__spend ?c_Disk__spend ?k_Disk__spend ?mf_Disk_read ?fn_Disk_read ?l_Disk_read ?c_Disk_read ?k_Disk_read ?mf_Disk_write ?fn_Disk_write ?l_Disk_write ?c_Disk_write ?k_Disk_write ?mf_Disk_flush ?fn_Disk_flush ?l_Disk_flush ?c_Disk_flush ?k_Disk_flush ?mf_Disk_cut_power ?fn_Disk_cut_power ?l_Disk_cut_power ?c_Disk_cut_power ?k_Disk_cut_power ?a__law_call_raw ?l__law_call_raw ?c__law_call_raw ?k__law_call_raw ?a__law_refusal ?l__law_refusal ?c__law_refusal ?k__law_refusal ?a__law_call ?l__law_call ?c__law_call ?k__law_call ?a__law_wrong ?l__law_wrong ?c__law_wrong ?k__law_wrong ?a_law ?l_law ?c_law ?k_law
    (case z_enumerate => first | k_is | rfl | k_exc | decide +kernel)
    (case z_int => first | k_is | rfl | k_exc | decide +kernel)
    (case z_isinstance => first | k_is | rfl | k_exc | decide +kernel)
    (case z_len => first | k_is | rfl | k_exc | decide +kernel)
    (case z_list => first | k_is | rfl | k_exc | decide +kernel)
    (case z_max => first | k_is | rfl | k_exc | decide +kernel)
    (case z_min => first | k_is | rfl | k_exc | decide +kernel)
    (case z_range => first | k_is | rfl | k_exc | decide +kernel)
    (case g_BLOCK => first | k_is | rfl | k_exc | decide +kernel)
    (case g_BLOCKS_LEAST => first | k_is | rfl | k_exc | decide +kernel)
    (case g_BLOCKS_MOST => first | k_is | rfl | k_exc | decide +kernel)
    (case a_FarError => first | k_is | rfl | k_exc | decide +kernel)
    (case eC_FarError => first | k_is | rfl | k_exc | decide +kernel)
    (case tC_FarError => first | k_is | rfl | k_exc | decide +kernel)
    (case kC_FarError => first | k_is | rfl | k_exc | decide +kernel)
    (case hC_FarError => first | k_is | rfl | k_exc | decide +kernel)
    (case a_OutOfRange => first | k_is | rfl | k_exc | decide +kernel)
    (case eC_OutOfRange => first | k_is | rfl | k_exc | decide +kernel)
    (case tC_OutOfRange => first | k_is | rfl | k_exc | decide +kernel)
    (case kC_OutOfRange => first | k_is | rfl | k_exc | decide +kernel)
    (case hC_OutOfRange => first | k_is | rfl | k_exc | decide +kernel)
    (case x_OutOfRange => first | k_is | rfl | k_exc | decide +kernel)
    (case r_OutOfRange => first | k_is | rfl | k_exc | decide +kernel)
    (case sa_OutOfRange => first | k_is | rfl | k_exc | decide +kernel)
    (case i_OutOfRange => first | k_is | rfl | k_exc | decide +kernel)
    (case ti_OutOfRange => first | k_is | rfl | k_exc | decide +kernel)
    (case l_OutOfRange => first | k_is | rfl | k_exc | decide +kernel)
    (case c_OutOfRange => first | k_is | rfl | k_exc | decide +kernel)
    (case k_OutOfRange => first | k_is | rfl | k_exc | decide +kernel)
    (case nname_OutOfRange => first | k_is | rfl | k_exc | decide +kernel)
    (case ga_OutOfRange => first | k_is | rfl | k_exc | decide +kernel)
    (case gg_OutOfRange => first | k_is | rfl | k_exc | decide +kernel)
    (case a_PowerCut => first | k_is | rfl | k_exc | decide +kernel)
    (case eC_PowerCut => first | k_is | rfl | k_exc | decide +kernel)
    (case tC_PowerCut => first | k_is | rfl | k_exc | decide +kernel)
    (case kC_PowerCut => first | k_is | rfl | k_exc | decide +kernel)
    (case hC_PowerCut => first | k_is | rfl | k_exc | decide +kernel)
    (case xt_PowerCut => first | k_is | rfl | k_exc | decide +kernel)
    (case ga_PowerCut => first | k_is | rfl | k_exc | decide +kernel)
    (case gg_PowerCut => first | k_is | rfl | k_exc | decide +kernel)
    (case a_Disk => first | k_is | rfl | k_exc | decide +kernel)
    (case pg_Disk => first | k_is | rfl | k_exc | decide +kernel)
    (case hd_Disk => first | k_is | rfl | k_exc | decide +kernel)
    (case po_Disk => first | k_is | rfl | k_exc | decide +kernel)
    (case sa_Disk => first | k_is | rfl | k_exc | decide +kernel)
    (case mk_Disk => first | k_is | rfl | k_exc | decide +kernel)
    (case kC_Disk => first | k_is | rfl | k_exc | decide +kernel)
    (case na_blocks_Disk => first | k_is | rfl | k_exc | decide +kernel)
    (case na_cuts_Disk => first | k_is | rfl | k_exc | decide +kernel)
    (case na_left_Disk => first | k_is | rfl | k_exc | decide +kernel)
    (case na_pending_Disk => first | k_is | rfl | k_exc | decide +kernel)
    (case na_torn_Disk => first | k_is | rfl | k_exc | decide +kernel)
    (case e_OutOfRange_FarError => first | k_is | rfl | k_exc | decide +kernel)
    (case e_PowerCut_FarError => first | k_is | rfl | k_exc | decide +kernel)
    (case e_OutOfRange_OutOfRange => first | k_is | rfl | k_exc | decide +kernel)
    (case e_PowerCut_OutOfRange => first | k_is | rfl | k_exc | decide +kernel)
    (case a__wall => first | k_is | rfl | k_exc | decide +kernel)
    (case l__wall => first | k_is | rfl | k_exc | decide +kernel)
    (case c__wall => first | k_is | rfl | k_exc | decide +kernel)
    (case k__wall => first | k_is | rfl | k_exc | decide +kernel)
    (case a__is_block => first | k_is | rfl | k_exc | decide +kernel)
    (case l__is_block => first | k_is | rfl | k_exc | decide +kernel)
    (case c__is_block => first | k_is | rfl | k_exc | decide +kernel)
    (case k__is_block => first | k_is | rfl | k_exc | decide +kernel)
    (case a__law_cell => first | k_is | rfl | k_exc | decide +kernel)
    (case l__law_cell => first | k_is | rfl | k_exc | decide +kernel)
    (case c__law_cell => first | k_is | rfl | k_exc | decide +kernel)
    (case k__law_cell => first | k_is | rfl | k_exc | decide +kernel)
    (case a__law_draw => first | k_is | rfl | k_exc | decide +kernel)
    (case l__law_draw => first | k_is | rfl | k_exc | decide +kernel)
    (case c__law_draw => first | k_is | rfl | k_exc | decide +kernel)
    (case k__law_draw => first | k_is | rfl | k_exc | decide +kernel)
    (case a__law_read => first | k_is | rfl | k_exc | decide +kernel)
    (case l__law_read => first | k_is | rfl | k_exc | decide +kernel)
    (case c__law_read => first | k_is | rfl | k_exc | decide +kernel)
    (case k__law_read => first | k_is | rfl | k_exc | decide +kernel)
    (case mf_Disk_size => first | k_is | rfl | k_exc | decide +kernel)
    (case fn_Disk_size => first | k_is | rfl | k_exc | decide +kernel)
    (case l_Disk_size => first | k_is | rfl | k_exc | decide +kernel)
    (case c_Disk_size => first | k_is | rfl | k_exc | decide +kernel)
    (case k_Disk_size => first | k_is | rfl | k_exc | decide +kernel)
    (case mf_Disk__cut => first | k_is | rfl | k_exc | decide +kernel)
    (case fn_Disk__cut => first | k_is | rfl | k_exc | decide +kernel)
    (case l_Disk__cut => first | k_is | rfl | k_exc | decide +kernel)
    (case c_Disk__cut => first | k_is | rfl | k_exc | decide +kernel)
    (case k_Disk__cut => first | k_is | rfl | k_exc | decide +kernel)
    (case mf_Disk_pending_count => first | k_is | rfl | k_exc | decide +kernel)
    (case fn_Disk_pending_count => first | k_is | rfl | k_exc | decide +kernel)
    (case l_Disk_pending_count => first | k_is | rfl | k_exc | decide +kernel)
    (case c_Disk_pending_count => first | k_is | rfl | k_exc | decide +kernel)
    (case k_Disk_pending_count => first | k_is | rfl | k_exc | decide +kernel)
    (case mf_Disk_cut_count => first | k_is | rfl | k_exc | decide +kernel)
    (case fn_Disk_cut_count => first | k_is | rfl | k_exc | decide +kernel)
    (case l_Disk_cut_count => first | k_is | rfl | k_exc | decide +kernel)
    (case c_Disk_cut_count => first | k_is | rfl | k_exc | decide +kernel)
    (case k_Disk_cut_count => first | k_is | rfl | k_exc | decide +kernel)
    (case a__law_digits => first | k_is | rfl | k_exc | decide +kernel)
    (case l__law_digits => first | k_is | rfl | k_exc | decide +kernel)
    (case c__law_digits => first | k_is | rfl | k_exc | decide +kernel)
    (case k__law_digits => first | k_is | rfl | k_exc | decide +kernel)
    (case a__law_torn => first | k_is | rfl | k_exc | decide +kernel)
    (case l__law_torn => first | k_is | rfl | k_exc | decide +kernel)
    (case c__law_torn => first | k_is | rfl | k_exc | decide +kernel)
    (case k__law_torn => first | k_is | rfl | k_exc | decide +kernel)
    (case a__law_block => first | k_is | rfl | k_exc | decide +kernel)
    (case l__law_block => first | k_is | rfl | k_exc | decide +kernel)
    (case c__law_block => first | k_is | rfl | k_exc | decide +kernel)
    (case k__law_block => first | k_is | rfl | k_exc | decide +kernel)
    (case mf_Disk_schedule_cut => first | k_is | rfl | k_exc | decide +kernel)
    (case fn_Disk_schedule_cut => first | k_is | rfl | k_exc | decide +kernel)
    (case l_Disk_schedule_cut => first | k_is | rfl | k_exc | decide +kernel)
    (case c_Disk_schedule_cut => first | k_is | rfl | k_exc | decide +kernel)
    (case k_Disk_schedule_cut => first | k_is | rfl | k_exc | decide +kernel)
    (case a__check_torn => first | k_is | rfl | k_exc | decide +kernel)
    (case l__check_torn => first | k_is | rfl | k_exc | decide +kernel)
    (case c__check_torn => first | k_is | rfl | k_exc | decide +kernel)
    (case k__check_torn => first | k_is | rfl | k_exc | decide +kernel)
    (case mf_Disk___init__ => first | k_is | rfl | k_exc | decide +kernel)
    (case fn_Disk___init__ => first | k_is | rfl | k_exc | decide +kernel)
    (case l_Disk___init__ => first | k_is | rfl | k_exc | decide +kernel)
    (case c_Disk___init__ => first | k_is | rfl | k_exc | decide +kernel)
    (case k_Disk___init__ => first | k_is | rfl | k_exc | decide +kernel)
    (case mf_Disk__check_at => first | k_is | rfl | k_exc | decide +kernel)
    (case fn_Disk__check_at => first | k_is | rfl | k_exc | decide +kernel)
    (case l_Disk__check_at => first | k_is | rfl | k_exc | decide +kernel)
    (case c_Disk__check_at => first | k_is | rfl | k_exc | decide +kernel)
    (case k_Disk__check_at => first | k_is | rfl | k_exc | decide +kernel)
    (case mf_Disk__spend => first | k_is | rfl | k_exc | decide +kernel)
    (case fn_Disk__spend => first | k_is | rfl | k_exc | decide +kernel)
    (case l_Disk__spend => first | k_is | rfl | k_exc | decide +kernel)
    (case c_Disk__spend => first | k_is | rfl | k_exc | decide +kernel)
    (case k_Disk__spend => first | k_is | rfl | k_exc | decide +kernel)
    (case mf_Disk_read => first | k_is | rfl | k_exc | decide +kernel)
    (case fn_Disk_read => first | k_is | rfl | k_exc | decide +kernel)
    (case l_Disk_read => first | k_is | rfl | k_exc | decide +kernel)
    (case c_Disk_read => first | k_is | rfl | k_exc | decide +kernel)
    (case k_Disk_read => first | k_is | rfl | k_exc | decide +kernel)
    (case mf_Disk_write => first | k_is | rfl | k_exc | decide +kernel)
    (case fn_Disk_write => first | k_is | rfl | k_exc | decide +kernel)
    (case l_Disk_write => first | k_is | rfl | k_exc | decide +kernel)
    (case c_Disk_write => first | k_is | rfl | k_exc | decide +kernel)
    (case k_Disk_write => first | k_is | rfl | k_exc | decide +kernel)
    (case mf_Disk_flush => first | k_is | rfl | k_exc | decide +kernel)
    (case fn_Disk_flush => first | k_is | rfl | k_exc | decide +kernel)
    (case l_Disk_flush => first | k_is | rfl | k_exc | decide +kernel)
    (case c_Disk_flush => first | k_is | rfl | k_exc | decide +kernel)
    (case k_Disk_flush => first | k_is | rfl | k_exc | decide +kernel)
    (case mf_Disk_cut_power => first | k_is | rfl | k_exc | decide +kernel)
    (case fn_Disk_cut_power => first | k_is | rfl | k_exc | decide +kernel)
    (case l_Disk_cut_power => first | k_is | rfl | k_exc | decide +kernel)
    (case c_Disk_cut_power => first | k_is | rfl | k_exc | decide +kernel)
    (case k_Disk_cut_power => first | k_is | rfl | k_exc | decide +kernel)
    (case a__law_call_raw => first | k_is | rfl | k_exc | decide +kernel)
    (case l__law_call_raw => first | k_is | rfl | k_exc | decide +kernel)
    (case c__law_call_raw => first | k_is | rfl | k_exc | decide +kernel)
    (case k__law_call_raw => first | k_is | rfl | k_exc | decide +kernel)
    (case a__law_refusal => first | k_is | rfl | k_exc | decide +kernel)
    (case l__law_refusal => first | k_is | rfl | k_exc | decide +kernel)
    (case c__law_refusal => first | k_is | rfl | k_exc | decide +kernel)
    (case k__law_refusal => first | k_is | rfl | k_exc | decide +kernel)
    (case a__law_call => first | k_is | rfl | k_exc | decide +kernel)
    (case l__law_call => first | k_is | rfl | k_exc | decide +kernel)
    (case c__law_call => first | k_is | rfl | k_exc | decide +kernel)
    (case k__law_call => first | k_is | rfl | k_exc | decide +kernel)
    (case a__law_wrong => first | k_is | rfl | k_exc | decide +kernel)
    (case l__law_wrong => first | k_is | rfl | k_exc | decide +kernel)
    (case c__law_wrong => first | k_is | rfl | k_exc | decide +kernel)
    (case k__law_wrong => first | k_is | rfl | k_exc | decide +kernel)
    (case a_law => first | k_is | rfl | k_exc | decide +kernel)
    (case l_law => first | k_is | rfl | k_exc | decide +kernel)
    (case c_law => first | k_is | rfl | k_exc | decide +kernel)
    (case k_law => first | k_is | rfl | k_exc | decide +kernel)

