import PyProof.Rows.All
import Wide.All
import OpenK.AllK
import Wide.FinOn
import HandS.ForMost
import HandS.ForExc
import HandS.Defaults
import HandS.CallSlots
import HandS.TryMany
import HandS.ExcInit
import HandS.ExcField
import HandS.ExcIs
import HandS.Deep
import HandS.More
import HandS.RaiseMore
import HandS.StrMore
import HandS.TupAny
import HandS.EndBits
import HandS.Comp
import HandS.IsInst
import KE.BitLaws
import KE.SortKeyHeap
import HandS.Strs
import HandS.Keys
import HandS.SortKw
import PyProof.ReprRoads
import PyProof.ReprLen
import KE.LtData
import KE.DataCmp
import HandS.Zip
import KE.GoesEnum
import HandS.Rev
import PyProof.ListNew
import HandS.DictComp
import HandS.WordsDict
import HandS.Small
import HandS.ExcInitHot
import HandS.RaiseFrom
import HandS.SuiteRaise
import HandS.Style
import PyProof.Rows.SetFrom
import PyProof.DictMoreH
import KE.KAssignIn
import HandS.Conv
import PyProof.StrLawsTight
import PyProof.StrLawsChain
import PySem.Challenge.RW_farfacts_k50_order_of_facts_does_not_mat
set_option Elab.async false
set_option linter.all false
set_option maxRecDepth 100000
set_option maxHeartbeats 4000000
namespace DL
open PySem PySem.Spec PyProof.Rows L2
inductive D where
  | non | bl (b : Bool) | int (i : Int) | str (x : Str)
  | tup (l : List D) | lst (l : List D) | rol (l : List D)
  | dK (l : List (Key × D)) | dT (l : List (List Key × D))
  | ins (c : Str) (fs : List (Str × D)) | obj (n : Nat)
structure Xc where
  c : Str
  fs : Option (List (Str × D))
inductive Ob where
  | lst (l : List D) | dK (l : List (Key × D)) | dT (l : List (List Key × D)) | ins (c : Str) (fs : List (Str × D))
abbrev Sto := List Ob
inductive Sl where
  | no | val (d : D) | own (d : D) | lk (d : D) | bo (d : D) | ex (x : Xc)
abbrev Rho := List Sl
def TupQ (K : PySem.W.Frag) (h : Hp) (a : Addr) (vs : List V) : Prop := h a = some (.tup vs) ∨ SqT K (fun _ => none) a vs
structure Bs where
  h : Hp
  ex : Option (Addr × Value × Option Addr)
instance : Coe Bs Hp := ⟨Bs.h⟩
instance : CoeFun Bs fun _ => Addr → Option HO := ⟨Bs.h⟩
abbrev Ca := Str → Addr
mutual
inductive DV (K : PySem.W.Frag) (ca : Ca) (h : Hp) (ad : Nat → Option Addr) : V → D → Prop
  | non : DV K ca h ad .non .non
  | bl (b : Bool) : DV K ca h ad (.bl b) (.bl b)
  | int (i : Int) : DV K ca h ad (.int i) (.int i)
  | str (x : Str) : DV K ca h ad (.str x) (.str x)
  | tup {a : Addr} {vs : List V} {ds : List D} : TupQ K h a vs → DVs K ca h ad vs ds → DV K ca h ad (.ref a) (.tup ds)
  | lst {a : Addr} {vs : List V} {ds : List D} : h a = some (.lst vs) → DVs K ca h ad vs ds → DV K ca h ad (.ref a) (.lst ds)
  | rol {a : Addr} {vs : List V} {ds : List D} : SqL K h a vs → DVs K ca h ad vs ds → DV K ca h ad (.ref a) (.rol ds)
  | dK {a : Addr} {kvs : List (Key × V)} {es : List (Key × D)} : h a = some (.dK kvs) → DKs K ca h ad kvs es → DV K ca h ad (.ref a) (.dK es)
  | dT {a : Addr} {kvs : List (List Key × V)} {es : List (List Key × D)} : h a = some (.dT kvs) → DTs K ca h ad kvs es → DV K ca h ad (.ref a) (.dT es)
  | ins {x dx : Addr} {c : Str} {vfs : List (Str × V)} {fs : List (Str × D)} : h x = some (.ins (ca c) dx vfs) → DFs K ca h ad vfs fs → DV K ca h ad (.ref x) (.ins c fs)
  | obj {n : Nat} {a : Addr} : ad n = some a → DV K ca h ad (.ref a) (.obj n)
inductive DVs (K : PySem.W.Frag) (ca : Ca) (h : Hp) (ad : Nat → Option Addr) : List V → List D → Prop
  | nil : DVs K ca h ad [] []
  | cons {v : V} {vs : List V} {d : D} {ds : List D} : DV K ca h ad v d → DVs K ca h ad vs ds → DVs K ca h ad (v :: vs) (d :: ds)
inductive DKs (K : PySem.W.Frag) (ca : Ca) (h : Hp) (ad : Nat → Option Addr) : List (Key × V) → List (Key × D) → Prop
  | nil : DKs K ca h ad [] []
  | cons {k : Key} {v : V} {vs : List (Key × V)} {d : D} {ds : List (Key × D)} : DV K ca h ad v d → DKs K ca h ad vs ds → DKs K ca h ad ((k, v) :: vs) ((k, d) :: ds)
inductive DTs (K : PySem.W.Frag) (ca : Ca) (h : Hp) (ad : Nat → Option Addr) : List (List Key × V) → List (List Key × D) → Prop
  | nil : DTs K ca h ad [] []
  | cons {k : List Key} {v : V} {vs : List (List Key × V)} {d : D} {ds : List (List Key × D)} : DV K ca h ad v d → DTs K ca h ad vs ds → DTs K ca h ad ((k, v) :: vs) ((k, d) :: ds)
inductive DFs (K : PySem.W.Frag) (ca : Ca) (h : Hp) (ad : Nat → Option Addr) : List (Str × V) → List (Str × D) → Prop
  | nil : DFs K ca h ad [] []
  | cons {k : Str} {v : V} {vs : List (Str × V)} {d : D} {ds : List (Str × D)} : DV K ca h ad v d → DFs K ca h ad vs ds → DFs K ca h ad ((k, v) :: vs) ((k, d) :: ds)
end
section
variable {K : PySem.W.Frag} {ca : Ca} {h h' : Hp} {ad ad' : Nat → Option Addr}
theorem Same.rd {a : Addr} {u : HO} (s : Same h h') (r : Rd h a u) : Rd h' a u := by
  rcases r with r | ⟨o, r⟩
  · exact .inl (s _ _ r)
  · exact .inr ⟨o, s _ _ r⟩
theorem Same.tupq {a : Addr} {xs : List V} (s : Same h h') (r : SqT K h a xs) : SqT K h' a xs := by
  rcases r with r | r
  · exact .inl (Same.rd s r)
  · exact .inr r
theorem Same.lstq {a : Addr} {xs : List V} (s : Same h h') (r : SqL K h a xs) : SqL K h' a xs := by
  rcases r with r | r
  · exact .inl (Same.rd s r)
  · exact .inr r
theorem Same.tupQ {a : Addr} {xs : List V} (s : Same h h') (r : TupQ K h a xs) : TupQ K h' a xs := by
  rcases r with r | r
  · exact .inl (s _ _ r)
  · exact .inr r
theorem TupQ.sq {a : Addr} {xs : List V} (r : TupQ K h a xs) : SqT K h a xs := by
  rcases r with r | r
  · exact .inl (.inl r)
  · exact Same.tupq (fun _ _ e => by cases e) r
mutual
theorem DV.mono (s : Same h h') (m : ∀ n a, ad n = some a → ad' n = some a) : ∀ {v : V} {d : D}, DV K ca h ad v d → DV K ca h' ad' v d
  | _, _, .non => .non
  | _, _, .bl b => .bl b
  | _, _, .int i => .int i
  | _, _, .str x => .str x
  | _, _, .tup q r => .tup (Same.tupQ s q) (DVs.mono s m r)
  | _, _, .lst q r => .lst (s _ _ q) (DVs.mono s m r)
  | _, _, .rol q r => .rol (Same.lstq s q) (DVs.mono s m r)
  | _, _, .dK q r => .dK (s _ _ q) (DKs.mono s m r)
  | _, _, .dT q r => .dT (s _ _ q) (DTs.mono s m r)
  | _, _, .ins q r => .ins (s _ _ q) (DFs.mono s m r)
  | _, _, .obj q => .obj (m _ _ q)
theorem DVs.mono (s : Same h h') (m : ∀ n a, ad n = some a → ad' n = some a) : ∀ {vs : List V} {ds : List D}, DVs K ca h ad vs ds → DVs K ca h' ad' vs ds
  | _, _, .nil => .nil
  | _, _, .cons q r => .cons (DV.mono s m q) (DVs.mono s m r)
theorem DKs.mono (s : Same h h') (m : ∀ n a, ad n = some a → ad' n = some a) : ∀ {vs : List (Key × V)} {ds : List (Key × D)}, DKs K ca h ad vs ds → DKs K ca h' ad' vs ds
  | _, _, .nil => .nil
  | _, _, .cons q r => .cons (DV.mono s m q) (DKs.mono s m r)
theorem DTs.mono (s : Same h h') (m : ∀ n a, ad n = some a → ad' n = some a) : ∀ {vs : List (List Key × V)} {ds : List (List Key × D)}, DTs K ca h ad vs ds → DTs K ca h' ad' vs ds
  | _, _, .nil => .nil
  | _, _, .cons q r => .cons (DV.mono s m q) (DTs.mono s m r)
theorem DFs.mono (s : Same h h') (m : ∀ n a, ad n = some a → ad' n = some a) : ∀ {vs : List (Str × V)} {ds : List (Str × D)}, DFs K ca h ad vs ds → DFs K ca h' ad' vs ds
  | _, _, .nil => .nil
  | _, _, .cons q r => .cons (DV.mono s m q) (DFs.mono s m r)
end
theorem DVs.length : ∀ {vs : List V} {ds : List D}, DVs K ca h ad vs ds → vs.length = ds.length
  | _, _, .nil => rfl
  | _, _, .cons _ r => congrArg (· + 1) (DVs.length r)
theorem DVs.get : ∀ {vs : List V} {ds : List D} {i : Nat} {d : D}, DVs K ca h ad vs ds → ds[i]? = some d → ∃ v, vs[i]? = some v ∧ DV K ca h ad v d
  | _, _, i, d, .nil, e => by simp at e
  | _, _, 0, d, .cons q r, e => ⟨_, rfl, by simp at e; subst e; exact q⟩
  | _, _, i + 1, d, .cons q r, e => by
    obtain ⟨v, h1, h2⟩ := DVs.get (i := i) r (by simpa using e)
    exact ⟨v, by simpa using h1, h2⟩
theorem DVs.app : ∀ {vs ws : List V} {ds es : List D}, DVs K ca h ad vs ds → DVs K ca h ad ws es → DVs K ca h ad (vs ++ ws) (ds ++ es)
  | _, _, _, _, .nil, s => s
  | _, _, _, _, .cons q r, s => .cons q (DVs.app r s)
theorem DVs.take : ∀ {vs : List V} {ds : List D} (n : Nat), DVs K ca h ad vs ds → DVs K ca h ad (vs.take n) (ds.take n)
  | _, _, 0, _ => .nil
  | _, _, _ + 1, .nil => .nil
  | _, _, n + 1, .cons q r => .cons q (DVs.take n r)
theorem DVs.drop : ∀ {vs : List V} {ds : List D} (n : Nat), DVs K ca h ad vs ds → DVs K ca h ad (vs.drop n) (ds.drop n)
  | _, _, 0, r => r
  | _, _, _ + 1, .nil => .nil
  | _, _, n + 1, .cons _ r => DVs.drop n r
theorem DVs.set {v : V} {d : D} (q : DV K ca h ad v d) : ∀ {vs : List V} {ds : List D} (n : Nat), DVs K ca h ad vs ds → DVs K ca h ad (vs.set n v) (ds.set n d)
  | _, _, _, .nil => .nil
  | _, _, 0, .cons _ r => .cons q r
  | _, _, n + 1, .cons p r => .cons p (DVs.set q n r)
theorem DVs.erase : ∀ {vs : List V} {ds : List D} (n : Nat), DVs K ca h ad vs ds → DVs K ca h ad (vs.eraseIdx n) (ds.eraseIdx n)
  | _, _, _, .nil => .nil
  | _, _, 0, .cons _ r => r
  | _, _, n + 1, .cons p r => .cons p (DVs.erase n r)
theorem DVs.rep {vs : List V} {ds : List D} (q : DVs K ca h ad vs ds) : ∀ k : Nat, DVs K ca h ad (List.replicate k vs).flatten (List.replicate k ds).flatten
  | 0 => .nil
  | k + 1 => by
    rw [List.replicate_succ, List.replicate_succ, List.flatten_cons, List.flatten_cons]
    exact q.app (DVs.rep q k)
theorem DV.ofNon {v : V} (q : DV K ca h ad v .non) : v = .non := by cases q; rfl
theorem DV.ofBl {v : V} {b : Bool} (q : DV K ca h ad v (.bl b)) : v = .bl b := by cases q; rfl
theorem DV.ofInt {v : V} {i : Int} (q : DV K ca h ad v (.int i)) : v = .int i := by cases q; rfl
theorem DV.ofStr {v : V} {x : Str} (q : DV K ca h ad v (.str x)) : v = .str x := by cases q; rfl
theorem DV.ofTup {v : V} {ds : List D} (q : DV K ca h ad v (.tup ds)) : ∃ a vs, v = .ref a ∧ TupQ K h a vs ∧ DVs K ca h ad vs ds := by
  cases q with
  | tup q r => exact ⟨_, _, rfl, q, r⟩
theorem DV.ofLst {v : V} {ds : List D} (q : DV K ca h ad v (.lst ds)) : ∃ a vs, v = .ref a ∧ h a = some (.lst vs) ∧ DVs K ca h ad vs ds := by
  cases q with
  | lst q r => exact ⟨_, _, rfl, q, r⟩
theorem DV.ofRol {v : V} {ds : List D} (q : DV K ca h ad v (.rol ds)) : ∃ a vs, v = .ref a ∧ SqL K h a vs ∧ DVs K ca h ad vs ds := by
  cases q with
  | rol q r => exact ⟨_, _, rfl, q, r⟩
theorem DV.ofObj {v : V} {n : Nat} (q : DV K ca h ad v (.obj n)) : ∃ a, v = .ref a ∧ ad n = some a := by
  cases q with
  | obj q => exact ⟨_, rfl, q⟩
theorem DV.ofIns {v : V} {c : Str} {fs : List (Str × D)} (q : DV K ca h ad v (.ins c fs)) : ∃ x dx vfs, v = .ref x ∧ h x = some (.ins (ca c) dx vfs) ∧ DFs K ca h ad vfs fs := by
  cases q with
  | ins q r => exact ⟨_, _, _, rfl, q, r⟩
theorem DV.ofDK {v : V} {es : List (Key × D)} (q : DV K ca h ad v (.dK es)) : ∃ a kvs, v = .ref a ∧ h a = some (.dK kvs) ∧ DKs K ca h ad kvs es := by
  cases q with
  | dK q r => exact ⟨_, _, rfl, q, r⟩
theorem DV.ofDT {v : V} {es : List (List Key × D)} (q : DV K ca h ad v (.dT es)) : ∃ a kvs, v = .ref a ∧ h a = some (.dT kvs) ∧ DTs K ca h ad kvs es := by
  cases q with
  | dT q r => exact ⟨_, _, rfl, q, r⟩
theorem DVs.ints : ∀ (ns : List Int), DVs K ca h ad (ns.map V.int) (ns.map D.int)
  | [] => .nil
  | n :: r => .cons (.int n) (DVs.ints r)
end
inductive Own where
  | slot (i : Nat) | lk (i : Nat) | ob (n : Nat)
  deriving DecidableEq
structure Wd where
  hf : Hp
  ow : Addr → Option Own
  ad : Nat → Option Addr
def calmO : Option Own → Bool
  | some (.ob _) => false
  | _ => true
def calmS : Option Own → Bool
  | some (.ob _) => false
  | some (.slot _) => false
  | _ => true
theorem calmS_O {o : Option Own} (h : calmS o = true) : calmO o = true := by
  cases o with
  | none => rfl
  | some p => cases p <;> first | rfl | cases h
structure WOk (W : Wd) (H : Hp) : Prop where
  sub : Same W.hf H
  tup : ∀ a xs, H a = some (.tup xs) → W.hf a = some (.tup xs)
  dis : ∀ a p, W.ow a = some p → W.hf a = none
  dom : ∀ a p, W.ow a = some p → ∃ o, H a = some o
section
variable (K : PySem.W.Frag) (ca : Ca)
def Cont (W : Wd) (H : Hp) (a : Addr) : D → Prop
  | .lst ds => ∃ vs, H a = some (.lst vs) ∧ DVs K ca W.hf W.ad vs ds
  | .dK es => ∃ kvs, H a = some (.dK kvs) ∧ DKs K ca W.hf W.ad kvs es
  | .dT es => ∃ kvs, H a = some (.dT kvs) ∧ DTs K ca W.hf W.ad kvs es
  | _ => False
def Bo (H0 : Hp) (W : Wd) (H : Hp) (v : V) : D → Prop
  | .lst ds => ∃ a vs, v = .ref a ∧ H a = some (.lst vs) ∧ calmS (W.ow a) = true ∧ (∃ o, H0 a = some o) ∧ DVs K ca W.hf W.ad vs ds
  | .dK es => ∃ a kvs, v = .ref a ∧ H a = some (.dK kvs) ∧ calmS (W.ow a) = true ∧ (∃ o, H0 a = some o) ∧ DKs K ca W.hf W.ad kvs es
  | .dT es => ∃ a kvs, v = .ref a ∧ H a = some (.dT kvs) ∧ calmS (W.ow a) = true ∧ (∃ o, H0 a = some o) ∧ DTs K ca W.hf W.ad kvs es
  | d => DV K ca W.hf W.ad v d
def XV (W : Wd) (H : Hp) (cls : Value) (od : Option Addr) (x : Xc) : Prop :=
  cls = .ref (ca x.c) ∧ match x.fs with
    | none => od = none
    | some fs => ∃ d vfs, od = some d ∧ W.hf d = some (.xd vfs) ∧ DFs K ca W.hf W.ad vfs fs
def SlotOk (H0 : Bs) (W : Wd) (H : Hp) (i : Nat) (v : Option V) : Sl → Prop
  | .no => True
  | .val d => ∃ u, v = some u ∧ DV K ca W.hf W.ad u d
  | .own d => ∃ a, v = some (.ref a) ∧ W.ow a = some (.slot i) ∧ H0 a = none ∧ Cont K ca W H a d
  | .lk d => ∃ a, v = some (.ref a) ∧ W.ow a = some (.lk i) ∧ H0 a = none ∧ Cont K ca W H a d
  | .bo d => ∃ u, v = some u ∧ Bo K ca H0 W H u d
  | .ex x => ∃ a od cls, v = some (.ref a) ∧ H0.ex = some (a, cls, od) ∧ XV K ca W H cls od x
def ObOk (W : Wd) (H : Hp) (a : Addr) : Ob → Prop
  | .lst ds => ∃ vs, H a = some (.lst vs) ∧ DVs K ca W.hf W.ad vs ds
  | .dK es => ∃ kvs, H a = some (.dK kvs) ∧ DKs K ca W.hf W.ad kvs es
  | .dT es => ∃ kvs, H a = some (.dT kvs) ∧ DTs K ca W.hf W.ad kvs es
  | .ins c fs => ∃ dx vfs, H a = some (.ins (ca c) dx vfs) ∧ DFs K ca W.hf W.ad vfs fs
structure RepS (W : Wd) (H : Hp) (S : Sto) : Prop where
  at_ : ∀ n ob, S[n]? = some ob → ∃ a, W.ad n = some a ∧ W.ow a = some (.ob n) ∧ ObOk K ca W H a ob
  fin : ∀ n, S.length ≤ n → W.ad n = none
structure Rep (H0 : Bs) (W : Wd) (H : Hp) (σ : L2.St) (ρ : Rho) (S : Sto) : Prop where
  w : WOk W H
  s : RepS K ca W H S
  len : σ.length = ρ.length
  sl : ∀ i x, ρ[i]? = some x → ∃ v, σ[i]? = some v ∧ SlotOk K ca H0 W H i v x
  h0 : ∀ a o, H0 a = some o → ∃ o', H a = some o'
end
structure FutG (st : Option Own → Bool) (Hn : Hp) (W : Wd) (H : Hp) (W' : Wd) (H' : Hp) : Prop where
  hf : Same W.hf W'.hf
  ad : ∀ n a, W.ad n = some a → W'.ad n = some a
  keep : ∀ a o, H a = some o → st (W.ow a) = true → H' a = some o ∧ W'.ow a = W.ow a
  new : ∀ a o, W'.hf a = some o → W.hf a = none → Hn a = none
  dom : ∀ a o, H a = some o → ∃ o', H' a = some o'
abbrev Fut (W : Wd) (H : Hp) (W' : Wd) (H' : Hp) : Prop := FutG calmO H W H W' H'
abbrev FutS (H0 : Bs) (W : Wd) (H : Hp) (W' : Wd) (H' : Hp) : Prop := FutG calmS H0.h W H W' H'
theorem FutG.refl {st : Option Own → Bool} {Hn : Hp} (W : Wd) (H : Hp) : FutG st Hn W H W H :=
  ⟨Same.refl _, fun _ _ h => h, fun _ _ h _ => ⟨h, rfl⟩, fun a o h1 h2 => (by rw [h1] at h2; cases h2), fun a o h => ⟨o, h⟩⟩
theorem FutG.trans {st : Option Own → Bool} {Hn : Hp} {W W1 W2 : Wd} {H H1 H2 : Hp} (a : FutG st Hn W H W1 H1) (b : FutG st Hn W1 H1 W2 H2) : FutG st Hn W H W2 H2 where
  hf := a.hf.trans b.hf
  ad := fun n x h => b.ad n x (a.ad n x h)
  keep := fun x o h hn => by
    obtain ⟨h1, e1⟩ := a.keep x o h hn
    obtain ⟨h2, e2⟩ := b.keep x o h1 (by rw [e1]; exact hn)
    exact ⟨h2, e2.trans e1⟩
  new := fun x o h hn => by
    cases e : W1.hf x with
    | some u => exact a.new x u e hn
    | none => exact b.new x o h e
  dom := fun x o h => by
    obtain ⟨o', e⟩ := a.dom x o h
    exact b.dom x o' e
theorem none_of_dom {H H1 : Hp} (d : ∀ a o, H a = some o → ∃ o', H1 a = some o') {a : Addr} (h : H1 a = none) : H a = none := by
  cases q : H a with
  | none => rfl
  | some o =>
    obtain ⟨o', e⟩ := d a o q
    rw [h] at e; cases e
theorem FutG.old {st : Option Own → Bool} {Hn Hm : Hp} {W W' : Wd} {H H' : Hp} (f : FutG st Hn W H W' H') (d : ∀ a o, Hm a = some o → ∃ o', Hn a = some o') : FutG st Hm W H W' H' :=
  ⟨f.hf, f.ad, f.keep, fun a o h1 h2 => none_of_dom d (f.new a o h1 h2), f.dom⟩
theorem Fut.trans' {W W1 W2 : Wd} {H H1 H2 : Hp} (a : Fut W H W1 H1) (b : Fut W1 H1 W2 H2) : Fut W H W2 H2 := FutG.trans a (b.old a.dom)
theorem FutG.st {Hn : Hp} {W W' : Wd} {H H' : Hp} (f : FutG calmO Hn W H W' H') : FutG calmS Hn W H W' H' :=
  ⟨f.hf, f.ad, fun a o h1 h2 => f.keep a o h1 (calmS_O h2), f.new, f.dom⟩
theorem Fut.s {H0 : Bs} {W W' : Wd} {H H' : Hp} (f : Fut W H W' H') (d : ∀ a o, H0 a = some o → ∃ o', H a = some o') : FutS H0 W H W' H' := (FutG.old f d).st
section
variable {K : PySem.W.Frag} {ca : Ca} {H0 : Bs} {H H' : Hp} {W W' : Wd} {σ : L2.St} {ρ : Rho} {S : Sto} {a : Addr} {d : D} {o : HO}
theorem WOk.free (w : WOk W H) (h : H a = none) : W.hf a = none ∧ W.ow a = none := by
  constructor
  · cases e : W.hf a with
    | none => rfl
    | some o =>
      have := w.sub a o e
      rw [h] at this; cases this
  · cases e : W.ow a with
    | none => rfl
    | some p =>
      obtain ⟨o, e'⟩ := w.dom a p e
      rw [h] at e'; cases e'
theorem Cont.mono (c : Cont K ca W H a d) (e : ∀ o, H a = some o → H' a = some o) (f : Same W.hf W'.hf) (m : ∀ n x, W.ad n = some x → W'.ad n = some x) : Cont K ca W' H' a d := by
  cases d with
  | lst ds => obtain ⟨vs, h, q⟩ := c; exact ⟨vs, e _ h, q.mono f m⟩
  | dK ds => obtain ⟨vs, h, q⟩ := c; exact ⟨vs, e _ h, q.mono f m⟩
  | dT ds => obtain ⟨vs, h, q⟩ := c; exact ⟨vs, e _ h, q.mono f m⟩
  | _ => exact c
theorem ObOk.mono {ob : Ob} (c : ObOk K ca W H a ob) (e : ∀ o, H a = some o → H' a = some o) (f : Same W.hf W'.hf) (m : ∀ n x, W.ad n = some x → W'.ad n = some x) : ObOk K ca W' H' a ob := by
  cases ob with
  | lst ds => obtain ⟨vs, h, q⟩ := c; exact ⟨vs, e _ h, q.mono f m⟩
  | dK ds => obtain ⟨vs, h, q⟩ := c; exact ⟨vs, e _ h, q.mono f m⟩
  | dT ds => obtain ⟨vs, h, q⟩ := c; exact ⟨vs, e _ h, q.mono f m⟩
  | ins c' fs => obtain ⟨dx, vs, h, q⟩ := c; exact ⟨dx, vs, e _ h, q.mono f m⟩
theorem Cont.some (c : Cont K ca W H a d) : ∃ o, H a = some o := by
  cases d with
  | lst ds => obtain ⟨vs, h, q⟩ := c; exact ⟨_, h⟩
  | dK ds => obtain ⟨vs, h, q⟩ := c; exact ⟨_, h⟩
  | dT ds => obtain ⟨vs, h, q⟩ := c; exact ⟨_, h⟩
  | _ => exact c.elim
theorem XV.mono {cls : Value} {od : Option Addr} {x : Xc} (c : XV K ca W H cls od x) (f : Same W.hf W'.hf) (m : ∀ n y, W.ad n = some y → W'.ad n = some y) : XV K ca W' H' cls od x := by
  obtain ⟨h1, h2⟩ := c
  refine ⟨h1, ?_⟩
  cases e : x.fs with
  | none => rw [e] at h2; exact h2
  | some fs => rw [e] at h2; obtain ⟨d, vfs, h3, h4, h5⟩ := h2; exact ⟨d, vfs, h3, f _ _ h4, h5.mono f m⟩
theorem Bo.mono {H0 : Hp} {v : V} (c : Bo K ca H0 W H v d) (f : Same W.hf W'.hf) (m : ∀ n y, W.ad n = some y → W'.ad n = some y)
    (k : ∀ b o, H b = some o → calmS (W.ow b) = true → (∃ o, H0 b = some o) → H' b = some o ∧ W'.ow b = W.ow b) : Bo K ca H0 W' H' v d := by
  cases d with
  | lst l => obtain ⟨a, vs, e, h1, h2, h3, q⟩ := c; obtain ⟨k1, k2⟩ := k a _ h1 h2 h3; exact ⟨a, vs, e, k1, by rw [k2]; exact h2, h3, q.mono f m⟩
  | dK l => obtain ⟨a, vs, e, h1, h2, h3, q⟩ := c; obtain ⟨k1, k2⟩ := k a _ h1 h2 h3; exact ⟨a, vs, e, k1, by rw [k2]; exact h2, h3, q.mono f m⟩
  | dT l => obtain ⟨a, vs, e, h1, h2, h3, q⟩ := c; obtain ⟨k1, k2⟩ := k a _ h1 h2 h3; exact ⟨a, vs, e, k1, by rw [k2]; exact h2, h3, q.mono f m⟩
  | _ => exact DV.mono f m c
theorem SlotOk.mono {i : Nat} {v : Option V} {x : Sl} (c : SlotOk K ca H0 W H i v x) (f : Same W.hf W'.hf) (m : ∀ n y, W.ad n = some y → W'.ad n = some y)
    (k : ∀ b o, H b = some o → (W.ow b = some (.slot i) ∨ W.ow b = some (.lk i) ∨ (calmS (W.ow b) = true ∧ ∃ o, H0 b = some o)) → H' b = some o ∧ W'.ow b = W.ow b) : SlotOk K ca H0 W' H' i v x := by
  cases x with
  | no => trivial
  | val d => obtain ⟨u, e, q⟩ := c; exact ⟨u, e, q.mono f m⟩
  | own d =>
    obtain ⟨a, e, w, z, q⟩ := c
    obtain ⟨o, ho⟩ := q.some
    exact ⟨a, e, (k a o ho (.inl w)).2.trans w, z, q.mono (fun o h => (k a o h (.inl w)).1) f m⟩
  | lk d =>
    obtain ⟨a, e, w, z, q⟩ := c
    obtain ⟨o, ho⟩ := q.some
    exact ⟨a, e, (k a o ho (.inr (.inl w))).2.trans w, z, q.mono (fun o h => (k a o h (.inr (.inl w))).1) f m⟩
  | bo d => obtain ⟨u, e, q⟩ := c; exact ⟨u, e, q.mono f m fun b o h h1 h2 => k b o h (.inr (.inr ⟨h1, h2⟩))⟩
  | ex x => obtain ⟨a, od, cls, e, h, q⟩ := c; exact ⟨a, od, cls, e, h, q.mono f m⟩
theorem Rep.laid {p : Addr} (R : Rep K ca H0 W H σ ρ S) (hp : H p = none) (ht : ∀ xs, o ≠ .tup xs) : Rep K ca H0 W (upd H p o) σ ρ S := by
  have s : Same H (upd H p o) := fun b x e => by rw [upd_ne (ne_of_none e hp)]; exact e
  obtain ⟨f1, f2⟩ := R.w.free hp
  refine ⟨⟨R.w.sub.trans s, fun a xs e => ?_, R.w.dis, fun a q e => ?_⟩, ⟨fun n ob e => ?_, R.s.fin⟩, R.len, fun i x e => ?_, fun a x e => ?_⟩
  · by_cases h : a = p
    · subst h; rw [upd_same] at e; cases e; exact absurd rfl (ht xs)
    · rw [upd_ne h] at e; exact R.w.tup a xs e
  · obtain ⟨o', h⟩ := R.w.dom a q e
    exact ⟨o', s _ _ h⟩
  · obtain ⟨a, h1, h2, h3⟩ := R.s.at_ n ob e
    exact ⟨a, h1, h2, h3.mono (fun _ h => s _ _ h) (Same.refl _) fun _ _ h => h⟩
  · obtain ⟨v, h1, h2⟩ := R.sl i x e
    exact ⟨v, h1, h2.mono (Same.refl _) (fun _ _ h => h) fun b o h _ => ⟨s _ _ h, rfl⟩⟩
  · obtain ⟨o', h⟩ := R.h0 a x e
    exact ⟨o', s _ _ h⟩
theorem Fut.laid {p : Addr} (w : WOk W H) (hp : H p = none) : Fut W H W (upd H p o) := by
  have s : Same H (upd H p o) := fun b x e => by rw [upd_ne (ne_of_none e hp)]; exact e
  exact ⟨Same.refl _, fun _ _ h => h, fun a o h _ => ⟨s _ _ h, rfl⟩, fun a o h1 h2 => (by rw [h1] at h2; cases h2), fun a o h => ⟨o, s _ _ h⟩⟩
def Wd.fz (W : Wd) (a : Addr) (o : HO) : Wd := { W with hf := upd W.hf a o }
theorem same_upd {H : Hp} {p : Addr} {o : HO} (h : H p = none) : Same H (upd H p o) := fun b x e => by rw [upd_ne (ne_of_none e h)]; exact e
theorem Rep.fz (R : Rep K ca H0 W H σ ρ S) (ha : H a = some o) (hn : W.hf a = none) (ho : W.ow a = none) : Rep K ca H0 (W.fz a o) H σ ρ S := by
  have s : Same W.hf (upd W.hf a o) := same_upd hn
  refine ⟨⟨fun b x e => ?_, fun b xs e => ?_, fun b q e => ?_, R.w.dom⟩, ⟨fun n ob e => ?_, R.s.fin⟩, R.len, fun i x e => ?_, R.h0⟩
  · by_cases h : b = a
    · subst h
      have e' : upd W.hf b o b = some x := e
      rw [upd_same] at e'; cases e'; exact ha
    · have e' : upd W.hf a o b = some x := e
      rw [upd_ne h] at e'; exact R.w.sub b x e'
  · exact s _ _ (R.w.tup b xs e)
  · show upd W.hf a o b = none
    have hb : b ≠ a := fun h => by subst h; rw [show (W.fz b o).ow b = W.ow b from rfl, ho] at e; cases e
    rw [upd_ne hb]; exact R.w.dis b q e
  · obtain ⟨x, h1, h2, h3⟩ := R.s.at_ n ob e
    exact ⟨x, h1, h2, h3.mono (fun _ h => h) s fun _ _ h => h⟩
  · obtain ⟨v, h1, h2⟩ := R.sl i x e
    exact ⟨v, h1, h2.mono s (fun _ _ h => h) fun b o h _ => ⟨h, rfl⟩⟩
theorem FutG.fz {st : Option Own → Bool} {Hn : Hp} (hn : W.hf a = none) (hN : Hn a = none) : FutG st Hn W H (W.fz a o) H where
  hf := same_upd hn
  ad := fun _ _ h => h
  keep := fun _ _ h _ => ⟨h, rfl⟩
  new := fun b x h1 h2 => by
    by_cases h : b = a
    · rw [h]; exact hN
    · have h1' : upd W.hf a o b = some x := h1
      rw [upd_ne h] at h1'
      rw [h1'] at h2
      cases h2
  dom := fun a o h => ⟨o, h⟩
theorem Rep.new {p : Addr} (R : Rep K ca H0 W H σ ρ S) (hp : H p = none) : Rep K ca H0 (W.fz p o) (upd H p o) σ ρ S := by
  have s : Same H (upd H p o) := same_upd hp
  obtain ⟨f1, f2⟩ := R.w.free hp
  have t : Same W.hf (upd W.hf p o) := same_upd f1
  refine ⟨⟨fun b x e => ?_, fun b xs e => ?_, fun b q e => ?_, fun b q e => ?_⟩, ⟨fun n ob e => ?_, R.s.fin⟩, R.len, fun i x e => ?_, fun a x e => ?_⟩
  · have e' : upd W.hf p o b = some x := e
    by_cases h : b = p
    · subst h; rw [upd_same] at e'; cases e'; exact upd_same
    · rw [upd_ne h] at e' ⊢; exact R.w.sub b x e'
  · show upd W.hf p o b = some (.tup xs)
    by_cases h : b = p
    · subst h; rw [upd_same] at e ⊢; exact e
    · rw [upd_ne h] at e ⊢; exact R.w.tup b xs e
  · show upd W.hf p o b = none
    have hb : b ≠ p := fun h => by subst h; rw [show (W.fz b o).ow b = W.ow b from rfl, f2] at e; cases e
    rw [upd_ne hb]; exact R.w.dis b q e
  · obtain ⟨o', h⟩ := R.w.dom b q e
    exact ⟨o', s _ _ h⟩
  · obtain ⟨x, h1, h2, h3⟩ := R.s.at_ n ob e
    exact ⟨x, h1, h2, h3.mono (fun _ h => s _ _ h) t fun _ _ h => h⟩
  · obtain ⟨v, h1, h2⟩ := R.sl i x e
    exact ⟨v, h1, h2.mono t (fun _ _ h => h) fun b o h _ => ⟨s _ _ h, rfl⟩⟩
  · obtain ⟨o', h⟩ := R.h0 a x e
    exact ⟨o', s _ _ h⟩
theorem Fut.new {p : Addr} (w : WOk W H) (hp : H p = none) : Fut W H (W.fz p o) (upd H p o) where
  hf := same_upd (w.free hp).1
  ad := fun _ _ h => h
  keep := fun a x h _ => ⟨same_upd hp a x h, rfl⟩
  new := fun b x h1 h2 => by
    by_cases h : b = p
    · rw [h]; exact hp
    · have h1' : upd W.hf p o b = some x := h1
      rw [upd_ne h] at h1'
      rw [h1'] at h2
      cases h2
  dom := fun a x h => ⟨x, same_upd hp a x h⟩
end
end DL
namespace DL
open PySem PySem.Spec PyProof.Rows L2
noncomputable def cif {α : Type} (p : Prop) (a b : α) : α := @ite α p (Classical.propDecidable p) a b
theorem cif_pos {α : Type} {p : Prop} {a b : α} (h : p) : cif p a b = a := @if_pos p (Classical.propDecidable p) h α a b
theorem cif_neg {α : Type} {p : Prop} {a b : α} (h : ¬ p) : cif p a b = b := @if_neg p (Classical.propDecidable p) h α a b
noncomputable def cdec (p : Prop) : Bool := @decide p (Classical.propDecidable p)
theorem cdec_iff {p : Prop} : cdec p = true ↔ p := @decide_eq_true_iff p (Classical.propDecidable p)
theorem cdec_t {p : Prop} (h : p) : cdec p = true := cdec_iff.mpr h
abbrev Res (α : Type) := Option (Except Xc α × Sto)
abbrev M (α : Type) := Sto → Res α
def mp {α : Type} (a : α) : M α := fun S => some (.ok a, S)
def mf {α : Type} : M α := fun _ => none
def mo {α : Type} : Option α → M α
  | none => mf
  | some a => mp a
def mb {α β : Type} (x : M α) (k : α → M β) : M β := fun S => match x S with
  | none => none
  | some (.error e, S') => some (.error e, S')
  | some (.ok a, S') => k a S'
abbrev SE := Rho → M D
abbrev ST := Rho → M Bool
abbrev SA := Rho → M (List D)
inductive Md where
  | frz | bor | fre | sta
  deriving DecidableEq
section
variable (K : PySem.W.Frag) (ca : Ca)
def DR (m : Md) (H : Hp) (W' : Wd) (H' : Hp) (v : V) (d : D) : Prop :=
  match m with
  | .frz => DV K ca W'.hf W'.ad v d
  | .bor => match d with
    | .lst ds => ∃ a vs, v = .ref a ∧ H' a = some (.lst vs) ∧ calmO (W'.ow a) = true ∧ DVs K ca W'.hf W'.ad vs ds
    | .dK es => ∃ a kvs, v = .ref a ∧ H' a = some (.dK kvs) ∧ calmO (W'.ow a) = true ∧ DKs K ca W'.hf W'.ad kvs es
    | .dT es => ∃ a kvs, v = .ref a ∧ H' a = some (.dT kvs) ∧ calmO (W'.ow a) = true ∧ DTs K ca W'.hf W'.ad kvs es
    | d => DV K ca W'.hf W'.ad v d
  | .sta => match d with
    | .lst ds => ∃ a vs, v = .ref a ∧ H' a = some (.lst vs) ∧ calmS (W'.ow a) = true ∧ DVs K ca W'.hf W'.ad vs ds
    | .dK es => ∃ a kvs, v = .ref a ∧ H' a = some (.dK kvs) ∧ calmS (W'.ow a) = true ∧ DKs K ca W'.hf W'.ad kvs es
    | .dT es => ∃ a kvs, v = .ref a ∧ H' a = some (.dT kvs) ∧ calmS (W'.ow a) = true ∧ DTs K ca W'.hf W'.ad kvs es
    | d => DV K ca W'.hf W'.ad v d
  | .fre => match d with
    | .lst ds => ∃ a vs, v = .ref a ∧ H a = none ∧ W'.hf a = none ∧ W'.ow a = none ∧ H' a = some (.lst vs) ∧ DVs K ca W'.hf W'.ad vs ds
    | .dK es => ∃ a kvs, v = .ref a ∧ H a = none ∧ W'.hf a = none ∧ W'.ow a = none ∧ H' a = some (.dK kvs) ∧ DKs K ca W'.hf W'.ad kvs es
    | .dT es => ∃ a kvs, v = .ref a ∧ H a = none ∧ W'.hf a = none ∧ W'.ow a = none ∧ H' a = some (.dT kvs) ∧ DTs K ca W'.hf W'.ad kvs es
    | d => DV K ca W'.hf W'.ad v d
def CV (W : Wd) (H : Hp) (v : V) (d : D) : Prop :=
  match d with
  | .lst ds => ∃ a vs, v = .ref a ∧ H a = some (.lst vs) ∧ DVs K ca W.hf W.ad vs ds
  | .dK es => ∃ a kvs, v = .ref a ∧ H a = some (.dK kvs) ∧ DKs K ca W.hf W.ad kvs es
  | .dT es => ∃ a kvs, v = .ref a ∧ H a = some (.dT kvs) ∧ DTs K ca W.hf W.ad kvs es
  | .ins c fs => ∃ x dx vfs, v = .ref x ∧ H x = some (.ins (ca c) dx vfs) ∧ DFs K ca W.hf W.ad vfs fs
  | d => DV K ca W.hf W.ad v d
end
def dref (S : Sto) : D → D
  | .obj n => match S[n]? with
    | some (.lst l) => .lst l
    | some (.dK l) => .dK l
    | some (.dT l) => .dT l
    | some (.ins c fs) => .ins c fs
    | none => .obj n
  | d => d
def isScal : D → Bool
  | .non => true
  | .bl _ => true
  | .int _ => true
  | .str _ => true
  | .tup _ => true
  | .obj _ => true
  | .ins _ _ => true
  | .rol _ => true
  | _ => false
section
variable {K : PySem.W.Frag} {ca : Ca} {H0 : Bs} {H H' H1 H2 : Hp} {W W' W1 W2 : Wd} {σ : L2.St} {ρ : Rho} {S : Sto} {v : V} {d : D} {m : Md}
theorem DR.scal (h : isScal d = true) (q : DV K ca W'.hf W'.ad v d) : DR K ca m H W' H' v d := by
  cases m <;> cases d <;> first | exact q | cases h
theorem DR.toSta (hm : m ≠ .bor) (w : WOk W' H') (q : DR K ca m H W' H' v d) : DR K ca .sta H1 W' H' v d := by
  have cal : ∀ {a : Addr} {o : HO}, W'.hf a = some o → calmS (W'.ow a) = true := fun {a o} h => by
    cases e : W'.ow a with
    | none => rfl
    | some p =>
      have z := w.dis a p e
      rw [h] at z; cases z
  cases m with
  | bor => exact absurd rfl hm
  | sta => cases d <;> exact q
  | frz =>
    cases d with
    | lst ds => obtain ⟨a, vs, e, h, r⟩ := DV.ofLst q; exact ⟨a, vs, e, w.sub _ _ h, cal h, r⟩
    | dK ds => obtain ⟨a, vs, e, h, r⟩ := DV.ofDK q; exact ⟨a, vs, e, w.sub _ _ h, cal h, r⟩
    | dT ds => obtain ⟨a, vs, e, h, r⟩ := DV.ofDT q; exact ⟨a, vs, e, w.sub _ _ h, cal h, r⟩
    | _ => exact q
  | fre =>
    cases d with
    | lst ds => obtain ⟨a, vs, e, h1, h2, h3, h4, r⟩ := q; exact ⟨a, vs, e, h4, by rw [h3]; rfl, r⟩
    | dK ds => obtain ⟨a, vs, e, h1, h2, h3, h4, r⟩ := q; exact ⟨a, vs, e, h4, by rw [h3]; rfl, r⟩
    | dT ds => obtain ⟨a, vs, e, h1, h2, h3, h4, r⟩ := q; exact ⟨a, vs, e, h4, by rw [h3]; rfl, r⟩
    | _ => exact q
theorem DR.toBor (w : WOk W' H') (q : DR K ca m H W' H' v d) : DR K ca .bor H1 W' H' v d := by
  have cal : ∀ {a : Addr} {o : HO}, W'.hf a = some o → calmO (W'.ow a) = true := fun {a o} h => by
    cases e : W'.ow a with
    | none => rfl
    | some p =>
      have z := w.dis a p e
      rw [h] at z; cases z
  cases m with
  | bor => cases d <;> exact q
  | sta =>
    cases d with
    | lst ds => obtain ⟨a, vs, e, h, c, r⟩ := q; exact ⟨a, vs, e, h, calmS_O c, r⟩
    | dK ds => obtain ⟨a, vs, e, h, c, r⟩ := q; exact ⟨a, vs, e, h, calmS_O c, r⟩
    | dT ds => obtain ⟨a, vs, e, h, c, r⟩ := q; exact ⟨a, vs, e, h, calmS_O c, r⟩
    | _ => exact q
  | frz =>
    cases d with
    | lst ds => obtain ⟨a, vs, e, h, r⟩ := DV.ofLst q; exact ⟨a, vs, e, w.sub _ _ h, cal h, r⟩
    | dK ds => obtain ⟨a, vs, e, h, r⟩ := DV.ofDK q; exact ⟨a, vs, e, w.sub _ _ h, cal h, r⟩
    | dT ds => obtain ⟨a, vs, e, h, r⟩ := DV.ofDT q; exact ⟨a, vs, e, w.sub _ _ h, cal h, r⟩
    | _ => exact q
  | fre =>
    cases d with
    | lst ds => obtain ⟨a, vs, e, h1, h2, h3, h4, r⟩ := q; exact ⟨a, vs, e, h4, by rw [h3]; rfl, r⟩
    | dK ds => obtain ⟨a, vs, e, h1, h2, h3, h4, r⟩ := q; exact ⟨a, vs, e, h4, by rw [h3]; rfl, r⟩
    | dT ds => obtain ⟨a, vs, e, h1, h2, h3, h4, r⟩ := q; exact ⟨a, vs, e, h4, by rw [h3]; rfl, r⟩
    | _ => exact q
theorem DR.later (hm : m ≠ .fre) (f : Fut W1 H1 W2 H2) (q : DR K ca m H W1 H1 v d) : DR K ca m H W2 H2 v d := by
  cases m with
  | fre => exact absurd rfl hm
  | frz => exact DV.mono f.hf f.ad q
  | sta =>
    cases d with
    | lst ds =>
      obtain ⟨a, vs, e, h, c, r⟩ := q
      obtain ⟨k1, k2⟩ := f.keep a _ h (calmS_O c)
      exact ⟨a, vs, e, k1, by rw [k2]; exact c, r.mono f.hf f.ad⟩
    | dK ds =>
      obtain ⟨a, vs, e, h, c, r⟩ := q
      obtain ⟨k1, k2⟩ := f.keep a _ h (calmS_O c)
      exact ⟨a, vs, e, k1, by rw [k2]; exact c, r.mono f.hf f.ad⟩
    | dT ds =>
      obtain ⟨a, vs, e, h, c, r⟩ := q
      obtain ⟨k1, k2⟩ := f.keep a _ h (calmS_O c)
      exact ⟨a, vs, e, k1, by rw [k2]; exact c, r.mono f.hf f.ad⟩
    | _ => exact DV.mono f.hf f.ad q
  | bor =>
    cases d with
    | lst ds =>
      obtain ⟨a, vs, e, h, c, r⟩ := q
      obtain ⟨k1, k2⟩ := f.keep a _ h c
      exact ⟨a, vs, e, k1, by rw [k2]; exact c, r.mono f.hf f.ad⟩
    | dK ds =>
      obtain ⟨a, vs, e, h, c, r⟩ := q
      obtain ⟨k1, k2⟩ := f.keep a _ h c
      exact ⟨a, vs, e, k1, by rw [k2]; exact c, r.mono f.hf f.ad⟩
    | dT ds =>
      obtain ⟨a, vs, e, h, c, r⟩ := q
      obtain ⟨k1, k2⟩ := f.keep a _ h c
      exact ⟨a, vs, e, k1, by rw [k2]; exact c, r.mono f.hf f.ad⟩
    | _ => exact DV.mono f.hf f.ad q
theorem DR.older (dm : ∀ a o, H a = some o → ∃ o', H1 a = some o') (q : DR K ca m H1 W' H' v d) : DR K ca m H W' H' v d := by
  cases m with
  | frz => exact q
  | bor => cases d <;> exact q
  | sta => cases d <;> exact q
  | fre =>
    cases d with
    | lst ds => obtain ⟨a, vs, e, h1, r⟩ := q; exact ⟨a, vs, e, none_of_dom dm h1, r⟩
    | dK ds => obtain ⟨a, vs, e, h1, r⟩ := q; exact ⟨a, vs, e, none_of_dom dm h1, r⟩
    | dT ds => obtain ⟨a, vs, e, h1, r⟩ := q; exact ⟨a, vs, e, none_of_dom dm h1, r⟩
    | _ => exact q
theorem CV.ofDV (w : WOk W H) (q : DV K ca W.hf W.ad v d) : CV K ca W H v d := by
  cases d with
  | lst ds => obtain ⟨a, vs, e, h, r⟩ := DV.ofLst q; exact ⟨a, vs, e, w.sub _ _ h, r⟩
  | dK ds => obtain ⟨a, vs, e, h, r⟩ := DV.ofDK q; exact ⟨a, vs, e, w.sub _ _ h, r⟩
  | dT ds => obtain ⟨a, vs, e, h, r⟩ := DV.ofDT q; exact ⟨a, vs, e, w.sub _ _ h, r⟩
  | ins c fs => obtain ⟨x, dx, vs, e, h, r⟩ := DV.ofIns q; exact ⟨x, dx, vs, e, w.sub _ _ h, r⟩
  | _ => exact q
theorem DR.view (w : WOk W H') (s : RepS K ca W H' S) (q : DR K ca m H W H' v d) : CV K ca W H' v (dref S d) := by
  have q := DR.toBor (H1 := H) w q
  cases d with
  | obj n =>
    obtain ⟨a, e, h⟩ := DV.ofObj q
    cases x : S[n]? with
    | none => simp only [dref, x]; exact q
    | some ob =>
      obtain ⟨b, h1, h2, h3⟩ := s.at_ n ob x
      have hb : b = a := by rw [h] at h1; exact (Option.some.inj h1).symm
      subst hb
      cases ob with
      | lst l => simp only [dref, x]; obtain ⟨vs, h4, h5⟩ := h3; exact ⟨b, vs, e, h4, h5⟩
      | dK l => simp only [dref, x]; obtain ⟨vs, h4, h5⟩ := h3; exact ⟨b, vs, e, h4, h5⟩
      | dT l => simp only [dref, x]; obtain ⟨vs, h4, h5⟩ := h3; exact ⟨b, vs, e, h4, h5⟩
      | ins c l => simp only [dref, x]; obtain ⟨dx, vs, h4, h5⟩ := h3; exact ⟨b, dx, vs, e, h4, h5⟩
  | lst ds => obtain ⟨a, vs, e, h, c, r⟩ := q; exact ⟨a, vs, e, h, r⟩
  | dK ds => obtain ⟨a, vs, e, h, c, r⟩ := q; exact ⟨a, vs, e, h, r⟩
  | dT ds => obtain ⟨a, vs, e, h, c, r⟩ := q; exact ⟨a, vs, e, h, r⟩
  | ins c fs => exact CV.ofDV (d := .ins c fs) w q
  | _ => exact q
end
section
variable (K : PySem.W.Frag) (ca : Ca) (H0 : Bs) (Wx : WX)
def OutM {α : Type} (W : Wd) (ρ : Rho) (σ : L2.St) (H : Hp) (r : Res α) (P : α → Sto → Wd → Hp → Prop) : Prop :=
  match r with
  | none => False
  | some (.ok a, S') => ∀ W' H', Fut W H W' H' → Rep K ca H0 W' H' σ ρ S' → P a S' W' H'
  | some (.error x, S') => ∀ W' H' cls od, Fut W H W' H' → Rep K ca H0 W' H' σ ρ S' → XV K ca W' H' cls od x → Wx cls od σ H'
def tE (m : Md) (f : SE) : TE := fun σ H Q => ∃ W ρ S, Rep K ca H0 W H σ ρ S ∧ OutM K ca H0 Wx W ρ σ H (f ρ S) fun d _ W' H' => ∀ v, DR K ca m H W' H' v d → Q v H'
def tT (f : ST) : TT := fun σ H Q => ∃ W ρ S, Rep K ca H0 W H σ ρ S ∧ OutM K ca H0 Wx W ρ σ H (f ρ S) fun b _ _ H' => Q b H'
inductive DRs (m : Md) (H : Hp) (W : Wd) (H' : Hp) : List V → List D → Prop
  | nil : DRs m H W H' [] []
  | cons {v : V} {vs : List V} {d : D} {ds : List D} : DR K ca m H W H' v d → DRs m H W H' vs ds → DRs m H W H' (v :: vs) (d :: ds)
def tA (m : Md) (f : SA) : TA := fun σ H Q => ∃ W ρ S, Rep K ca H0 W H σ ρ S ∧ OutM K ca H0 Wx W ρ σ H (f ρ S) fun ds _ W' H' => ∀ vs, DRs K ca m H W' H' vs ds → Q vs H'
end
section
variable {K : PySem.W.Frag} {ca : Ca} {H0 : Bs} {Wx : WX} {W : Wd} {ρ : Rho} {σ : L2.St} {H : Hp} {S : Sto} {α β : Type}
theorem OutM.imp {r : Res α} {P P' : α → Sto → Wd → Hp → Prop} (h : OutM K ca H0 Wx W ρ σ H r P)
    (i : ∀ a S' W' H', Fut W H W' H' → Rep K ca H0 W' H' σ ρ S' → P a S' W' H' → P' a S' W' H') : OutM K ca H0 Wx W ρ σ H r P' := by
  match r, h with
  | some (.ok a, S'), h => exact fun W' H' f R => i a S' W' H' f R (h W' H' f R)
  | some (.error x, S'), h => exact h
theorem OutM.later {r : Res α} {P : α → Sto → Wd → Hp → Prop} {W1 : Wd} {H1 : Hp} (f : Fut W H W1 H1) (h : OutM K ca H0 Wx W ρ σ H r P) : OutM K ca H0 Wx W1 ρ σ H1 r P := by
  match r, h with
  | some (.ok a, S'), h => exact fun W' H' g R => h W' H' (Fut.trans' f g) R
  | some (.error x, S'), h => exact fun W' H' cls od g R => h W' H' cls od (Fut.trans' f g) R
theorem OutM.bind {x : M α} {k : α → M β} {P : β → Sto → Wd → Hp → Prop} (h : OutM K ca H0 Wx W ρ σ H (mb x k S) P) :
    OutM K ca H0 Wx W ρ σ H (x S) fun a S1 W1 H1 => OutM K ca H0 Wx W1 ρ σ H1 (k a S1) P := by
  unfold mb at h
  match e : x S with
  | none => rw [e] at h; exact h
  | some (.error z, S') => rw [e] at h; exact h
  | some (.ok a, S') =>
    rw [e] at h
    exact fun W1 H1 f R => OutM.later f h
end
theorem PE.imp {X : Cx} {e : Expr} {t t' : TE} (h : PE X e t) (i : ∀ σ H Q, t' σ H Q → t σ H Q) : PE X e t' := ⟨fun pins s σ H Q I q => h.run pins s σ H Q I (i σ H Q q)⟩
theorem PT.imp {X : Cx} {e : Expr} {t t' : TT} (h : PT X e t) (i : ∀ σ H Q, t' σ H Q → t σ H Q) : PT X e t' := ⟨fun pins s σ H Q I q => h.run pins s σ H Q I (i σ H Q q)⟩
theorem PA.imp {X : Cx} {e : List Expr} {t t' : TA} (h : PA X e t) (i : ∀ σ H Q, t' σ H Q → t σ H Q) : PA X e t' := ⟨fun pos pins s σ H Q I q => h.run pos pins s σ H Q I (i σ H Q q)⟩
theorem PS.imp {X : Cx} {e : Stmt} {t t' : TS} (h : PS X e t) (i : ∀ D σ H, t' D σ H → t D σ H) : PS X e t' := ⟨fun pins s σ H D I q => h.run pins s σ H D I (i D σ H q)⟩
theorem PSs.imp {X : Cx} {e : List Stmt} {t t' : TS} (h : PSs X e t) (i : ∀ D σ H, t' D σ H → t D σ H) : PSs X e t' := ⟨fun pins s σ H D I q => h.run pins s σ H D I (i D σ H q)⟩
abbrev DE (X : Cx) (ca : Ca) (H0 : Bs) (Wx : WX) (m : Md) (e : Expr) (f : SE) : Prop := PE X e (tE X.K ca H0 Wx m f)
abbrev DT (X : Cx) (ca : Ca) (H0 : Bs) (Wx : WX) (e : Expr) (f : ST) : Prop := PT X e (tT X.K ca H0 Wx f)
abbrev DW (X : Cx) (ca : Ca) (H0 : Bs) (Wx : WX) (e : Expr) (f : ST) : Prop := PW X e (tT X.K ca H0 Wx f)
abbrev DA (X : Cx) (ca : Ca) (H0 : Bs) (Wx : WX) (m : Md) (es : List Expr) (f : SA) : Prop := PA X es (tA X.K ca H0 Wx m f)
section
variable {X : Cx} {ca : Ca} {H0 : Bs} {Wx : WX} {m : Md}
theorem de_tC {e : Expr} {v : V} {d : D} (h : PE X e (tC v)) (q : ∀ hf ad, DV X.K ca hf ad v d) (i : isScal d = true := by rfl) : DE X ca H0 Wx m e (fun _ => mp d) :=
  PE.imp h fun σ H Q ⟨W, ρ, S, R, o⟩ => o W H (FutG.refl _ _) R v (DR.scal i (q _ _))
theorem de_int {i : Int} {j pos} : DE X ca H0 Wx m (.Constant (.int i) j pos) (fun _ => mp (.int i)) := de_tC pe_int fun _ _ => .int i
theorem de_bl {b j pos} : DE X ca H0 Wx m (.Constant (.bool b) j pos) (fun _ => mp (.bl b)) := de_tC pe_bl fun _ _ => .bl b
theorem de_non {j pos} : DE X ca H0 Wx m (.Constant .none j pos) (fun _ => mp .non) := de_tC pe_non fun _ _ => .non
theorem de_str {x j pos} : DE X ca H0 Wx m (.Constant (.str x) j pos) (fun _ => mp (.str x)) := de_tC pe_str fun _ _ => .str x
theorem de_glob {x : Str} {v : V} {u : Value} {pos : Pos} {d : D} (hg : Gl X x) (hm : X.mg x = some u) (r : RelV v u) (q : DV X.K ca (fun _ => none) (fun _ => none) v d) (hd : (x == ("__debug__" : Str)) = false := by decide) (i : isScal d = true := by rfl) :
    DE X ca H0 Wx m (.Name x pos) (fun _ => mp d) := de_tC (pe_glob hg hm r hd) (fun _ _ => DV.mono (fun _ _ h => by cases h) (fun _ _ h => by cases h) q) i
def sVar (i : Nat) : SE := fun ρ => match ρ[i]? with
  | some (.val d) => mp d
  | some (.bo d) => if isScal d = true then mp d else mf
  | _ => mf
def sVarB (i : Nat) : SE := fun ρ => match ρ[i]? with
  | some (.val d) => mp d
  | some (.own d) => mp d
  | some (.lk d) => mp d
  | some (.bo d) => mp d
  | _ => mf
theorem de_var {i : Nat} {x : Str} {pos : Pos} (h : PE X (.Name x pos) (tVar i)) : DE X ca H0 Wx .frz (.Name x pos) (sVar i) := by
  refine PE.imp h fun σ H Q ⟨W, ρ, S, R, o⟩ => ?_
  unfold sVar at o
  cases e : ρ[i]? with
  | none => rw [e] at o; exact False.elim o
  | some sl =>
    rw [e] at o
    cases sl with
    | val d =>
      obtain ⟨v, h1, u, h2, h3⟩ := R.sl i _ e
      subst h2
      exact ⟨u, h1, o W H (FutG.refl _ _) R u h3⟩
    | bo d =>
      obtain ⟨v, h1, u, h2, h3⟩ := R.sl i _ e
      subst h2
      by_cases hs : isScal d = true
      · have o' := (show OutM X.K ca H0 Wx W ρ σ H ((if isScal d = true then mp d else mf) S) _ from o)
        rw [if_pos hs] at o'
        refine ⟨u, h1, o' W H (FutG.refl _ _) R u ?_⟩
        cases d <;> first | exact h3 | cases hs
      · have o' := (show OutM X.K ca H0 Wx W ρ σ H ((if isScal d = true then mp d else mf) S) _ from o)
        rw [if_neg hs] at o'
        exact False.elim o'
    | _ => exact False.elim o
theorem de_varB {i : Nat} {x : Str} {pos : Pos} (h : PE X (.Name x pos) (tVar i)) : DE X ca H0 Wx .bor (.Name x pos) (sVarB i) := by
  refine PE.imp h fun σ H Q ⟨W, ρ, S, R, o⟩ => ?_
  unfold sVarB at o
  have own : ∀ {d : D} {a : Addr} {p : Own}, W.ow a = some p → calmO (some p) = true → Cont X.K ca W H a d → DR X.K ca .bor H W H (.ref a) d := fun {d a p} h1 h2 h3 => by
    have hc : calmO (W.ow a) = true := by rw [h1]; exact h2
    cases d with
    | lst l => obtain ⟨vs, k, r⟩ := h3; exact ⟨a, vs, rfl, k, hc, r⟩
    | dK l => obtain ⟨vs, k, r⟩ := h3; exact ⟨a, vs, rfl, k, hc, r⟩
    | dT l => obtain ⟨vs, k, r⟩ := h3; exact ⟨a, vs, rfl, k, hc, r⟩
    | _ => exact h3.elim
  cases e : ρ[i]? with
  | none => rw [e] at o; exact False.elim o
  | some sl =>
    rw [e] at o
    cases sl with
    | no => exact False.elim o
    | ex x => exact False.elim o
    | val d =>
      obtain ⟨v, h1, u, h2, h3⟩ := R.sl i _ e
      subst h2
      exact ⟨u, h1, o W H (FutG.refl _ _) R u (DR.toBor (m := .frz) (H := H) R.w h3)⟩
    | own d =>
      obtain ⟨v, h1, a, h2, h3, _, h4⟩ := R.sl i _ e
      subst h2
      exact ⟨_, h1, o W H (FutG.refl _ _) R _ (own h3 rfl h4)⟩
    | lk d =>
      obtain ⟨v, h1, a, h2, h3, _, h4⟩ := R.sl i _ e
      subst h2
      exact ⟨_, h1, o W H (FutG.refl _ _) R _ (own h3 rfl h4)⟩
    | bo d =>
      obtain ⟨v, h1, u, h2, h3⟩ := R.sl i _ e
      subst h2
      refine ⟨u, h1, o W H (FutG.refl _ _) R u ?_⟩
      cases d with
      | lst l => obtain ⟨a, vs, e, k1, k2, _, q⟩ := h3; exact ⟨a, vs, e, k1, calmS_O k2, q⟩
      | dK l => obtain ⟨a, vs, e, k1, k2, _, q⟩ := h3; exact ⟨a, vs, e, k1, calmS_O k2, q⟩
      | dT l => obtain ⟨a, vs, e, k1, k2, _, q⟩ := h3; exact ⟨a, vs, e, k1, calmS_O k2, q⟩
      | _ => exact h3
theorem de_bor {e : Expr} {f : SE} {m : Md} (h : DE X ca H0 Wx m e f) : DE X ca H0 Wx .bor e f :=
  PE.imp h fun σ H Q ⟨W, ρ, S, R, o⟩ => ⟨W, ρ, S, R, o.imp fun d S' W' H' F R' q v r => q v (DR.toBor R'.w r)⟩
theorem de_sta {e : Expr} {f : SE} {m : Md} (h : DE X ca H0 Wx m e f) (hm : m ≠ .bor := by decide) : DE X ca H0 Wx .sta e f :=
  PE.imp h fun σ H Q ⟨W, ρ, S, R, o⟩ => ⟨W, ρ, S, R, o.imp fun d S' W' H' F R' q v r => q v (DR.toSta hm R'.w r)⟩
def sVarS (i : Nat) : SE := fun ρ => match ρ[i]? with
  | some (.val d) => mp d
  | some (.lk d) => mp d
  | some (.bo d) => mp d
  | _ => mf
theorem de_varS {i : Nat} {x : Str} {pos : Pos} (h : PE X (.Name x pos) (tVar i)) : DE X ca H0 Wx .sta (.Name x pos) (sVarS i) := by
  refine PE.imp h fun σ H Q ⟨W, ρ, S, R, o⟩ => ?_
  unfold sVarS at o
  cases e : ρ[i]? with
  | none => rw [e] at o; exact False.elim o
  | some sl =>
    rw [e] at o
    cases sl with
    | val d =>
      obtain ⟨v, h1, u, h2, h3⟩ := R.sl i _ e
      subst h2
      exact ⟨u, h1, o W H (FutG.refl _ _) R u (DR.toSta (m := .frz) (H := H) (by decide) R.w h3)⟩
    | lk d =>
      obtain ⟨v, h1, a, h2, h3, _, h4⟩ := R.sl i _ e
      subst h2
      refine ⟨_, h1, o W H (FutG.refl _ _) R _ ?_⟩
      have hc : calmS (W.ow a) = true := by rw [h3]; rfl
      cases d with
      | lst l => obtain ⟨vs, k, r⟩ := h4; exact ⟨a, vs, rfl, k, hc, r⟩
      | dK l => obtain ⟨vs, k, r⟩ := h4; exact ⟨a, vs, rfl, k, hc, r⟩
      | dT l => obtain ⟨vs, k, r⟩ := h4; exact ⟨a, vs, rfl, k, hc, r⟩
      | _ => exact h4.elim
    | bo d =>
      obtain ⟨v, h1, u, h2, h3⟩ := R.sl i _ e
      subst h2
      refine ⟨u, h1, o W H (FutG.refl _ _) R u ?_⟩
      cases d with
      | lst l => obtain ⟨a, vs, e, k1, k2, _, q⟩ := h3; exact ⟨a, vs, e, k1, k2, q⟩
      | dK l => obtain ⟨a, vs, e, k1, k2, _, q⟩ := h3; exact ⟨a, vs, e, k1, k2, q⟩
      | dT l => obtain ⟨a, vs, e, k1, k2, _, q⟩ := h3; exact ⟨a, vs, e, k1, k2, q⟩
      | _ => exact h3
    | _ => exact False.elim o
end
end DL
namespace DL
open PySem PySem.Spec PyProof.Rows L2
def FinR (K : PySem.W.Frag) (ca : Ca) (H0 : Bs) (m : Md) (W : Wd) (H : Hp) (S : Sto) (d : D) (Q : VK) : Prop :=
  ∀ W' H' v, Fut W H W' H' → (∀ σ ρ, Rep K ca H0 W H σ ρ S → Rep K ca H0 W' H' σ ρ S) → DR K ca m H W' H' v d → Q v H'
section
variable {K : PySem.W.Frag} {ca : Ca} {H0 : Bs} {H : Hp} {m : Md} {W : Wd} {S : Sto} {d : D} {Q : VK} {v : V}
theorem FinR.scal (f : FinR K ca H0 m W H S d Q) (i : isScal d = true) (q : DV K ca W.hf W.ad v d) : Q v H := f W H v (FutG.refl _ _) (fun _ _ R => R) (DR.scal i q)
theorem FinR.tup {ds : List D} {vs : List V} (f : FinR K ca H0 m W H S (.tup ds) Q) (w : WOk W H) (q : DVs K ca W.hf W.ad vs ds) : ∀ p, H p = none → Q (.ref p) (upd H p (.tup vs)) := fun p hp =>
  f (W.fz p (.tup vs)) _ _ (Fut.new w hp) (fun _ _ R => R.new hp) (DR.scal rfl (.tup (.inl upd_same) (q.mono (same_upd (w.free hp).1) fun _ _ h => h)))
theorem FinR.lst {ds : List D} {vs : List V} (f : FinR K ca H0 m W H S (.lst ds) Q) (w : WOk W H) (q : DVs K ca W.hf W.ad vs ds) : ∀ p, H p = none → Q (.ref p) (upd H p (.lst vs)) := fun p hp => by
  obtain ⟨f1, f2⟩ := w.free hp
  cases m with
  | frz => exact f (W.fz p (.lst vs)) _ _ (Fut.new w hp) (fun _ _ R => R.new hp) (DV.lst upd_same (q.mono (same_upd f1) fun _ _ h => h))
  | bor => exact f W _ _ (Fut.laid w hp) (fun _ _ R => R.laid hp fun _ z => by cases z) ⟨p, vs, rfl, upd_same, by rw [f2]; rfl, q⟩
  | sta => exact f W _ _ (Fut.laid w hp) (fun _ _ R => R.laid hp fun _ z => by cases z) ⟨p, vs, rfl, upd_same, by rw [f2]; rfl, q⟩
  | fre => exact f W _ _ (Fut.laid w hp) (fun _ _ R => R.laid hp fun _ z => by cases z) ⟨p, vs, rfl, hp, f1, f2, upd_same, q⟩
theorem FinR.dK {ds : List (Key × D)} {vs : List (Key × V)} (f : FinR K ca H0 m W H S (.dK ds) Q) (w : WOk W H) (q : DKs K ca W.hf W.ad vs ds) : ∀ p, H p = none → Q (.ref p) (upd H p (.dK vs)) := fun p hp => by
  obtain ⟨f1, f2⟩ := w.free hp
  cases m with
  | frz => exact f (W.fz p (.dK vs)) _ _ (Fut.new w hp) (fun _ _ R => R.new hp) (DV.dK upd_same (q.mono (same_upd f1) fun _ _ h => h))
  | bor => exact f W _ _ (Fut.laid w hp) (fun _ _ R => R.laid hp fun _ z => by cases z) ⟨p, vs, rfl, upd_same, by rw [f2]; rfl, q⟩
  | sta => exact f W _ _ (Fut.laid w hp) (fun _ _ R => R.laid hp fun _ z => by cases z) ⟨p, vs, rfl, upd_same, by rw [f2]; rfl, q⟩
  | fre => exact f W _ _ (Fut.laid w hp) (fun _ _ R => R.laid hp fun _ z => by cases z) ⟨p, vs, rfl, hp, f1, f2, upd_same, q⟩
theorem FinR.dT {ds : List (List Key × D)} {vs : List (List Key × V)} (f : FinR K ca H0 m W H S (.dT ds) Q) (w : WOk W H) (q : DTs K ca W.hf W.ad vs ds) : ∀ p, H p = none → Q (.ref p) (upd H p (.dT vs)) := fun p hp => by
  obtain ⟨f1, f2⟩ := w.free hp
  cases m with
  | frz => exact f (W.fz p (.dT vs)) _ _ (Fut.new w hp) (fun _ _ R => R.new hp) (DV.dT upd_same (q.mono (same_upd f1) fun _ _ h => h))
  | bor => exact f W _ _ (Fut.laid w hp) (fun _ _ R => R.laid hp fun _ z => by cases z) ⟨p, vs, rfl, upd_same, by rw [f2]; rfl, q⟩
  | sta => exact f W _ _ (Fut.laid w hp) (fun _ _ R => R.laid hp fun _ z => by cases z) ⟨p, vs, rfl, upd_same, by rw [f2]; rfl, q⟩
  | fre => exact f W _ _ (Fut.laid w hp) (fun _ _ R => R.laid hp fun _ z => by cases z) ⟨p, vs, rfl, hp, f1, f2, upd_same, q⟩
end
def OpD (X : Cx) (ca : Ca) (H0 : Bs) (m : Md) (f : Value → Value → Sem Value) (o : D → D → Option D) : Prop :=
  ∃ r : R2, OpR X f r ∧ ∀ W H S x y dx dy d Q, WOk W H → RepS X.K ca W H S → CV X.K ca W H x dx → CV X.K ca W H y dy → o dx dy = some d → FinR X.K ca H0 m W H S d Q → r x y H Q
theorem OpD.or {X : Cx} {ca : Ca} {H0 : Bs} {m : Md} {f : Value → Value → Sem Value} {o o' o'' : D → D → Option D} (a : OpD X ca H0 m f o) (b : OpD X ca H0 m f o')
    (h : ∀ x y d, o'' x y = some d → o x y = some d ∨ o' x y = some d) : OpD X ca H0 m f o'' := by
  obtain ⟨r, h1, h2⟩ := a
  obtain ⟨r', h1', h2'⟩ := b
  refine ⟨_, OpR.or h1 h1', fun W H S x y dx dy d Q w s cx cy e F => ?_⟩
  rcases h dx dy d e with e | e
  · exact .inl (h2 W H S x y dx dy d Q w s cx cy e F)
  · exact .inr (h2' W H S x y dx dy d Q w s cx cy e F)
def sBin (o : D → D → Option D) (fa fb : SE) : SE := fun ρ => mb (fa ρ) fun x => mb (fb ρ) fun y S => mo (o (dref S x) (dref S y)) S
section
variable {X : Cx} {ca : Ca} {H0 : Bs} {Wx : WX} {m : Md}
theorem two_of {r : R2} {o : D → D → Option D} {fa fb : SE} {m : Md}
    (h2 : ∀ W H S x y dx dy d Q, WOk W H → RepS X.K ca W H S → CV X.K ca W H x dx → CV X.K ca W H y dy → o dx dy = some d → FinR X.K ca H0 m W H S d Q → r x y H Q) {σ : L2.St} {H : Hp} {Q : VK}
    (h : tE X.K ca H0 Wx m (sBin o fa fb) σ H Q) : tE X.K ca H0 Wx .bor fa σ H fun x H1 => tE X.K ca H0 Wx .bor fb σ H1 fun y H2 => r x y H2 Q := by
  obtain ⟨W, ρ, S, R, h⟩ := h
  refine ⟨W, ρ, S, R, (OutM.bind h).imp fun dx S1 W1 H1 F1 R1 h1 x D1 => ⟨W1, ρ, S1, R1, (OutM.bind h1).imp fun dy S2 W2 H2 F2 R2 h3 y D2 => ?_⟩⟩
  have D1' := DR.later (by decide) F2 D1
  have c1 := DR.view R2.w R2.s D1'
  have c2 := DR.view R2.w R2.s D2
  cases e : o (dref S2 dx) (dref S2 dy) with
  | none => rw [e] at h3; exact False.elim h3
  | some d =>
    rw [e] at h3
    exact h2 W2 H2 S2 x y _ _ d Q R2.w R2.s c1 c2 e fun W' H' v F k r => h3 W' H' F (k _ _ R2) v (DR.older (fun a o ha => (Fut.trans' F1 F2).dom a o ha) r)
theorem de_bin {op : Operator} {o : D → D → Option D} {a b : Expr} {fa fb : SE} {pos : Pos} (ho : OpD X ca H0 m (binaryOp op) o) (ha : DE X ca H0 Wx .bor a fa) (hb : DE X ca H0 Wx .bor b fb) : DE X ca H0 Wx m (.BinOp a op b pos) (sBin o fa fb) := by
  obtain ⟨r, h1, h2⟩ := ho
  exact PE.imp (pe_op h1 ha hb) fun σ H Q h => two_of h2 h
theorem de_cmp {op : CmpOp} {o : D → D → Option D} {a b : Expr} {fa fb : SE} {pos : Pos} (ho : OpD X ca H0 m (compareOp op) o) (ha : DE X ca H0 Wx .bor a fa) (hb : DE X ca H0 Wx .bor b fb) (hm : behindInMarks op b = false) : DE X ca H0 Wx m (.Compare a [op] [b] pos) (sBin o fa fb) := by
  obtain ⟨r, h1, h2⟩ := ho
  exact PE.imp (pe_cmpR h1 ha hb hm) fun σ H Q h => two_of h2 h
def dBl : D → Option Bool
  | .bl b => some b
  | _ => none
def sBl (f : SE) : ST := fun ρ => mb (f ρ) fun d => mo (dBl d)
theorem test_of {f : SE} {σ : L2.St} {H : Hp} {Q : Bool → Hp → Prop} (h : tT X.K ca H0 Wx (sBl f) σ H Q) : tE X.K ca H0 Wx .frz f σ H fun x H' => ∃ k, x = .bl k ∧ Q k H' := by
  obtain ⟨W, ρ, S, R, h⟩ := h
  refine ⟨W, ρ, S, R, (OutM.bind h).imp fun d S1 W1 H1 F1 R1 h1 x D1 => ?_⟩
  cases d with
  | bl b => exact ⟨b, DV.ofBl D1, h1 W1 H1 (FutG.refl _ _) R1⟩
  | _ => exact False.elim h1
theorem dt_cmp {op : CmpOp} {o : D → D → Option D} {a b : Expr} {fa fb : SE} {pos : Pos} (ho : OpD X ca H0 .frz (compareOp op) o) (ha : DE X ca H0 Wx .bor a fa) (hb : DE X ca H0 Wx .bor b fb) (hm : behindInMarks op b = false) : DT X ca H0 Wx (.Compare a [op] [b] pos) (sBl (sBin o fa fb)) := by
  obtain ⟨r, h1, h2⟩ := ho
  refine PT.imp (pt_cmpR h1 ha hb hm) fun σ H Q h => ?_
  exact two_of h2 (test_of h)
def sChain (o o' : D → D → Option D) (fa fb fc : SE) : SE := fun ρ => mb (fa ρ) fun x => mb (fb ρ) fun y => mb (fun S => mo (o (dref S x) (dref S y)) S) fun z => mb (mo (dBl z)) fun k =>
  if k = true then mb (fc ρ) fun w S => mo (o' (dref S y) (dref S w)) S else mp (.bl false)
theorem chain_of {r r' : R2} {o o' : D → D → Option D} {fa fb fc : SE} {m : Md}
    (h2 : ∀ W H S x y dx dy d Q, WOk W H → RepS X.K ca W H S → CV X.K ca W H x dx → CV X.K ca W H y dy → o dx dy = some d → FinR X.K ca H0 .frz W H S d Q → r x y H Q)
    (h2' : ∀ W H S x y dx dy d Q, WOk W H → RepS X.K ca W H S → CV X.K ca W H x dx → CV X.K ca W H y dy → o' dx dy = some d → FinR X.K ca H0 m W H S d Q → r' x y H Q) {σ : L2.St} {H : Hp} {Q : VK}
    (h : tE X.K ca H0 Wx m (sChain o o' fa fb fc) σ H Q) : tChain r r' (tE X.K ca H0 Wx .bor fa) (tE X.K ca H0 Wx .bor fb) (tE X.K ca H0 Wx .bor fc) σ H Q := by
  obtain ⟨W, ρ, S, R, h⟩ := h
  refine ⟨W, ρ, S, R, (OutM.bind h).imp fun dx S1 W1 H1 F1 R1 h1 x D1 => ⟨W1, ρ, S1, R1, (OutM.bind h1).imp fun dy S2 W2 H2 F2 R2 h3 y D2 => ?_⟩⟩
  have D1' := DR.later (by decide) F2 D1
  have c1 := DR.view R2.w R2.s D1'
  have c2 := DR.view R2.w R2.s D2
  have h4 := OutM.bind h3
  cases e : o (dref S2 dx) (dref S2 dy) with
  | none => rw [e] at h4; exact False.elim h4
  | some d =>
    rw [e] at h4
    refine h2 W2 H2 S2 x y _ _ d _ R2.w R2.s c1 c2 e fun W3 H3 v F3 k3 r3 => ?_
    have R3 := k3 _ _ R2
    have h5 := OutM.bind (h4 W3 H3 F3 R3)
    cases d with
    | bl b =>
      refine ⟨b, DV.ofBl r3, ?_⟩
      have h6 := h5 W3 H3 (FutG.refl _ _) R3
      cases b with
      | false => exact iteF (h6 W3 H3 (FutG.refl _ _) R3 _ (DR.scal rfl (.bl false)))
      | true =>
        refine iteT ⟨W3, ρ, S2, R3, (OutM.bind h6).imp fun dw S4 W4 H4 F4 R4 h7 w' D4 => ?_⟩
        have D2' := DR.later (by decide) (Fut.trans' F3 F4) D2
        have c3 := DR.view R4.w R4.s D2'
        have c4 := DR.view R4.w R4.s D4
        cases e' : o' (dref S4 dy) (dref S4 dw) with
        | none => rw [e'] at h7; exact False.elim h7
        | some d' =>
          rw [e'] at h7
          exact h2' W4 H4 S4 y w' _ _ d' Q R4.w R4.s c3 c4 e' fun W' H' v F k r => h7 W' H' F (k _ _ R4) v (DR.older (fun a o ha => (Fut.trans' (Fut.trans' F1 F2) (Fut.trans' F3 F4)).dom a o ha) r)
    | _ => exact False.elim h5
theorem de_chain {op op' : CmpOp} {o o' : D → D → Option D} {a b c : Expr} {fa fb fc : SE} {pos : Pos} (ho : OpD X ca H0 .frz (compareOp op) o) (ho' : OpD X ca H0 m (compareOp op') o') (ha : DE X ca H0 Wx .bor a fa) (hb : DE X ca H0 Wx .bor b fb) (hc : DE X ca H0 Wx .bor c fc)
    (hm : lastMarks [op, op'] [b, c] = false := by with_unfolding_all rfl) : DE X ca H0 Wx m (.Compare a [op, op'] [b, c] pos) (sChain o o' fa fb fc) := by
  obtain ⟨r, h1, h2⟩ := ho
  obtain ⟨r', h1', h2'⟩ := ho'
  exact PE.imp (pe_chain h1 h1' ha hb hc hm) fun σ H Q h => chain_of h2 h2' h
theorem dt_chain {op op' : CmpOp} {o o' : D → D → Option D} {a b c : Expr} {fa fb fc : SE} {pos : Pos} (ho : OpD X ca H0 .frz (compareOp op) o) (ho' : OpD X ca H0 .frz (compareOp op') o') (ha : DE X ca H0 Wx .bor a fa) (hb : DE X ca H0 Wx .bor b fb) (hc : DE X ca H0 Wx .bor c fc)
    (hm : lastMarks [op, op'] [b, c] = false := by with_unfolding_all rfl) : DT X ca H0 Wx (.Compare a [op, op'] [b, c] pos) (sBl (sChain o o' fa fb fc)) := by
  obtain ⟨r, h1, h2⟩ := ho
  obtain ⟨r', h1', h2'⟩ := ho'
  exact PT.imp (pt_chain h1 h1' ha hb hc hm) fun σ H Q h => chain_of h2 h2' (test_of h)
def dTru : D → Option Bool
  | .non => some false
  | .bl b => some b
  | .int i => some (i != 0)
  | .str y => if y.length ≤ sizeLine then some ((y.length : Int) != 0) else none
  | .lst l => some (!l.isEmpty)
  | .tup l => some (!l.isEmpty)
  | .rol l => some (!l.isEmpty)
  | .dK l => some (!l.isEmpty)
  | _ => none
def sTru (f : SE) : ST := fun ρ => mb (f ρ) fun d S => mo (dTru (dref S d)) S
theorem DVs.emp {K : PySem.W.Frag} {h : Hp} {ad : Nat → Option Addr} {vs : List V} {ds : List D} (r : DVs K ca h ad vs ds) : (!ds.isEmpty) = !vs.isEmpty := by cases r <;> rfl
theorem DKs.emp {K : PySem.W.Frag} {h : Hp} {ad : Nat → Option Addr} {vs : List (Key × V)} {ds : List (Key × D)} (r : DKs K ca h ad vs ds) : (!ds.isEmpty) = !vs.isEmpty := by cases r <;> rfl
theorem tru_of {K : PySem.W.Frag} {W : Wd} {H : Hp} {v : V} {d : D} {k : Bool} (w : WOk W H) (c : CV K ca W H v d) (e : dTru d = some k) : TruV K v H k := by
  cases d with
  | non => obtain rfl := DV.ofNon c; cases e; rfl
  | bl b => obtain rfl := DV.ofBl c; cases e; rfl
  | int i => obtain rfl := DV.ofInt c; cases e; rfl
  | str y =>
    obtain rfl := DV.ofStr c
    have e' : (if y.length ≤ sizeLine then some ((y.length : Int) != 0) else none) = some k := e
    by_cases h : y.length ≤ sizeLine
    · rw [if_pos h] at e'; cases e'; exact ⟨h, rfl⟩
    · rw [if_neg h] at e'; cases e'
  | lst l => obtain ⟨a, vs, rfl, h, r⟩ := c; cases e; exact .inl ⟨vs, SqL.of h, r.emp⟩
  | tup l => obtain ⟨a, vs, rfl, h, r⟩ := DV.ofTup c; cases e; exact .inr (.inl ⟨vs, Same.tupq w.sub h.sq, r.emp⟩)
  | rol l => obtain ⟨a, vs, rfl, h, r⟩ := DV.ofRol c; cases e; exact .inl ⟨vs, Same.lstq w.sub h, r.emp⟩
  | dK l => obtain ⟨a, vs, rfl, h, r⟩ := c; cases e; exact .inr (.inr ⟨vs, h, r.emp⟩)
  | _ => cases e
theorem dt_val {e : Expr} {f : SE} (h : DE X ca H0 Wx .bor e f) (he : ∀ whole, isTrue e X.env whole = (do let v ← whole; standAt e.pos; holding [v] (truthy v)) := by intro _; rfl) : DT X ca H0 Wx e (sTru f) := by
  refine PT.imp (pt_truth h he) fun σ H Q ⟨W, ρ, S, R, o⟩ => ⟨W, ρ, S, R, (OutM.bind o).imp fun d S1 W1 H1 F1 R1 h1 x D1 => ?_⟩
  cases e : dTru (dref S1 d) with
  | none => rw [e] at h1; exact False.elim h1
  | some k =>
    rw [e] at h1
    exact ⟨k, tru_of R1.w (DR.view R1.w R1.s D1) e, h1 W1 H1 (FutG.refl _ _) R1⟩
def sAnd (fa fb : ST) : ST := fun ρ => mb (fa ρ) fun k => if k = true then fb ρ else mp false
def sOr (fa fb : ST) : ST := fun ρ => mb (fa ρ) fun k => if k = true then mp true else fb ρ
def sNot (fa : ST) : ST := fun ρ => mb (fa ρ) fun k => mp (!k)
theorem OutM.re {α : Type} {K : PySem.W.Frag} {W : Wd} {ρ : Rho} {σ : L2.St} {H : Hp} {S : Sto} {a : α} {P : α → Sto → Wd → Hp → Prop} (R : Rep K ca H0 W H σ ρ S) (h : OutM K ca H0 Wx W ρ σ H (mp a S) P) : P a S W H := h W H (FutG.refl _ _) R
theorem dw_one {op : BoolOp} {a : Expr} {fa : ST} {pos : Pos} (ha : DT X ca H0 Wx a fa) : DW X ca H0 Wx (.BoolOp op [a] pos) fa := by
  cases op with
  | And => exact pw_and1 ha
  | Or => exact pw_or1 ha
theorem PW.imp {X : Cx} {e : Expr} {t t' : TT} (h : PW X e t) (i : ∀ σ H Q, t' σ H Q → t σ H Q) : PW X e t' := ⟨fun wh pins s σ H Q I q => h.run wh pins s σ H Q I (i σ H Q q)⟩
theorem dw_and {a b : Expr} {rest : List Expr} {fa fb : ST} {pos : Pos} (ha : DT X ca H0 Wx a fa) (hb : DW X ca H0 Wx (.BoolOp .And (b :: rest) pos) fb) : DW X ca H0 Wx (.BoolOp .And (a :: b :: rest) pos) (sAnd fa fb) := by
  refine PW.imp (pw_and ha hb) fun σ H Q ⟨W, ρ, S, R, o⟩ => ⟨W, ρ, S, R, (OutM.bind o).imp fun k S1 W1 H1 F1 R1 h1 => ?_⟩
  cases k with
  | true => exact iteT ⟨W1, ρ, S1, R1, h1⟩
  | false => exact iteF (OutM.re R1 h1)
theorem dw_or {a b : Expr} {rest : List Expr} {fa fb : ST} {pos : Pos} (ha : DT X ca H0 Wx a fa) (hb : DW X ca H0 Wx (.BoolOp .Or (b :: rest) pos) fb) : DW X ca H0 Wx (.BoolOp .Or (a :: b :: rest) pos) (sOr fa fb) := by
  refine PW.imp (pw_or ha hb) fun σ H Q ⟨W, ρ, S, R, o⟩ => ⟨W, ρ, S, R, (OutM.bind o).imp fun k S1 W1 H1 F1 R1 h1 => ?_⟩
  cases k with
  | true => exact iteT (OutM.re R1 h1)
  | false => exact iteF ⟨W1, ρ, S1, R1, h1⟩
theorem dt_not {a : Expr} {fa : ST} {pos : Pos} (ha : DT X ca H0 Wx a fa) : DT X ca H0 Wx (.UnaryOp .Not a pos) (sNot fa) :=
  PT.imp (pt_not ha) fun σ H Q ⟨W, ρ, S, R, o⟩ => ⟨W, ρ, S, R, (OutM.bind o).imp fun k S1 W1 H1 F1 R1 h1 => OutM.re R1 h1⟩
def sNotV (fa : SE) : SE := fun ρ => mb (fa ρ) fun d => mb (mo (dBl d)) fun k => mp (.bl (!k))
def sAndV (fa fb : SE) : SE := fun ρ => mb (fa ρ) fun d => mb (mo (dBl d)) fun k => if k = true then fb ρ else mp (.bl false)
def sOrV (fa fb : SE) : SE := fun ρ => mb (fa ρ) fun d => mb (mo (dBl d)) fun k => if k = true then mp (.bl true) else fb ρ
def sIf (ft : ST) (fa fb : SE) : SE := fun ρ => mb (ft ρ) fun k => if k = true then fa ρ else fb ρ
theorem de_one {op : BoolOp} {a : Expr} {fa : SE} {pos : Pos} (ha : DE X ca H0 Wx m a fa) : DE X ca H0 Wx m (.BoolOp op [a] pos) fa := pe_one ha
theorem de_and {a b : Expr} {rest : List Expr} {fa fb : SE} {pos : Pos} (ha : DE X ca H0 Wx .frz a fa) (hb : DE X ca H0 Wx m (.BoolOp .And (b :: rest) pos) fb) : DE X ca H0 Wx m (.BoolOp .And (a :: b :: rest) pos) (sAndV fa fb) := by
  refine PE.imp (pe_and ha hb) fun σ H Q ⟨W, ρ, S, R, o⟩ => ⟨W, ρ, S, R, (OutM.bind o).imp fun d S1 W1 H1 F1 R1 h1 x D1 => ?_⟩
  cases d with
  | bl b =>
    refine ⟨b, DV.ofBl D1, ?_⟩
    have h2 := OutM.re R1 (OutM.bind h1)
    cases b with
    | true => exact iteT ⟨W1, ρ, S1, R1, h2.imp fun d S2 W2 H2 F2 R2 q v r => q v (DR.older (fun a o h => F1.dom a o h) r)⟩
    | false => exact iteF (OutM.re R1 h2 _ (DR.scal rfl (.bl _)))
  | _ => exact False.elim h1
theorem de_or {a b : Expr} {rest : List Expr} {fa fb : SE} {pos : Pos} (ha : DE X ca H0 Wx .frz a fa) (hb : DE X ca H0 Wx m (.BoolOp .Or (b :: rest) pos) fb) : DE X ca H0 Wx m (.BoolOp .Or (a :: b :: rest) pos) (sOrV fa fb) := by
  refine PE.imp (pe_or ha hb) fun σ H Q ⟨W, ρ, S, R, o⟩ => ⟨W, ρ, S, R, (OutM.bind o).imp fun d S1 W1 H1 F1 R1 h1 x D1 => ?_⟩
  cases d with
  | bl b =>
    refine ⟨b, DV.ofBl D1, ?_⟩
    have h2 := OutM.re R1 (OutM.bind h1)
    cases b with
    | false => exact iteF ⟨W1, ρ, S1, R1, h2.imp fun d S2 W2 H2 F2 R2 q v r => q v (DR.older (fun a o h => F1.dom a o h) r)⟩
    | true => exact iteT (OutM.re R1 h2 _ (DR.scal rfl (.bl _)))
  | _ => exact False.elim h1
theorem de_if {c a b : Expr} {fc : ST} {fa fb : SE} {pos : Pos} (hc : DT X ca H0 Wx c fc) (ha : DE X ca H0 Wx m a fa) (hb : DE X ca H0 Wx m b fb) : DE X ca H0 Wx m (.IfExp c a b pos) (sIf fc fa fb) := by
  refine PE.imp (pe_ifExp hc ha hb) fun σ H Q ⟨W, ρ, S, R, o⟩ => ⟨W, ρ, S, R, (OutM.bind o).imp fun k S1 W1 H1 F1 R1 h1 => ?_⟩
  have go : ∀ {f : SE}, OutM X.K ca H0 Wx W1 ρ σ H1 (f ρ S1) (fun d x W' H' => ∀ (v : V), DR X.K ca m H W' H' v d → Q v H') → tE X.K ca H0 Wx m f σ H1 Q := fun {f} h =>
    ⟨W1, ρ, S1, R1, h.imp fun d S2 W2 H2 F2 R2 q v r => q v (DR.older (fun a o h => F1.dom a o h) r)⟩
  cases k with
  | true => exact iteT (go h1)
  | false => exact iteF (go h1)
def sNil : SA := fun _ => mp []
def sCons (fa : SE) (fr : SA) : SA := fun ρ => mb (fa ρ) fun d => mb (fr ρ) fun ds => mp (d :: ds)
theorem DRs.later {K : PySem.W.Frag} {H H1 H2 : Hp} {W1 W2 : Wd} (hm : m ≠ .fre) (f : Fut W1 H1 W2 H2) : ∀ {vs : List V} {ds : List D}, DRs K ca m H W1 H1 vs ds → DRs K ca m H W2 H2 vs ds
  | _, _, .nil => .nil
  | _, _, .cons q r => .cons (DR.later hm f q) (DRs.later hm f r)
theorem DRs.dv {K : PySem.W.Frag} {H H1 : Hp} {W1 : Wd} : ∀ {vs : List V} {ds : List D}, DRs K ca .frz H W1 H1 vs ds → DVs K ca W1.hf W1.ad vs ds
  | _, _, .nil => .nil
  | _, _, .cons q r => .cons q (DRs.dv r)
theorem DRs.older {K : PySem.W.Frag} {H H1 H2 : Hp} {W1 : Wd} (dm : ∀ a o, H a = some o → ∃ o', H1 a = some o') : ∀ {vs : List V} {ds : List D}, DRs K ca m H1 W1 H2 vs ds → DRs K ca m H W1 H2 vs ds
  | _, _, .nil => .nil
  | _, _, .cons q r => .cons (DR.older dm q) (DRs.older dm r)
theorem da_nil : DA X ca H0 Wx m [] sNil := PA.imp pa_nil fun σ H Q ⟨W, ρ, S, R, o⟩ => OutM.re R o [] .nil
theorem da_cons {e : Expr} {es : List Expr} {fe : SE} {fr : SA} (hm : m ≠ .fre) (he : DE X ca H0 Wx m e fe) (hr : DA X ca H0 Wx m es fr) (hs : starEach (e :: es) X.env = (false, eval e X.env) :: starEach es X.env := by rfl) : DA X ca H0 Wx m (e :: es) (sCons fe fr) := by
  refine PA.imp (pa_cons he hr hs) fun σ H Q ⟨W, ρ, S, R, o⟩ => ⟨W, ρ, S, R, (OutM.bind o).imp fun d S1 W1 H1 F1 R1 h1 x D1 => ⟨W1, ρ, S1, R1, (OutM.bind h1).imp fun ds S2 W2 H2 F2 R2 h2 xs D2 => ?_⟩⟩
  exact OutM.re R2 h2 (x :: xs) (.cons (DR.later hm F2 D1) (DRs.older F1.dom D2))
def sTup (f : SA) : SE := fun ρ => mb (f ρ) fun ds => if ds.length ≤ sizeLine then mp (.tup ds) else mf
def sLst (f : SA) : SE := fun ρ => mb (f ρ) fun ds => if ds.length ≤ sizeLine then mp (.lst ds) else mf
theorem de_tup {es : List Expr} {f : SA} {k pos} (h : DA X ca H0 Wx .frz es f) : DE X ca H0 Wx m (.Tuple es k pos) (sTup f) := by
  refine PE.imp (pe_tup h) fun σ H Q ⟨W, ρ, S, R, o⟩ => ⟨W, ρ, S, R, (OutM.bind o).imp fun ds S1 W1 H1 F1 R1 h1 xs D1 => ?_⟩
  by_cases hz : ds.length ≤ sizeLine
  · rw [if_pos hz] at h1
    have hl := D1.dv.length
    exact ⟨by omega, FinR.tup (S := S1) (fun W' H' v F k r => h1 W' H' F (k _ _ R1) v (DR.older F1.dom r)) R1.w D1.dv⟩
  · rw [if_neg hz] at h1; exact False.elim h1
theorem de_lst {es : List Expr} {f : SA} {pos} (h : DA X ca H0 Wx .frz es f) : DE X ca H0 Wx m (.List es pos) (sLst f) := by
  refine PE.imp (pe_lst h) fun σ H Q ⟨W, ρ, S, R, o⟩ => ⟨W, ρ, S, R, (OutM.bind o).imp fun ds S1 W1 H1 F1 R1 h1 xs D1 => ?_⟩
  by_cases hz : ds.length ≤ sizeLine
  · rw [if_pos hz] at h1
    have hl := D1.dv.length
    exact ⟨by omega, FinR.lst (S := S1) (fun W' H' v F k r => h1 W' H' F (k _ _ R1) v (DR.older F1.dom r)) R1.w D1.dv⟩
  · rw [if_neg hz] at h1; exact False.elim h1
end
end DL
namespace DL
open PySem PySem.Spec PyProof.Rows L2
mutual
def py : D → PyData
  | .non => .none
  | .bl b => .bool b
  | .int i => .int i
  | .str x => .str x
  | .tup l => .tuple (pys l)
  | .lst l => .list (pys l)
  | .rol l => .list (pys l)
  | _ => .none
def pys : List D → List PyData
  | [] => []
  | d :: r => py d :: pys r
end
mutual
def pyOk : D → Bool
  | .non => true
  | .bl _ => true
  | .int _ => true
  | .str _ => true
  | .tup l => pyOks l
  | .lst l => pyOks l
  | .rol l => pyOks l
  | _ => false
def pyOks : List D → Bool
  | [] => true
  | d :: r => pyOk d && pyOks r
end
section
variable {K : PySem.W.Frag} {ca : Ca} {h H : Hp} {ad : Nat → Option Addr}
mutual
theorem dp_of (s : Same h H) : ∀ {v : V} {d : D}, DV K ca h ad v d → pyOk d = true → Dp K H v (py d)
  | _, _, .non, _ => .non
  | _, _, .bl b, _ => .bl b
  | _, _, .int i, _ => .int i
  | _, _, .str x, _ => .str x
  | _, _, .tup q r, e => .tup (Same.tupq s q.sq) (dps_of s r e)
  | _, _, .lst q r, e => .lst (SqL.of (s _ _ q)) (dps_of s r e)
  | _, _, .rol q r, e => .lst (Same.lstq s q) (dps_of s r e)
theorem dps_of (s : Same h H) : ∀ {vs : List V} {ds : List D}, DVs K ca h ad vs ds → pyOks ds = true → DpAll K H vs (pys ds)
  | _, _, .nil, _ => .nil
  | _, _, .cons q r, e => .cons (dp_of s q (Bool.and_eq_true_iff.mp e).1) (dps_of s r (Bool.and_eq_true_iff.mp e).2)
end
theorem CV.dp {W : Wd} {v : V} {d : D} (w : WOk W H) (c : CV K ca W H v d) (e : pyOk d = true) : Dp K H v (py d) := by
  cases d with
  | lst l => obtain ⟨a, vs, rfl, q, r⟩ := c; exact .lst (SqL.of q) (dps_of w.sub r e)
  | tup l => exact dp_of w.sub (show DV K ca W.hf W.ad v (.tup l) from c) e
  | rol l => exact dp_of w.sub (show DV K ca W.hf W.ad v (.rol l) from c) e
  | non => exact dp_of w.sub (show DV K ca W.hf W.ad v .non from c) e
  | bl b => exact dp_of w.sub (show DV K ca W.hf W.ad v (.bl b) from c) e
  | int b => exact dp_of w.sub (show DV K ca W.hf W.ad v (.int b) from c) e
  | str b => exact dp_of w.sub (show DV K ca W.hf W.ad v (.str b) from c) e
  | _ => cases e
end
def eqOk (d : D) : Bool := pyOk d && SeqAt.shaped (py d)
def eqD (a b : D) : Bool := PyData.eqv (py a) (py b)
def dEq : D → D → Option D
  | .str a, .str b => some (.bl (decide (a = b)))
  | .int a, .int b => some (.bl (decide (a = b)))
  | a, b => if (eqOk a && eqOk b) = true then some (.bl (eqD a b)) else none
def dNe : D → D → Option D
  | .str a, .str b => some (.bl (!decide (a = b)))
  | .int a, .int b => some (.bl (!decide (a = b)))
  | a, b => if (eqOk a && eqOk b) = true then some (.bl (!eqD a b)) else none
section
variable {X : Cx} {ca : Ca} {H0 : Bs} {m : Md}
theorem OpD.bl {f : Value → Value → Sem Value} {r : R2} {o : D → D → Option D} (h : OpR X f r)
    (g : ∀ W H S x y dx dy d (Q : VK), WOk W H → RepS X.K ca W H S → CV X.K ca W H x dx → CV X.K ca W H y dy → o dx dy = some d → ∃ k, d = .bl k ∧ (Q (.bl k) H → r x y H Q)) : OpD X ca H0 m f o :=
  ⟨r, h, fun W H S x y dx dy d Q w s cx cy e F => by
    obtain ⟨k, rfl, q⟩ := g W H S x y dx dy d Q w s cx cy e
    exact q (F.scal rfl (.bl k))⟩
theorem OpD.int {f : Value → Value → Sem Value} {r : R2} {o : D → D → Option D} (h : OpR X f r)
    (g : ∀ W H S x y dx dy d (Q : VK), WOk W H → RepS X.K ca W H S → CV X.K ca W H x dx → CV X.K ca W H y dy → o dx dy = some d → ∃ k, d = .int k ∧ (Q (.int k) H → r x y H Q)) : OpD X ca H0 m f o :=
  ⟨r, h, fun W H S x y dx dy d Q w s cx cy e F => by
    obtain ⟨k, rfl, q⟩ := g W H S x y dx dy d Q w s cx cy e
    exact q (F.scal rfl (.int k))⟩
theorem OpD.str {f : Value → Value → Sem Value} {r : R2} {o : D → D → Option D} (h : OpR X f r)
    (g : ∀ W H S x y dx dy d (Q : VK), WOk W H → RepS X.K ca W H S → CV X.K ca W H x dx → CV X.K ca W H y dy → o dx dy = some d → ∃ k, d = .str k ∧ (Q (.str k) H → r x y H Q)) : OpD X ca H0 m f o :=
  ⟨r, h, fun W H S x y dx dy d Q w s cx cy e F => by
    obtain ⟨k, rfl, q⟩ := g W H S x y dx dy d Q w s cx cy e
    exact q (F.scal rfl (.str k))⟩
def o2I (C : Int → Int → Bool) (g : Int → Int → Int) : D → D → Option D
  | .int i, .int j => if C i j = true then some (.int (g i j)) else none
  | _, _ => none
def o2B (g : Int → Int → Bool) : D → D → Option D
  | .int i, .int j => some (.bl (g i j))
  | _, _ => none
theorem od_int {f : Value → Value → Sem Value} {C : Int → Int → Prop} {Cb : Int → Int → Bool} {g : Int → Int → Int} (h : OpR X f (rI C fun i j => .int (g i j))) (hc : ∀ i j, Cb i j = true → C i j) : OpD X ca H0 m f (o2I Cb g) :=
  OpD.int h fun W H S x y dx dy d Q w s cx cy e => by
    cases dx with
    | int i =>
      cases dy with
      | int j =>
        by_cases hb : Cb i j = true
        · have e' : (if Cb i j = true then some (D.int (g i j)) else none) = some d := e
          rw [if_pos hb] at e'; cases e'
          exact ⟨_, rfl, fun q => ⟨i, j, DV.ofInt cx, DV.ofInt cy, hc i j hb, q⟩⟩
        · have e' : (if Cb i j = true then some (D.int (g i j)) else none) = some d := e
          rw [if_neg hb] at e'; cases e'
      | _ => cases e
    | _ => cases e
theorem od_int0 {f : Value → Value → Sem Value} {g : Int → Int → Int} (h : OpR X f (rI0 fun i j => .int (g i j))) : OpD X ca H0 m f (o2I (fun _ _ => true) g) :=
  OpD.int h fun W H S x y dx dy d Q w s cx cy e => by
    cases dx with
    | int i =>
      cases dy with
      | int j =>
        have e' : (if true = true then some (D.int (g i j)) else none) = some d := e
        rw [if_pos rfl] at e'; cases e'
        exact ⟨_, rfl, fun q => ⟨i, j, DV.ofInt cx, DV.ofInt cy, q⟩⟩
      | _ => cases e
    | _ => cases e
theorem od_bl0 {f : Value → Value → Sem Value} {g : Int → Int → Bool} (h : OpR X f (rI0 fun i j => .bl (g i j))) : OpD X ca H0 m f (o2B g) :=
  OpD.bl h fun W H S x y dx dy d Q w s cx cy e => by
    cases dx with
    | int i =>
      cases dy with
      | int j => cases e; exact ⟨_, rfl, fun q => ⟨i, j, DV.ofInt cx, DV.ofInt cy, q⟩⟩
      | _ => cases e
    | _ => cases e
def o2S (g : Str → Str → Bool) : D → D → Option D
  | .str i, .str j => some (.bl (g i j))
  | _, _ => none
theorem od_str0 {f : Value → Value → Sem Value} {g : Str → Str → Bool} (h : OpR X f (fun x y H Q => ∃ i j, x = .str i ∧ y = .str j ∧ Q (.bl (g i j)) H)) : OpD X ca H0 m f (o2S g) :=
  OpD.bl h fun W H S x y dx dy d Q w s cx cy e => by
    cases dx with
    | str i =>
      cases dy with
      | str j => cases e; exact ⟨_, rfl, fun q => ⟨i, j, DV.ofStr cx, DV.ofStr cy, q⟩⟩
      | _ => cases e
    | _ => cases e
def oAddS : D → D → Option D
  | .str i, .str j => if i.length + j.length ≤ sizeLine then some (.str (i ++ j)) else none
  | _, _ => none
def oAddL : D → D → Option D
  | .lst i, .lst j => if i.length + j.length ≤ sizeLine then some (.lst (i ++ j)) else none
  | _, _ => none
def oAddT : D → D → Option D
  | .tup i, .tup j => if i.isEmpty = false ∧ i.length + j.length ≤ sizeLine then some (.tup (i ++ j)) else none
  | _, _ => none
theorem od_addS : OpD X ca H0 m (binaryOp .Add) oAddS := OpD.str op_add_str fun W H S x y dx dy d Q w s cx cy e => by
  cases dx with
  | str i =>
    cases dy with
    | str j =>
      have e' : (if i.length + j.length ≤ sizeLine then some (D.str (i ++ j)) else none) = some d := e
      by_cases h : i.length + j.length ≤ sizeLine
      · rw [if_pos h] at e'; cases e'; exact ⟨_, rfl, fun q => ⟨i, j, DV.ofStr cx, DV.ofStr cy, h, q⟩⟩
      · rw [if_neg h] at e'; cases e'
    | _ => cases e
  | _ => cases e
theorem od_addL : OpD X ca H0 m (binaryOp .Add) oAddL := ⟨rCat, op_cat, fun W H S x y dx dy d Q w s cx cy e F => by
  cases dx with
  | lst i =>
    cases dy with
    | lst j =>
      have e' : (if i.length + j.length ≤ sizeLine then some (D.lst (i ++ j)) else none) = some d := e
      by_cases h : i.length + j.length ≤ sizeLine
      · rw [if_pos h] at e'; cases e'
        obtain ⟨a, vs, rfl, h1, r1⟩ := cx
        obtain ⟨b, ws, rfl, h2, r2⟩ := cy
        exact ⟨a, b, vs, ws, rfl, rfl, h1, h2, by rw [r1.length, r2.length]; exact h, FinR.lst F w (r1.app r2)⟩
      · rw [if_neg h] at e'; cases e'
    | _ => cases e
  | _ => cases e⟩
theorem od_addT : OpD X ca H0 m (binaryOp .Add) oAddT := ⟨rCatT X.K, op_catT, fun W H S x y dx dy d Q w s cx cy e F => by
  cases dx with
  | tup i =>
    cases dy with
    | tup j =>
      have e' : (if i.isEmpty = false ∧ i.length + j.length ≤ sizeLine then some (D.tup (i ++ j)) else none) = some d := e
      by_cases h : i.isEmpty = false ∧ i.length + j.length ≤ sizeLine
      · rw [if_pos h] at e'; cases e'
        obtain ⟨a, vs, rfl, h1, r1⟩ := DV.ofTup cx
        obtain ⟨b, ws, rfl, h2, r2⟩ := DV.ofTup cy
        have hne : vs ≠ [] := fun z => by
          subst z
          cases r1
          exact absurd h.1 (by simp)
        refine ⟨a, b, vs, ws, rfl, rfl, Same.tupq w.sub h1.sq, Same.tupq w.sub h2.sq, hne, by rw [r1.length, r2.length]; exact h.2, ?_⟩
        refine ⟨fun z => ?_, fun _ => FinR.tup F w (r1.app r2)⟩
        subst z
        cases r2
        rw [List.append_nil] at F
        exact F.scal rfl (DV.tup h1 r1)
      · rw [if_neg h] at e'; cases e'
    | _ => cases e
  | _ => cases e⟩
def oAdd (a b : D) : Option D := match a with
  | .int _ => o2I (fun _ _ => true) (fun i j => i + j) a b
  | .str _ => oAddS a b
  | .lst _ => oAddL a b
  | .tup _ => oAddT a b
  | _ => none
theorem od_add : OpD X ca H0 m (binaryOp .Add) oAdd := by
  refine OpD.or (o := fun a b => match a with | .int _ => o2I (fun _ _ => true) (fun i j => i + j) a b | .str _ => oAddS a b | _ => none) (o' := fun a b => match a with | .lst _ => oAddL a b | .tup _ => oAddT a b | _ => none) ?_ ?_ ?_
  · refine OpD.or (od_int0 op_add) od_addS fun x y d e => ?_
    cases x with
    | int i => exact .inl e
    | str i => exact .inr e
    | _ => cases e
  · refine OpD.or od_addL od_addT fun x y d e => ?_
    cases x with
    | lst i => exact .inl e
    | tup i => exact .inr e
    | _ => cases e
  · intro x y d e
    cases x with
    | int i => exact .inl e
    | str i => exact .inl e
    | lst i => exact .inr e
    | tup i => exact .inr e
    | _ => cases e
def oSub : D → D → Option D := o2I (fun _ _ => true) fun i j => i - j
theorem od_sub : OpD X ca H0 m (binaryOp .Sub) oSub := od_int0 op_sub
noncomputable def cMul (i j : Int) : Bool := cdec (-(2 ^ 64) < i ∧ i < 2 ^ 64) || cdec (-(2 ^ 64) < j ∧ j < 2 ^ 64)
noncomputable def oMulS : D → D → Option D
  | .str x, .int n => cif (-1000000 ≤ n ∧ n ≤ 1000000 ∧ x.length * n.toNat ≤ 1000000) (some (.str (Txt.mul x n))) none
  | _, _ => none
noncomputable def oMulL : D → D → Option D
  | .lst l, .int n => cif (-1000000 ≤ n ∧ n ≤ 1000000 ∧ l.length * n.toNat ≤ sizeLine) (some (.lst (List.replicate n.toNat l).flatten)) none
  | _, _ => none
theorem mulOk_of {x : Str} {n : Int} (h0 : -1000000 ≤ n) (h1 : n ≤ 1000000) (h2 : x.length * n.toNat ≤ 1000000) : MulOk x n := by
  refine ⟨?_, fun hn hx => ?_, fun hn hx => ?_⟩
  · rw [Bool.or_eq_false_iff]
    exact ⟨decide_eq_false (by omega), decide_eq_false (by omega)⟩
  · have hp : 0 < n := by omega
    have e : (n.toNat : Int) = n := Int.toNat_of_nonneg (by omega)
    have h3 : (x.length : Int) * n ≤ 1000000 := by
      have h5 : ((x.length * n.toNat : Nat) : Int) ≤ 1000000 := by omega
      rw [Int.natCast_mul, e] at h5
      exact h5
    have h4 : (x.length : Int) ≤ (2 ^ 63 - 1) / n := by
      refine (Int.le_ediv_iff_mul_le hp).mpr ?_
      omega
    omega
  · show decide (x.length * n.toNat > sizeLine) = false
    rw [sizeLine_eq]
    exact decide_eq_false (by omega)
theorem op_mul_str {X : Cx} : OpR X (binaryOp .Mult) (fun x y H Q => ∃ z n, x = .str z ∧ y = .int n ∧ -1000000 ≤ n ∧ n ≤ 1000000 ∧ z.length * n.toNat ≤ 1000000 ∧ Q (.str (Txt.mul z n)) H) := by
  intro pins s σ H x y v u Q I rx ry h
  obtain ⟨z, n, rfl, rfl, h0, h1, h2, q⟩ := h
  obtain ⟨t, rfl⟩ := rx
  obtain ⟨t', rfl⟩ := ry
  exact SB.mul (mulOk_of h0 h1 h2) fun t' k => ⟨.str _, H, I.tok _, ⟨_, rfl⟩, q⟩
theorem od_mulS : OpD X ca H0 m (binaryOp .Mult) oMulS := OpD.str op_mul_str fun W H S x y dx dy d Q w s cx cy e => by
  cases dx with
  | str i =>
    cases dy with
    | int j =>
      have e' : (cif (-1000000 ≤ j ∧ j ≤ 1000000 ∧ i.length * j.toNat ≤ 1000000) (some (D.str (Txt.mul i j))) none) = some d := e
      by_cases h : -1000000 ≤ j ∧ j ≤ 1000000 ∧ i.length * j.toNat ≤ 1000000
      · rw [cif_pos h] at e'; cases e'; exact ⟨_, rfl, fun q => ⟨i, j, DV.ofStr cx, DV.ofInt cy, h.1, h.2.1, h.2.2, q⟩⟩
      · rw [cif_neg h] at e'; cases e'
    | _ => cases e
  | _ => cases e
theorem od_mulL : OpD X ca H0 m (binaryOp .Mult) oMulL := ⟨rRep, op_rep, fun W H S x y dx dy d Q w s cx cy e F => by
  cases dx with
  | lst i =>
    cases dy with
    | int j =>
      have e' : (cif (-1000000 ≤ j ∧ j ≤ 1000000 ∧ i.length * j.toNat ≤ sizeLine) (some (D.lst (List.replicate j.toNat i).flatten)) none) = some d := e
      by_cases h : -1000000 ≤ j ∧ j ≤ 1000000 ∧ i.length * j.toNat ≤ sizeLine
      · rw [cif_pos h] at e'; cases e'
        obtain ⟨a, vs, rfl, h1, r1⟩ := cx
        refine ⟨a, j, vs, rfl, DV.ofInt cy, h1, by omega, by omega, by rw [r1.length]; exact h.2.2, FinR.lst F w (r1.rep _)⟩
      · rw [cif_neg h] at e'; cases e'
    | _ => cases e
  | _ => cases e⟩
noncomputable def oMul (a b : D) : Option D := match a with
  | .int _ => o2I cMul (fun i j => i * j) a b
  | .str _ => oMulS a b
  | .lst _ => oMulL a b
  | _ => none
theorem od_mul : OpD X ca H0 m (binaryOp .Mult) oMul := by
  refine OpD.or (o := fun a b => match a with | .int _ => o2I cMul (fun i j => i * j) a b | .str _ => oMulS a b | _ => none) (o' := oMulL) ?_ od_mulL ?_
  · refine OpD.or (od_int (Cb := cMul) op_mul fun i j h => ?_) od_mulS fun x y d e => ?_
    · unfold cMul at h
      rw [Bool.or_eq_true, cdec_iff, cdec_iff] at h
      exact h
    · cases x with
      | int i => exact .inl e
      | str i => exact .inr e
      | _ => cases e
  · intro x y d e
    cases x with
    | int i => exact .inl e
    | str i => exact .inl e
    | lst i => exact .inr e
    | _ => cases e
noncomputable def cDiv (_ j : Int) : Bool := cdec (0 < j ∧ j < 1073741824)
noncomputable def oDiv : D → D → Option D := o2I cDiv fun i j => i / j
theorem od_div : OpD X ca H0 m (binaryOp .FloorDiv) oDiv := od_int op_fdiv fun i j h => (show 0 < j ∧ j < 1073741824 from cdec_iff.mp h)
def cMod (_ j : Int) : Bool := decide (0 < j)
def oMod : D → D → Option D := o2I cMod fun i j => i % j
theorem od_mod : OpD X ca H0 m (binaryOp .Mod) oMod := od_int op_mod fun i j h => (show 0 < j from of_decide_eq_true h)
def oCmp (g : Int → Int → Bool) (gs : Str → Str → Bool) (a b : D) : Option D := match a with
  | .int _ => o2B g a b
  | .str _ => o2S gs a b
  | _ => none
theorem od_cmp {f : Value → Value → Sem Value} {g : Int → Int → Bool} {gs : Str → Str → Bool} (h : OpR X f (rI0 fun i j => .bl (g i j))) (h' : OpR X f (fun x y H Q => ∃ i j, x = .str i ∧ y = .str j ∧ Q (.bl (gs i j)) H)) : OpD X ca H0 m f (oCmp g gs) :=
  OpD.or (od_bl0 h) (od_str0 h') fun x y d e => by
    cases x with
    | int i => exact .inl e
    | str i => exact .inr e
    | _ => cases e
def oLt := oCmp (fun i j => decide (i < j)) fun i j => decide (i.cps.toList < j.cps.toList)
def oLe := oCmp (fun i j => decide (i ≤ j)) fun i j => !decide (j.cps.toList < i.cps.toList)
def oGt := oCmp (fun i j => decide (j < i)) fun i j => decide (j.cps.toList < i.cps.toList)
def oGe := oCmp (fun i j => decide (j ≤ i)) fun i j => !decide (i.cps.toList < j.cps.toList)
theorem od_lt : OpD X ca H0 m (compareOp .Lt) oLt := od_cmp op_lt op_lt_str
theorem od_le : OpD X ca H0 m (compareOp .LtE) oLe := od_cmp op_le op_le_str
theorem od_gt : OpD X ca H0 m (compareOp .Gt) oGt := od_cmp op_gt op_gt_str
theorem od_ge : OpD X ca H0 m (compareOp .GtE) oGe := od_cmp op_ge op_ge_str
def oEqS : D → D → Option D
  | .str a, .str b => some (.bl (decide (a = b)))
  | .int a, .int b => some (.bl (decide (a = b)))
  | _, _ => none
def oEqD (a b : D) : Option D := if (eqOk a && eqOk b) = true then some (.bl (eqD a b)) else none
def oNeS : D → D → Option D
  | .str a, .str b => some (.bl (!decide (a = b)))
  | .int a, .int b => some (.bl (!decide (a = b)))
  | _, _ => none
def oNeD (a b : D) : Option D := if (eqOk a && eqOk b) = true then some (.bl (!eqD a b)) else none
theorem dec_vi {i j : Int} : decide (V.int i = V.int j) = decide (i = j) := by simp
theorem dec_vs {i j : Str} : decide (V.str i = V.str j) = decide (i = j) := by simp
theorem od_eqS : OpD X ca H0 m (compareOp .Eq) oEqS := OpD.bl op_eq fun W H S x y dx dy d Q w s cx cy e => by
  cases dx with
  | int i =>
    cases dy with
    | int j => cases e; obtain rfl := DV.ofInt cx; obtain rfl := DV.ofInt cy; exact ⟨_, rfl, fun q => ⟨rfl, by rw [dec_vi]; exact q⟩⟩
    | _ => cases e
  | str i =>
    cases dy with
    | str j => cases e; obtain rfl := DV.ofStr cx; obtain rfl := DV.ofStr cy; exact ⟨_, rfl, fun q => ⟨rfl, by rw [dec_vs]; exact q⟩⟩
    | _ => cases e
  | _ => cases e
theorem od_neS : OpD X ca H0 m (compareOp .NotEq) oNeS := OpD.bl op_ne fun W H S x y dx dy d Q w s cx cy e => by
  cases dx with
  | int i =>
    cases dy with
    | int j => cases e; obtain rfl := DV.ofInt cx; obtain rfl := DV.ofInt cy; exact ⟨_, rfl, fun q => ⟨rfl, by rw [dec_vi]; exact q⟩⟩
    | _ => cases e
  | str i =>
    cases dy with
    | str j => cases e; obtain rfl := DV.ofStr cx; obtain rfl := DV.ofStr cy; exact ⟨_, rfl, fun q => ⟨rfl, by rw [dec_vs]; exact q⟩⟩
    | _ => cases e
  | _ => cases e
theorem od_eqD (hu : X.A.units + 64 < cLine) : OpD X ca H0 m (compareOp .Eq) oEqD := OpD.bl (op_eqD hu) fun W H S x y dx dy d Q w s cx cy e => by
  unfold oEqD at e
  by_cases h : (eqOk dx && eqOk dy) = true
  · rw [if_pos h] at e; cases e
    obtain ⟨h1, h2⟩ := Bool.and_eq_true_iff.mp h
    obtain ⟨p1, p2⟩ := Bool.and_eq_true_iff.mp h1
    obtain ⟨q1, q2⟩ := Bool.and_eq_true_iff.mp h2
    exact ⟨_, rfl, fun q => ⟨py dx, py dy, cx.dp w p1, cy.dp w q1, p2, q2, q⟩⟩
  · rw [if_neg h] at e; cases e
theorem od_neD (hu : X.A.units + 64 < cLine) : OpD X ca H0 m (compareOp .NotEq) oNeD := OpD.bl (op_neD hu) fun W H S x y dx dy d Q w s cx cy e => by
  unfold oNeD at e
  by_cases h : (eqOk dx && eqOk dy) = true
  · rw [if_pos h] at e; cases e
    obtain ⟨h1, h2⟩ := Bool.and_eq_true_iff.mp h
    obtain ⟨p1, p2⟩ := Bool.and_eq_true_iff.mp h1
    obtain ⟨q1, q2⟩ := Bool.and_eq_true_iff.mp h2
    exact ⟨_, rfl, fun q => ⟨py dx, py dy, cx.dp w p1, cy.dp w q1, p2, q2, q⟩⟩
  · rw [if_neg h] at e; cases e
theorem od_eq (hu : X.A.units + 64 < cLine) : OpD X ca H0 m (compareOp .Eq) dEq := OpD.or od_eqS (od_eqD hu) fun x y d e => by
  unfold dEq at e
  split at e
  · exact .inl e
  · exact .inl e
  · exact .inr e
theorem od_ne (hu : X.A.units + 64 < cLine) : OpD X ca H0 m (compareOp .NotEq) dNe := OpD.or od_neS (od_neD hu) fun x y d e => by
  unfold dNe at e
  split at e
  · exact .inl e
  · exact .inl e
  · exact .inr e
def flatD : D → Bool
  | .non => true
  | .bl _ => true
  | .int _ => true
  | .str _ => true
  | _ => false
def eqF : D → D → Bool
  | .non, .non => true
  | .bl a, .bl b => a == b
  | .bl a, .int b => (if a then 1 else 0) == b
  | .int a, .bl b => a == (if b then 1 else 0)
  | .int a, .int b => a == b
  | .str a, .str b => a == b
  | _, _ => false
theorem flat_of {K : PySem.W.Frag} {h : Hp} {ad : Nat → Option Addr} {v : V} {d : D} (q : DV K ca h ad v d) (f : flatD d = true) : flatV v = true := by
  cases q <;> first | rfl | cases f
theorem flats_of {K : PySem.W.Frag} {h : Hp} {ad : Nat → Option Addr} : ∀ {vs : List V} {ds : List D}, DVs K ca h ad vs ds → ds.all flatD = true → vs.all flatV = true
  | _, _, .nil, _ => rfl
  | _, _, .cons q r, f => by
    rw [List.all_cons, Bool.and_eq_true] at f ⊢
    exact ⟨flat_of q f.1, flats_of r f.2⟩
theorem eqF_of {K : PySem.W.Frag} {h : Hp} {ad : Nat → Option Addr} {v w : V} {d e : D} (q : DV K ca h ad v d) (f : flatD d = true) (q' : DV K ca h ad w e) (f' : flatD e = true) : eqV v w = eqF d e := by
  cases q <;> first | (cases q' <;> first | rfl | (cases f'; done)) | (cases f; done)
theorem inV_of {K : PySem.W.Frag} {h : Hp} {ad : Nat → Option Addr} {v : V} {d : D} (q : DV K ca h ad v d) (f : flatD d = true) : ∀ {vs : List V} {ds : List D}, DVs K ca h ad vs ds → ds.all flatD = true → inV v vs = ds.any fun e => eqF e d
  | _, _, .nil, _ => rfl
  | _, _, .cons p r, fs => by
    rw [List.all_cons, Bool.and_eq_true] at fs
    have ih := inV_of q f r fs.2
    unfold inV at ih ⊢
    rw [List.any_cons, List.any_cons, eqF_of p fs.1 q f, ih]
def oInF (neg : Bool) (x y : D) : Option D := match y with
  | .lst l => if (flatD x && l.all flatD) = true then some (.bl (if neg then !(l.any fun e => eqF e x) else l.any fun e => eqF e x)) else none
  | .tup l => if (flatD x && l.all flatD) = true then some (.bl (if neg then !(l.any fun e => eqF e x) else l.any fun e => eqF e x)) else none
  | _ => none
theorem od_inF {op : CmpOp} {neg : Bool} (h : OpR X (compareOp op) (rIn X.K neg)) : OpD X ca H0 m (compareOp op) (oInF neg) := OpD.bl h fun W H S x y dx dy d Q w s cx cy e => by
  have hx : flatD dx = true → DV X.K ca W.hf W.ad x dx := fun f => by
    cases dx <;> first | exact cx | cases f
  cases dy with
  | lst l =>
    have e' : (if (flatD dx && l.all flatD) = true then some (D.bl (if neg then !(l.any fun e => eqF e dx) else l.any fun e => eqF e dx)) else none) = some d := e
    by_cases hf : (flatD dx && l.all flatD) = true
    · rw [if_pos hf] at e'; cases e'
      obtain ⟨f1, f2⟩ := Bool.and_eq_true_iff.mp hf
      obtain ⟨a, vs, rfl, h1, r1⟩ := cy
      refine ⟨_, rfl, fun q => ⟨a, vs, rfl, .inl (SqL.of h1), flat_of (hx f1) f1, flats_of r1 f2, ?_⟩⟩
      rw [inV_of (hx f1) f1 r1 f2]; exact q
    · rw [if_neg hf] at e'; cases e'
  | tup l =>
    have e' : (if (flatD dx && l.all flatD) = true then some (D.bl (if neg then !(l.any fun e => eqF e dx) else l.any fun e => eqF e dx)) else none) = some d := e
    by_cases hf : (flatD dx && l.all flatD) = true
    · rw [if_pos hf] at e'; cases e'
      obtain ⟨f1, f2⟩ := Bool.and_eq_true_iff.mp hf
      obtain ⟨a, vs, rfl, h1, r1⟩ := DV.ofTup cy
      refine ⟨_, rfl, fun q => ⟨a, vs, rfl, .inr (Same.tupq w.sub h1.sq), flat_of (hx f1) f1, flats_of r1 f2, ?_⟩⟩
      rw [inV_of (hx f1) f1 r1 f2]; exact q
    · rw [if_neg hf] at e'; cases e'
  | _ => cases e
def oInS (neg : Bool) : D → D → Option D
  | .str x, .str z => match x.cps with
    | ⟨[c]⟩ => some (.bl (if neg then !decide (c ∈ z.cps.toList) else decide (c ∈ z.cps.toList)))
    | _ => none
  | _, _ => none
theorem od_inS {op : CmpOp} {neg : Bool} (h : OpR X (compareOp op) (fun x y H Q => ∃ (c : Nat) (z : Str), x = .str ⟨#[c]⟩ ∧ y = .str z ∧ Q (.bl (if neg then !decide (c ∈ z.cps.toList) else decide (c ∈ z.cps.toList))) H)) : OpD X ca H0 m (compareOp op) (oInS neg) :=
  OpD.bl h fun W H S x y dx dy d Q w s cx cy e => by
    cases dx with
    | str i =>
      cases dy with
      | str z =>
        obtain ⟨⟨l⟩⟩ := i
        cases l with
        | nil => cases e
        | cons c r =>
          cases r with
          | nil => cases e; exact ⟨_, rfl, fun q => ⟨c, z, DV.ofStr cx, DV.ofStr cy, q⟩⟩
          | cons _ _ => cases e
      | _ => cases e
    | _ => cases e
def oInD (neg : Bool) (x y : D) : Option D := match y with
  | .lst l => if (eqOk x && eqOk (.lst l)) = true then some (.bl (if neg then !(l.any fun e => eqD e x) else l.any fun e => eqD e x)) else none
  | _ => none
theorem pys_any (g : PyData → Bool) : ∀ l : List D, (pys l).any g = l.any fun e => g (py e)
  | [] => rfl
  | d :: r => by
    show (g (py d) || (pys r).any g) = _
    rw [pys_any g r]; rfl
theorem od_inD {op : CmpOp} {neg : Bool} (h : OpR X (compareOp op) (fun x y H Q => ∃ d ds, Dp X.K H x d ∧ Dp X.K H y (.list ds) ∧ SeqAt.shaped d = true ∧ SeqAt.shaped (.list ds) = true ∧ Q (.bl (if neg then !ds.any fun z => PyData.eqv z d else ds.any fun z => PyData.eqv z d)) H)) : OpD X ca H0 m (compareOp op) (oInD neg) :=
  OpD.bl h fun W H S x y dx dy d Q w s cx cy e => by
    cases dy with
    | lst l =>
      have e' : (if (eqOk dx && eqOk (.lst l)) = true then some (D.bl (if neg then !(l.any fun e => eqD e dx) else l.any fun e => eqD e dx)) else none) = some d := e
      by_cases hf : (eqOk dx && eqOk (.lst l)) = true
      · rw [if_pos hf] at e'; cases e'
        obtain ⟨h1, h2⟩ := Bool.and_eq_true_iff.mp hf
        obtain ⟨p1, p2⟩ := Bool.and_eq_true_iff.mp h1
        obtain ⟨q1, q2⟩ := Bool.and_eq_true_iff.mp h2
        refine ⟨_, rfl, fun q => ⟨py dx, pys l, cx.dp w p1, cy.dp w q1, p2, q2, ?_⟩⟩
        rw [pys_any]; exact q
      · rw [if_neg hf] at e'; cases e'
    | _ => cases e
def oIn (neg : Bool) (x y : D) : Option D := match y with
  | .str _ => oInS neg x y
  | .tup _ => oInF neg x y
  | .lst _ => if flatD x = true then oInF neg x y else oInD neg x y
  | _ => none
theorem od_in (hu : X.A.units + 65 < cLine) : OpD X ca H0 m (compareOp .In) (oIn false) := by
  refine OpD.or (OpD.or (o'' := fun x y => match y with | .str _ => oInS false x y | _ => oInF false x y) (od_inS (neg := false) op_in_sign) (od_inF (neg := false) op_in_seq) fun x y d e => ?_) (od_inD (neg := false) (op_inD hu)) fun x y d e => ?_
  · cases y with
    | str z => exact .inl e
    | _ => exact .inr e
  · cases y with
    | str z => exact .inl e
    | tup z => exact .inl e
    | lst z =>
      have e' : (if flatD x = true then oInF false x (.lst z) else oInD false x (.lst z)) = some d := e
      by_cases h : flatD x = true
      · rw [if_pos h] at e'; exact .inl e'
      · rw [if_neg h] at e'; exact .inr e'
    | _ => cases e
theorem od_notIn (hu : X.A.units + 65 < cLine) : OpD X ca H0 m (compareOp .NotIn) (oIn true) := by
  refine OpD.or (OpD.or (o'' := fun x y => match y with | .str _ => oInS true x y | _ => oInF true x y) (od_inS (neg := true) op_notIn_sign) (od_inF (neg := true) op_notIn_seq) fun x y d e => ?_) (od_inD (neg := true) (op_notInD hu)) fun x y d e => ?_
  · cases y with
    | str z => exact .inl e
    | _ => exact .inr e
  · cases y with
    | str z => exact .inl e
    | tup z => exact .inl e
    | lst z =>
      have e' : (if flatD x = true then oInF true x (.lst z) else oInD true x (.lst z)) = some d := e
      by_cases h : flatD x = true
      · rw [if_pos h] at e'; exact .inl e'
      · rw [if_neg h] at e'; exact .inr e'
    | _ => cases e
def isN : D → Bool
  | .non => true
  | _ => false
def sIsN (neg : Bool) (f : SE) : SE := fun ρ => mb (f ρ) fun d => mp (.bl (if neg then !isN d else isN d))
theorem isN_of {K : PySem.W.Frag} {h : Hp} {ad : Nat → Option Addr} {v : V} {d : D} (q : DV K ca h ad v d) : decide (v = .non) = isN d := by
  cases q <;> rfl
theorem bor_non {K : PySem.W.Frag} {H H' : Hp} {W' : Wd} {v : V} {d : D} (q : DR K ca .bor H W' H' v d) : decide (v = .non) = isN d := by
  cases d with
  | lst l => obtain ⟨a, vs, rfl, _⟩ := q; rfl
  | dK l => obtain ⟨a, vs, rfl, _⟩ := q; rfl
  | dT l => obtain ⟨a, vs, rfl, _⟩ := q; rfl
  | non => exact isN_of (show DV K ca W'.hf W'.ad v .non from q)
  | bl b => exact isN_of (show DV K ca W'.hf W'.ad v (.bl b) from q)
  | int b => exact isN_of (show DV K ca W'.hf W'.ad v (.int b) from q)
  | str b => exact isN_of (show DV K ca W'.hf W'.ad v (.str b) from q)
  | tup b => exact isN_of (show DV K ca W'.hf W'.ad v (.tup b) from q)
  | rol b => exact isN_of (show DV K ca W'.hf W'.ad v (.rol b) from q)
  | obj b => exact isN_of (show DV K ca W'.hf W'.ad v (.obj b) from q)
  | ins b c => exact isN_of (show DV K ca W'.hf W'.ad v (.ins b c) from q)
theorem de_isN {Wx : WX} {a : Expr} {fa : SE} {pos : Pos} {j pos'} (ha : DE X ca H0 Wx .bor a fa) : DE X ca H0 Wx m (.Compare a [.Is] [.Constant .none j pos'] pos) (sIsN false fa) := by
  refine PE.imp (pe_cmp (pc_isN ha)) fun σ H Q ⟨W, ρ, S, R, o⟩ => ⟨W, ρ, S, R, (OutM.bind o).imp fun d S1 W1 H1 F1 R1 h1 x D1 => ?_⟩
  show Q (.bl (decide (x = .non))) H1
  rw [bor_non D1]
  exact OutM.re R1 h1 _ (DR.scal rfl (.bl _))
end
end DL
namespace DL
open PySem PySem.Spec PyProof.Rows L2
section
variable {K : PySem.W.Frag} {ca : Ca} {h : Hp} {ad : Nat → Option Addr}
theorem DVs.at_ {vs : List V} {ds : List D} {i : Int} {d : D} (q : DVs K ca h ad vs ds) (e : atI ds i = some d) : ∃ v, atI vs i = some v ∧ DV K ca h ad v d := by
  unfold atI at e ⊢
  rw [q.length]
  cases hi : ixN ds.length i with
  | none => rw [hi] at e; cases e
  | some j =>
    rw [hi] at e
    exact q.get e
theorem DVs.cut {vs : List V} {ds : List D} (q : DVs K ca h ad vs ds) (lo hi : Option Int) : DVs K ca h ad (cutV vs lo hi) ((ds.drop (HT.sIx ds.length 0 lo)).take (HT.sIx ds.length ds.length hi - HT.sIx ds.length 0 lo)) := by
  unfold cutV
  rw [q.length]
  exact (q.drop _).take _
inductive CVs (K : PySem.W.Frag) (ca : Ca) (W : Wd) (H : Hp) : List V → List D → Prop
  | nil : CVs K ca W H [] []
  | cons {v : V} {vs : List V} {d : D} {ds : List D} : CV K ca W H v d → CVs K ca W H vs ds → CVs K ca W H (v :: vs) (d :: ds)
theorem DRs.view {m : Md} {W : Wd} {H H' : Hp} {S : Sto} (w : WOk W H') (s : RepS K ca W H' S) : ∀ {vs : List V} {ds : List D}, DRs K ca m H W H' vs ds → CVs K ca W H' vs (ds.map (dref S))
  | _, _, .nil => .nil
  | _, _, .cons q r => .cons (DR.view w s q) (DRs.view w s r)
theorem CVs.one {W : Wd} {H : Hp} {vs : List V} {d : D} (q : CVs K ca W H vs [d]) : ∃ v, vs = [v] ∧ CV K ca W H v d := by
  cases q with
  | cons c r => cases r; exact ⟨_, rfl, c⟩
theorem CVs.two {W : Wd} {H : Hp} {vs : List V} {d e : D} (q : CVs K ca W H vs [d, e]) : ∃ v w, vs = [v, w] ∧ CV K ca W H v d ∧ CV K ca W H w e := by
  cases q with
  | cons c r =>
    cases r with
    | cons c' r => cases r; exact ⟨_, _, rfl, c, c'⟩
end
def cutD (ds : List D) (lo hi : Option Int) : List D := (ds.drop (HT.sIx ds.length 0 lo)).take (HT.sIx ds.length ds.length hi - HT.sIx ds.length 0 lo)
def oIx : D → D → Option D
  | .lst l, .int i => atI l i
  | .rol l, .int i => atI l i
  | .tup l, .int i => atI l i
  | .str z, .int i => if z.length ≤ sizeLine then (atI z.cps.toList i).map fun c => .str ⟨#[c]⟩ else none
  | _, _ => none
section
variable {X : Cx} {ca : Ca} {H0 : Bs} {Wx : WX} {m : Md}
theorem FinR.dv {K : PySem.W.Frag} {W : Wd} {H : Hp} {S : Sto} {d : D} {Q : VK} {v : V} (hm : m ≠ .fre) (f : FinR K ca H0 m W H S d Q) (w : WOk W H) (q : DV K ca W.hf W.ad v d) : Q v H := by
  refine f W H v (FutG.refl _ _) (fun _ _ R => R) ?_
  cases m with
  | frz => exact q
  | bor => exact DR.toBor (m := .frz) (H := H) w q
  | sta => exact DR.toSta (m := .frz) (H := H) (by decide) w q
  | fre => exact absurd rfl hm
theorem ix_of (hm : m ≠ .fre) {W : Wd} {H : Hp} {S : Sto} {x y : V} {dx dy d : D} {Q : VK} (w : WOk W H) (cx : CV X.K ca W H x dx) (cy : CV X.K ca W H y dy) (e : oIx dx dy = some d) (F : FinR X.K ca H0 m W H S d Q) : rIx X.K x y H Q := by
  cases dx with
  | lst l =>
    cases dy with
    | int i =>
      obtain ⟨a, vs, rfl, h1, r⟩ := cx
      obtain ⟨v, h2, q⟩ := r.at_ (show atI l i = some d from e)
      exact .inl ⟨a, vs, i, v, rfl, DV.ofInt cy, SqL.of h1, h2, F.dv hm w q⟩
    | _ => cases e
  | rol l =>
    cases dy with
    | int i =>
      obtain ⟨a, vs, rfl, h1, r⟩ := DV.ofRol cx
      obtain ⟨v, h2, q⟩ := r.at_ (show atI l i = some d from e)
      exact .inl ⟨a, vs, i, v, rfl, DV.ofInt cy, Same.lstq w.sub h1, h2, F.dv hm w q⟩
    | _ => cases e
  | tup l =>
    cases dy with
    | int i =>
      obtain ⟨a, vs, rfl, h1, r⟩ := DV.ofTup cx
      obtain ⟨v, h2, q⟩ := r.at_ (show atI l i = some d from e)
      exact .inr (.inl ⟨a, vs, i, v, rfl, DV.ofInt cy, Same.tupq w.sub h1.sq, h2, F.dv hm w q⟩)
    | _ => cases e
  | str z =>
    cases dy with
    | int i =>
      have e' : (if z.length ≤ sizeLine then (atI z.cps.toList i).map fun c => D.str ⟨#[c]⟩ else none) = some d := e
      by_cases hz : z.length ≤ sizeLine
      · rw [if_pos hz] at e'
        obtain ⟨c, h1, h2⟩ := Option.map_eq_some_iff.mp e'
        subst h2
        exact .inr (.inr ⟨z, i, c, DV.ofStr cx, DV.ofInt cy, hz, h1, F.scal rfl (.str _)⟩)
      · rw [if_neg hz] at e'; cases e'
    | _ => cases e
  | _ => cases e
theorem de_ix {a b : Expr} {fa fb : SE} {pos : Pos} (hm : m ≠ .fre) (ha : DE X ca H0 Wx .bor a fa) (hb : DE X ca H0 Wx .bor b fb) (hs : PlainIx b := by intro _ _; rfl) : DE X ca H0 Wx m (.Subscript a b pos) (sBin oIx fa fb) :=
  PE.imp (pe_ix ix_seq ha hb hs) fun σ H Q h => two_of (fun W H S x y dx dy d Q w s cx cy e F => ix_of hm w cx cy e F) h
abbrev SO := Rho → M (Option Int)
def tO (K : PySem.W.Frag) (ca : Ca) (H0 : Bs) (Wx : WX) (f : SO) : TO := fun σ H Q => ∃ W ρ S, Rep K ca H0 W H σ ρ S ∧ OutM K ca H0 Wx W ρ σ H (f ρ S) fun i _ _ H' => Q i H'
abbrev DO (X : Cx) (ca : Ca) (H0 : Bs) (Wx : WX) (e : Option Expr) (f : SO) : Prop := PO X e (tO X.K ca H0 Wx f)
theorem PO.imp {X : Cx} {e : Option Expr} {t t' : TO} (h : PO X e t) (i : ∀ σ H Q, t' σ H Q → t σ H Q) : PO X e t' :=
  ⟨fun pins s σ H Q I q => h.run pins s σ H Q I (i σ H Q q)⟩
def sNo : SO := fun _ => mp none
def dInt : D → Option Int
  | .int i => some i
  | _ => none
def sPart (f : SE) : SO := fun ρ => mb (f ρ) fun d => mo ((dInt d).map some)
theorem do_none : DO X ca H0 Wx none sNo := PO.imp po_none fun σ H Q ⟨W, ρ, S, R, o⟩ => OutM.re R o
theorem do_some {e : Expr} {f : SE} (h : DE X ca H0 Wx .frz e f) : DO X ca H0 Wx (some e) (sPart f) := PO.imp (po_some h) fun σ H Q ⟨W, ρ, S, R, o⟩ => ⟨W, ρ, S, R, (OutM.bind o).imp fun d S1 W1 H1 F1 R1 h1 x D1 => by
  cases d with
  | int i => exact ⟨i, DV.ofInt D1, OutM.re R1 h1⟩
  | _ => exact False.elim h1⟩
def oSl (d : D) (lo hi : Option Int) : Option D := match d with
  | .lst l => some (.lst (cutD l lo hi))
  | .str z => if z.length ≤ sizeLine then some (.str (cutS z lo hi)) else none
  | .tup l => some (.tup (cutD l lo hi))
  | _ => none
def sSl (fe : SE) (fl fh : SO) : SE := fun ρ => mb (fe ρ) fun d => mb (fl ρ) fun lo => mb (fh ρ) fun hi S => mo (oSl (dref S d) lo hi) S
theorem de_slice {e : Expr} {lo hi : Option Expr} {fe : SE} {fl fh : SO} {p2 pos : Pos} (he : DE X ca H0 Wx .bor e fe) (hl : DO X ca H0 Wx lo fl) (hh : DO X ca H0 Wx hi fh) : DE X ca H0 Wx m (.Subscript e (.Slice lo hi none p2) pos) (sSl fe fl fh) := by
  refine PE.imp (pe_slice (SlR.or sl_list (SlR.or sl_str sl_tupA)) he hl hh) fun σ H Q ⟨W, ρ, S, R, o⟩ => ⟨W, ρ, S, R, (OutM.bind o).imp fun d S1 W1 H1 F1 R1 h1 x D1 => ⟨W1, ρ, S1, R1, (OutM.bind h1).imp fun l S2 W2 H2 F2 R2 h2 => ⟨W2, ρ, S2, R2, (OutM.bind h2).imp fun u S3 W3 H3 F3 R3 h3 => ?_⟩⟩⟩
  have c := DR.view R3.w R3.s (DR.later (by decide) (Fut.trans' F2 F3) D1)
  have go : ∀ {z : D}, oSl (dref S3 d) l u = some z → FinR X.K ca H0 m W3 H3 S3 z Q := fun {z} e W' H' v F k r => by
    rw [e] at h3
    exact h3 W' H' F (k _ _ R3) v (DR.older (fun a o ha => (Fut.trans' F1 (Fut.trans' F2 F3)).dom a o ha) r)
  cases e : dref S3 d with
  | lst ds =>
    rw [e] at c
    obtain ⟨a, vs, rfl, k1, r⟩ := c
    exact .inl ⟨a, vs, rfl, SqL.of k1, FinR.lst (go (by rw [e]; rfl)) R3.w (r.cut l u)⟩
  | str z =>
    rw [e] at c
    obtain rfl := DV.ofStr c
    by_cases hz : z.length ≤ sizeLine
    · exact .inr (.inl ⟨z, rfl, hz, FinR.scal (go (by rw [e]; exact if_pos hz)) rfl (.str _)⟩)
    · rw [e, show oSl (.str z) l u = none from if_neg hz] at h3; exact False.elim h3
  | tup ds =>
    rw [e] at c
    obtain ⟨a, vs, rfl, k1, r⟩ := DV.ofTup c
    have hg := go (z := .tup (cutD ds l u)) (by rw [e]; rfl)
    refine .inr (.inr ⟨a, vs, rfl, Same.tupq R3.w.sub k1.sq, fun hw => ?_, fun _ => FinR.tup hg R3.w (r.cut l u)⟩)
    have ew : cutD ds l u = ds := by
      rw [r.length] at hw
      unfold cutD
      rw [hw.1, hw.2, List.drop_zero, Nat.sub_zero, List.take_length]
    rw [ew] at hg
    exact hg.scal rfl (.tup k1 r)
  | _ => rw [e] at h3; exact False.elim h3
def CallD (X : Cx) (ca : Ca) (H0 : Bs) (m : Md) (f : Value) (o : List D → Option D) : Prop :=
  ∃ r, CallR X f r ∧ ∀ W H S xs ds d Q, WOk W H → RepS X.K ca W H S → CVs X.K ca W H xs ds → o ds = some d → FinR X.K ca H0 m W H S d Q → r xs H Q
theorem CallD.or {f : Value} {o o' o'' : List D → Option D} (a : CallD X ca H0 m f o) (b : CallD X ca H0 m f o') (h : ∀ x d, o'' x = some d → o x = some d ∨ o' x = some d) : CallD X ca H0 m f o'' := by
  obtain ⟨r, h1, h2⟩ := a
  obtain ⟨r', h1', h2'⟩ := b
  refine ⟨_, CallR.or h1 h1', fun W H S xs ds d Q w s c e F => ?_⟩
  rcases h ds d e with e | e
  · exact .inl (h2 W H S xs ds d Q w s c e F)
  · exact .inr (h2' W H S xs ds d Q w s c e F)
def sCall (o : List D → Option D) (fa : SA) : SE := fun ρ => mb (fa ρ) fun ds S => mo (o (ds.map (dref S))) S
theorem call_of {r : List V → Hp → VK → Prop} {o : List D → Option D} {fa : SA}
    (h2 : ∀ W H S xs ds d Q, WOk W H → RepS X.K ca W H S → CVs X.K ca W H xs ds → o ds = some d → FinR X.K ca H0 m W H S d Q → r xs H Q) {σ : L2.St} {H : Hp} {Q : VK}
    (h : tE X.K ca H0 Wx m (sCall o fa) σ H Q) : tA X.K ca H0 Wx .bor fa σ H fun xs H1 => r xs H1 Q := by
  obtain ⟨W, ρ, S, R, h⟩ := h
  refine ⟨W, ρ, S, R, (OutM.bind h).imp fun ds S1 W1 H1 F1 R1 h1 xs D1 => ?_⟩
  have c := DRs.view R1.w R1.s D1
  cases e : o (ds.map (dref S1)) with
  | none => rw [e] at h1; exact False.elim h1
  | some d =>
    rw [e] at h1
    exact h2 W1 H1 S1 xs _ d Q R1.w R1.s c e fun W' H' v F k r => h1 W' H' F (k _ _ R1) v (DR.older F1.dom r)
theorem de_callB {x : Str} {id : String} {o : List D → Option D} {e : Expr} {es : List Expr} {fa : SA} {p pos : Pos} (hc : CallD X ca H0 m (.builtin id) o) (hg : Gl X x) (hm : X.mg x = none) (hv : bootBuiltins x = some (.builtin id)) (ha : DA X ca H0 Wx .bor (e :: es) fa)
    (hn : x ≠ "__name__" := by decide) (hdb : (x == ("__debug__" : Str)) = false := by decide) (he : starEach (e :: es) X.env = (false, eval e X.env) :: starEach es X.env := by rfl) (hpl : (backTo pos (starEach es X.env)).any (·.1) = false := by rfl) :
    DE X ca H0 Wx m (.Call (.Name x p) (e :: es) [] pos) (sCall o fa) := by
  obtain ⟨r, h1, h2⟩ := hc
  exact PE.imp (pe_callB h1 hg hm hv ha hn hdb he hpl) fun σ H Q h => call_of h2 h
theorem de_callTy {x : Str} {T : String} {o : List D → Option D} {e : Expr} {es : List Expr} {fa : SA} {p pos : Pos} (hc : CallD X ca H0 m (.type T) o) (hg : Gl X x) (hm : X.mg x = none) (hv : bootBuiltins x = some (.type T)) (ha : DA X ca H0 Wx .bor (e :: es) fa)
    (hn : x ≠ "__name__" := by decide) (hdb : (x == ("__debug__" : Str)) = false := by decide) (he : starEach (e :: es) X.env = (false, eval e X.env) :: starEach es X.env := by rfl) (hpl : (backTo pos (starEach es X.env)).any (·.1) = false := by rfl) :
    DE X ca H0 Wx m (.Call (.Name x p) (e :: es) [] pos) (sCall o fa) := by
  obtain ⟨r, h1, h2⟩ := hc
  exact PE.imp (pe_callTy h1 hg hm hv ha hn hdb he hpl) fun σ H Q h => call_of h2 h
def oLen : List D → Option D
  | [.str z] => if z.length ≤ sizeLine then some (.int z.length) else none
  | [.lst l] => some (.int l.length)
  | [.rol l] => some (.int l.length)
  | [.tup l] => some (.int l.length)
  | _ => none
theorem cd_len : CallD X ca H0 m (.builtin "len") oLen := ⟨_, call_len, fun W H S xs ds d Q w s c e F => by
  match ds, c, e with
  | [.str z], c, e =>
    obtain ⟨v, rfl, c1⟩ := c.one
    obtain rfl := DV.ofStr c1
    have e' : (if z.length ≤ sizeLine then some (D.int z.length) else none) = some d := e
    by_cases hz : z.length ≤ sizeLine
    · rw [if_pos hz] at e'; cases e'; exact ⟨_, _, rfl, ⟨hz, rfl⟩, F.scal rfl (.int _)⟩
    · rw [if_neg hz] at e'; cases e'
  | [.lst l], c, e =>
    obtain ⟨v, rfl, a, vs, rfl, h1, r⟩ := c.one
    cases e
    exact ⟨_, _, rfl, .inl ⟨vs, SqL.of h1, r.length.symm⟩, F.scal rfl (.int _)⟩
  | [.rol l], c, e =>
    obtain ⟨v, rfl, c1⟩ := c.one
    obtain ⟨a, vs, rfl, h1, r⟩ := DV.ofRol c1
    cases e
    exact ⟨_, _, rfl, .inl ⟨vs, Same.lstq w.sub h1, r.length.symm⟩, F.scal rfl (.int _)⟩
  | [.tup l], c, e =>
    obtain ⟨v, rfl, c1⟩ := c.one
    obtain ⟨a, vs, rfl, h1, r⟩ := DV.ofTup c1
    cases e
    exact ⟨_, _, rfl, .inr ⟨vs, Same.tupq w.sub h1.sq, r.length.symm⟩, F.scal rfl (.int _)⟩⟩
def oMax : List D → Option D
  | [.int i, .int j] => some (.int (if j > i then j else i))
  | _ => none
def oMin : List D → Option D
  | [.int i, .int j] => some (.int (if j < i then j else i))
  | _ => none
theorem cd_max (hc : X.calm = true) : CallD X ca H0 m (.builtin "max") oMax := ⟨_, call_max2 hc, fun W H S xs ds d Q w s c e F => by
  match ds, c, e with
  | [.int i, .int j], c, e =>
    obtain ⟨v, u, rfl, c1, c2⟩ := c.two
    obtain rfl := DV.ofInt c1
    obtain rfl := DV.ofInt c2
    cases e
    exact ⟨i, j, rfl, F.scal rfl (.int _)⟩⟩
theorem cd_min (hc : X.calm = true) : CallD X ca H0 m (.builtin "min") oMin := ⟨_, call_min2 hc, fun W H S xs ds d Q w s c e F => by
  match ds, c, e with
  | [.int i, .int j], c, e =>
    obtain ⟨v, u, rfl, c1, c2⟩ := c.two
    obtain rfl := DV.ofInt c1
    obtain rfl := DV.ofInt c2
    cases e
    exact ⟨i, j, rfl, F.scal rfl (.int _)⟩⟩
def oOrd : List D → Option D
  | [.str z] => if z.length = 1 then some (.int (z.cps.getD 0 0 : Nat)) else none
  | _ => none
theorem cd_ord : CallD X ca H0 m (.builtin "ord") oOrd := ⟨_, call_ord, fun W H S xs ds d Q w s c e F => by
  match ds, c, e with
  | [.str z], c, e =>
    obtain ⟨v, rfl, c1⟩ := c.one
    obtain rfl := DV.ofStr c1
    have e' : (if z.length = 1 then some (D.int (z.cps.getD 0 0 : Nat)) else none) = some d := e
    by_cases hz : z.length = 1
    · rw [if_pos hz] at e'; cases e'; exact ⟨_, rfl, hz, F.scal rfl (.int _)⟩
    · rw [if_neg hz] at e'; cases e'⟩
def oInt : List D → Option D
  | [.int i] => some (.int i)
  | [.bl k] => some (.int (if k then 1 else 0))
  | [.str z] => if z.length ≤ 640 then (PySem.intText? z).map .int else none
  | _ => none
theorem cd_int : CallD X ca H0 m (.type "int") oInt := ⟨_, CallR.or call_int1 call_int_str, fun W H S xs ds d Q w s c e F => by
  match ds, c, e with
  | [.int i], c, e =>
    obtain ⟨v, rfl, c1⟩ := c.one
    obtain rfl := DV.ofInt c1
    cases e
    exact .inl (.inl ⟨i, rfl, F.scal rfl (.int _)⟩)
  | [.bl k], c, e =>
    obtain ⟨v, rfl, c1⟩ := c.one
    obtain rfl := DV.ofBl c1
    cases e
    exact .inl (.inr ⟨k, rfl, F.scal rfl (.int _)⟩)
  | [.str z], c, e =>
    obtain ⟨v, rfl, c1⟩ := c.one
    obtain rfl := DV.ofStr c1
    have e' : (if z.length ≤ 640 then (PySem.intText? z).map D.int else none) = some d := e
    by_cases hz : z.length ≤ 640
    · rw [if_pos hz] at e'
      obtain ⟨n, h1, h2⟩ := Option.map_eq_some_iff.mp e'
      subst h2
      exact .inr ⟨z, n, rfl, h1, hz, F.scal rfl (.int _)⟩
    · rw [if_neg hz] at e'; cases e'⟩
def oList : List D → Option D
  | [.lst l] => some (.lst l)
  | [.rol l] => some (.lst l)
  | [.tup l] => some (.lst l)
  | _ => none
theorem cd_list : CallD X ca H0 m (.type "list") oList := ⟨_, call_list_of, fun W H S xs ds d Q w s c e F => by
  match ds, c, e with
  | [.lst l], c, e =>
    obtain ⟨v, rfl, a, vs, rfl, h1, r⟩ := c.one
    cases e
    exact ⟨a, vs, rfl, .inl (SqL.of h1), F.lst w r⟩
  | [.rol l], c, e =>
    obtain ⟨v, rfl, c1⟩ := c.one
    obtain ⟨a, vs, rfl, h1, r⟩ := DV.ofRol c1
    cases e
    exact ⟨a, vs, rfl, .inl (Same.lstq w.sub h1), F.lst w r⟩
  | [.tup l], c, e =>
    obtain ⟨v, rfl, c1⟩ := c.one
    obtain ⟨a, vs, rfl, h1, r⟩ := DV.ofTup c1
    cases e
    exact ⟨a, vs, rfl, .inr (Same.tupq w.sub h1.sq), F.lst w r⟩⟩
def oTuple : List D → Option D
  | [.lst l] => some (.tup l)
  | [.tup l] => some (.tup l)
  | _ => none
theorem bls_of {K : PySem.W.Frag} {h : Hp} {ad : Nat → Option Addr} : ∀ {vs : List V} {bs : List Bool}, DVs K ca h ad vs (bs.map D.bl) → vs = bs.map V.bl
  | _, [], .nil => rfl
  | _, _ :: _, .cons q r => by rw [DV.ofBl q, bls_of r]; rfl
def dBls : List D → Option (List Bool)
  | [] => some []
  | .bl b :: r => (dBls r).map (b :: ·)
  | _ :: _ => none
theorem dBls_eq : ∀ {l : List D} {bs : List Bool}, dBls l = some bs → l = bs.map D.bl
  | [], bs, e => by cases e; rfl
  | .bl b :: r, bs, e => by
    obtain ⟨cs, h1, h2⟩ := Option.map_eq_some_iff.mp (show (dBls r).map (b :: ·) = some bs from e)
    subst h2
    rw [dBls_eq h1]; rfl
def oAny : List D → Option D
  | [.lst l] => (dBls l).map fun bs => .bl (bs.any id)
  | _ => none
def oAll : List D → Option D
  | [.lst l] => (dBls l).map fun bs => .bl (bs.all id)
  | _ => none
theorem cd_all (hc : X.calm = true) : CallD X ca H0 m (.builtin "all") oAll := ⟨_, cr_all hc, fun W H S xs ds d Q w s c e F => by
  match ds, c, e with
  | [.lst l], c, e =>
    obtain ⟨v, rfl, a, vs, rfl, h1, r⟩ := c.one
    obtain ⟨bs, e1, e2⟩ := Option.map_eq_some_iff.mp (show (dBls l).map (fun bs => D.bl (bs.all id)) = some d from e)
    subst e2
    rw [dBls_eq e1] at r
    rw [bls_of r] at h1
    exact ⟨a, bs, rfl, SqL.of h1, F.scal rfl (.bl _)⟩⟩
def oRepr : List D → Option D
  | [.bl b] => some (.str (if b then "True" else "False"))
  | _ => none
def M1D (X : Cx) (ca : Ca) (H0 : Bs) (m : Md) (id : String) (o : Str → D → Option D) : Prop :=
  ∃ r, MtR X id r ∧ ∀ W H S z y dy d Q, WOk W H → RepS X.K ca W H S → CV X.K ca W H y dy → o z dy = some d → FinR X.K ca H0 m W H S d Q → r (.str z) [y] H Q
def sM1 (o : Str → D → Option D) (fa fb : SE) : SE := fun ρ => mb (fa ρ) fun x => match x with
  | .str z => mb (fb ρ) fun y S => mo (o z (dref S y)) S
  | _ => mf
theorem de_m1 {id : String} {name : Str} {apos pos : Pos} {o : Str → D → Option D} {a b : Expr} {fa fb : SE} (slot : Slot "str" name id) (ty : typeOf (.builtin id) = pure (.type "method_descriptor")) (rule : M1D X ca H0 m id o) (ha : DE X ca H0 Wx .frz a fa) (hb : DE X ca H0 Wx .bor b fb)
    (hs : starEach [b] X.env = [(false, eval b X.env)] := by rfl) (hbase : attributeBase a name X.env (eval a X.env) = eval a X.env := by rfl) (hline : (apos.endLine == pos.line) = true := by rfl) :
    DE X ca H0 Wx m (.Call (.Attribute a name apos) [b] [] pos) (sM1 o fa fb) := by
  obtain ⟨r, h1, h2⟩ := rule
  refine PE.imp (pe_m1 slot ty h1 ha hb hs hbase hline) fun σ H Q ⟨W, ρ, S, R, o'⟩ => ⟨W, ρ, S, R, (OutM.bind o').imp fun d S1 W1 H1 F1 R1 h3 x D1 => ?_⟩
  cases d with
  | str z =>
    obtain rfl := DV.ofStr D1
    refine ⟨⟨z, rfl⟩, W1, ρ, S1, R1, (OutM.bind h3).imp fun dy S2 W2 H2 F2 R2 h4 y D2 => ?_⟩
    have c := DR.view R2.w R2.s D2
    cases e : o z (dref S2 dy) with
    | none => rw [e] at h4; exact False.elim h4
    | some d =>
      rw [e] at h4
      exact h2 W2 H2 S2 z y _ d Q R2.w R2.s c e fun W' H' v F k r => h4 W' H' F (k _ _ R2) v (DR.older (Fut.trans' F1 F2).dom r)
  | _ => exact False.elim h3
theorem strs_dv {K : PySem.W.Frag} {h : Hp} {ad : Nat → Option Addr} : ∀ (ys : List Str), DVs K ca h ad (ys.map V.str) (ys.map D.str)
  | [] => .nil
  | y :: r => .cons (.str y) (strs_dv r)
def dStrs : List D → Option (List Str)
  | [] => some []
  | .str b :: r => (dStrs r).map (b :: ·)
  | _ :: _ => none
theorem dStrs_map : ∀ ys : List Str, dStrs (ys.map D.str) = some ys
  | [] => rfl
  | y :: r => by
    show (dStrs (r.map D.str)).map (y :: ·) = _
    rw [dStrs_map r]; rfl
def oSplit (z : Str) : D → Option D
  | .str b => if b.length ≠ 0 ∧ z.length + 2 ≤ sizeLine then some (.lst ((Txt.split z b).map D.str)) else none
  | _ => none
theorem md_split : M1D X ca H0 m "str.split" oSplit := ⟨_, mt_split, fun W H S z y dy d Q w s c e F => by
  cases dy with
  | str b =>
    obtain rfl := DV.ofStr c
    have e' : (if b.length ≠ 0 ∧ z.length + 2 ≤ sizeLine then some (D.lst ((Txt.split z b).map D.str)) else none) = some d := e
    by_cases hz : b.length ≠ 0 ∧ z.length + 2 ≤ sizeLine
    · rw [if_pos hz] at e'; cases e'
      exact ⟨z, b, rfl, rfl, beq_eq_false_iff_ne.mpr hz.1, hz.2, F.lst w (strs_dv _)⟩
    · rw [if_neg hz] at e'; cases e'
  | _ => cases e⟩
end
end DL
namespace DL
open PySem PySem.Spec PyProof.Rows L2
inductive SOut where
  | nx (ρ : Rho) | ret (d : D) | brk (ρ : Rho) | cnt (ρ : Rho) | exc (ρ : Rho) (x : Xc)
abbrev SS := Rho → Sto → Option (SOut × Sto)
section
variable (K : PySem.W.Frag) (ca : Ca) (H0 : Bs) (Wx : WX) (mr : Md)
def OutS (W : Wd) (H : Hp) (D : Ends) (r : Option (SOut × Sto)) : Prop :=
  match r with
  | none => False
  | some (.nx ρ', S') => ∀ W' H' σ', FutS H0 W H W' H' → Rep K ca H0 W' H' σ' ρ' S' → D.nx σ' H'
  | some (.brk ρ', S') => ∀ W' H' σ', FutS H0 W H W' H' → Rep K ca H0 W' H' σ' ρ' S' → D.bk σ' H'
  | some (.cnt ρ', S') => ∀ W' H' σ', FutS H0 W H W' H' → Rep K ca H0 W' H' σ' ρ' S' → D.ct σ' H'
  | some (.ret d, S') => ∀ W' H' v, FutS H0 W H W' H' → WOk W' H' → RepS K ca W' H' S' → DR K ca mr H0 W' H' v d → D.rt v H'
  | some (.exc ρ' x, S') => ∀ W' H' σ' cls od, FutS H0 W H W' H' → Rep K ca H0 W' H' σ' ρ' S' → XV K ca W' H' cls od x → Wx cls od σ' H'
def tS (f : SS) : TS := fun D σ H => ∃ W ρ S, Rep K ca H0 W H σ ρ S ∧ OutS K ca H0 Wx mr W H D (f ρ S)
end
abbrev DS (X : Cx) (ca : Ca) (H0 : Bs) (Wx : WX) (mr : Md) (st : Stmt) (f : SS) : Prop := PS X st (tS X.K ca H0 Wx mr f)
abbrev DSs (X : Cx) (ca : Ca) (H0 : Bs) (Wx : WX) (mr : Md) (st : List Stmt) (f : SS) : Prop := PSs X st (tS X.K ca H0 Wx mr f)
section
variable {K : PySem.W.Frag} {ca : Ca} {H0 : Bs} {H H1 H' : Hp} {Wx : WX} {mr : Md} {W W1 W' : Wd} {σ : L2.St} {ρ : Rho} {S : Sto} {Dn : Ends}
theorem OutS.later {r : Option (SOut × Sto)} (f : FutS H0 W H W1 H1) (h : OutS K ca H0 Wx mr W H Dn r) : OutS K ca H0 Wx mr W1 H1 Dn r := by
  match r, h with
  | some (.nx ρ', S'), h => exact fun W' H' σ' g R => h W' H' σ' (f.trans g) R
  | some (.brk ρ', S'), h => exact fun W' H' σ' g R => h W' H' σ' (f.trans g) R
  | some (.cnt ρ', S'), h => exact fun W' H' σ' g R => h W' H' σ' (f.trans g) R
  | some (.ret d, S'), h => exact fun W' H' v g w s q => h W' H' v (f.trans g) w s q
  | some (.exc ρ' x, S'), h => exact fun W' H' σ' cls od g R x => h W' H' σ' cls od (f.trans g) R x
def sb {α : Type} (x : M α) (ρ : Rho) (k : α → Sto → Option (SOut × Sto)) : Sto → Option (SOut × Sto) := fun S => match x S with
  | none => none
  | some (.error e, S') => some (.exc ρ e, S')
  | some (.ok a, S') => k a S'
theorem OutS.bind {α : Type} {x : M α} {k : α → Sto → Option (SOut × Sto)} (R : Rep K ca H0 W H σ ρ S) (h : OutS K ca H0 Wx mr W H Dn (sb x ρ k S)) :
    OutM K ca H0 Wx W ρ σ H (x S) fun a S1 W1 H1 => OutS K ca H0 Wx mr W1 H1 Dn (k a S1) := by
  unfold sb at h
  match e : x S with
  | none => rw [e] at h; exact h
  | some (.error z, S') =>
    rw [e] at h
    exact fun W' H' cls od f R' xv => h W' H' σ cls od (Fut.s f R.h0) R' xv
  | some (.ok a, S') =>
    rw [e] at h
    exact fun W' H' f R' => OutS.later (Fut.s f R.h0) h
theorem OutS.nx (R : Rep K ca H0 W H σ ρ S) (h : OutS K ca H0 Wx mr W H Dn (some (.nx ρ, S))) : Dn.nx σ H := h W H σ (FutG.refl _ _) R
end
section
variable {X : Cx} {ca : Ca} {H0 : Bs} {Wx : WX} {mr : Md}
def bNil : SS := fun ρ S => some (.nx ρ, S)
def bSeq (f g : SS) : SS := fun ρ S => match f ρ S with
  | some (.nx ρ', S') => g ρ' S'
  | r => r
theorem dss_nil : DSs X ca H0 Wx mr [] bNil := PSs.imp pss_nil fun D σ H ⟨W, ρ, S, R, o⟩ => OutS.nx R o
theorem seq_of {f g : SS} {D : Ends} {σ : L2.St} {H : Hp} (h : tS X.K ca H0 Wx mr (bSeq f g) D σ H) : tSeq (tS X.K ca H0 Wx mr f) (tS X.K ca H0 Wx mr g) D σ H := by
  obtain ⟨W, ρ, S, R, o⟩ := h
  refine ⟨W, ρ, S, R, ?_⟩
  unfold bSeq at o
  match e : f ρ S with
  | none => rw [e] at o; exact o
  | some (.nx ρ', S') =>
    rw [e] at o
    exact fun W' H' σ' F R' => ⟨W', ρ', S', R', OutS.later F o⟩
  | some (.brk ρ', S') => rw [e] at o; exact o
  | some (.cnt ρ', S') => rw [e] at o; exact o
  | some (.ret d, S') => rw [e] at o; exact o
  | some (.exc ρ' x, S') => rw [e] at o; exact o
theorem dss_cons {st : Stmt} {rest : List Stmt} {f g : SS} (h1 : DS X ca H0 Wx mr st f) (h2 : DSs X ca H0 Wx mr rest g) : DSs X ca H0 Wx mr (st :: rest) (bSeq f g) :=
  PSs.imp (pss_cons h1 h2) fun D σ H h => seq_of h
theorem dss_one {st : Stmt} {f : SS} (h1 : DS X ca H0 Wx mr st f) : DSs X ca H0 Wx mr [st] f := pss_one h1
def bBrk : SS := fun ρ S => some (.brk ρ, S)
def bCnt : SS := fun ρ S => some (.cnt ρ, S)
theorem ds_pass {pos : Pos} : DS X ca H0 Wx mr (.Pass pos) bNil := PS.imp ps_pass fun D σ H ⟨W, ρ, S, R, o⟩ => OutS.nx R o
def bExpr (f : SE) : SS := fun ρ => sb (f ρ) ρ fun _ S => some (.nx ρ, S)
theorem ds_expr {e : Expr} {f : SE} {pos : Pos} (he : DE X ca H0 Wx .bor e f) (hs : swapsWith e none pos.line X.env = pure false := by rfl) : DS X ca H0 Wx mr (.Expr e pos) (bExpr f) :=
  PS.imp (ps_expr he hs) fun D σ H ⟨W, ρ, S, R, o⟩ => ⟨W, ρ, S, R, (OutS.bind R o).imp fun d S' W' H' F R' h v r => OutS.nx R' h⟩
def bRet (f : SE) : SS := fun ρ => sb (f ρ) ρ fun d S => some (.ret d, S)
theorem ds_ret {e : Expr} {f : SE} {pos : Pos} (he : DE X ca H0 Wx mr e f) : DS X ca H0 Wx mr (.Return (some e) pos) (bRet f) :=
  PS.imp (ps_ret he) fun D σ H ⟨W, ρ, S, R, o⟩ => ⟨W, ρ, S, R, (OutS.bind R o).imp fun d S' W' H' F R' h v r => h W' H' v (FutG.refl _ _) R'.w R'.s (DR.older R.h0 r)⟩
def Wd.drop (W : Wd) (a : Addr) : Wd := { W with ow := fun b => if b = a then none else W.ow b }
theorem drop_ow {W : Wd} {a b : Addr} (h : b ≠ a) : (W.drop a).ow b = W.ow b := if_neg h
theorem WOk.drop {W : Wd} {H : Hp} (w : WOk W H) (a : Addr) : WOk (W.drop a) H where
  sub := w.sub
  tup := w.tup
  dis := fun b p e => by
    by_cases h : b = a
    · subst h; rw [show (W.drop b).ow b = none from if_pos rfl] at e; cases e
    · rw [drop_ow h] at e; exact w.dis b p e
  dom := fun b p e => by
    by_cases h : b = a
    · subst h; rw [show (W.drop b).ow b = none from if_pos rfl] at e; cases e
    · rw [drop_ow h] at e; exact w.dom b p e
theorem RepS.drop {K : PySem.W.Frag} {W : Wd} {H : Hp} {S : Sto} {a : Addr} {i : Nat} (s : RepS K ca W H S) (ha : W.ow a = some (.slot i)) : RepS K ca (W.drop a) H S where
  at_ := fun n ob e => by
    obtain ⟨b, h1, h2, h3⟩ := s.at_ n ob e
    have hb : b ≠ a := fun z => by subst z; rw [ha] at h2; cases h2
    exact ⟨b, h1, by rw [drop_ow hb]; exact h2, h3.mono (fun _ h => h) (Same.refl _) fun _ _ h => h⟩
  fin := s.fin
theorem FutS.drop {W : Wd} {H : Hp} {a : Addr} {i : Nat} (ha : W.ow a = some (.slot i)) : FutS H0 W H (W.drop a) H where
  hf := Same.refl _
  ad := fun _ _ h => h
  keep := fun b o h hc => by
    have hb : b ≠ a := fun z => by subst z; rw [ha] at hc; cases hc
    exact ⟨h, drop_ow hb⟩
  new := fun b o h1 h2 => by rw [show (W.drop a).hf = W.hf from rfl, h2] at h1; cases h1
  dom := fun b o h => ⟨o, h⟩
def bRetN : SS := fun _ S => some (.ret .non, S)
def bIf (ft : ST) (f g : SS) : SS := fun ρ => sb (ft ρ) ρ fun k => if k = true then f ρ else g ρ
theorem ds_if {c : Expr} {a b : List Stmt} {fc : ST} {f g : SS} {pos : Pos} (hc : DT X ca H0 Wx c fc) (ha : DSs X ca H0 Wx mr a f) (hb : DSs X ca H0 Wx mr b g) : DS X ca H0 Wx mr (.If c a b pos) (bIf fc f g) := by
  refine PS.imp (ps_if hc ha hb) fun D σ H ⟨W, ρ, S, R, o⟩ => ⟨W, ρ, S, R, (OutS.bind R o).imp fun k S' W' H' F R' h => ?_⟩
  cases k with
  | true => exact iteT ⟨W', ρ, S', R', h⟩
  | false => exact iteF ⟨W', ρ, S', R', h⟩
def unlk : Option Sl → Bool
  | some (.lk _) => false
  | some _ => true
  | none => false
theorem Rep.set {K : PySem.W.Frag} {W : Wd} {H : Hp} {σ : L2.St} {ρ : Rho} {S : Sto} {i : Nat} {v : V} {x : Sl} (R : Rep K ca H0 W H σ ρ S) (h : SlotOk K ca H0 W H i (some v) x) : Rep K ca H0 W H (σ.set i (some v)) (ρ.set i x) S where
  w := R.w
  s := R.s
  len := by rw [List.length_set, List.length_set]; exact R.len
  sl := fun j y e => by
    by_cases hj : i = j
    · subst hj
      have hi : i < ρ.length := by
        have z := (List.getElem?_eq_some_iff.mp e).1
        rw [List.length_set] at z; exact z
      rw [List.getElem?_set_self hi] at e; cases e
      exact ⟨some v, List.getElem?_set_self (by rw [R.len]; exact hi), h⟩
    · rw [List.getElem?_set_ne hj] at e
      obtain ⟨u, h1, h2⟩ := R.sl j y e
      exact ⟨u, by rw [List.getElem?_set_ne hj]; exact h1, h2⟩
  h0 := R.h0
def bSet (i : Nat) (f : SE) : SS := fun ρ => sb (f ρ) ρ fun d S => if unlk ρ[i]? = true then some (.nx (ρ.set i (.val d)), S) else none
theorem ds_set {i : Nat} {x : Str} {e : Expr} {f : SE} {pos' pos : Pos} (hN : X.N.Nodup) (hi : X.N[i]? = some x) (hx : Loc X.env.scope x) (he : DE X ca H0 Wx .frz e f) (hs : swapsWith e (some (.Name x pos')) pos.line X.env = pure false := by rfl)
    (hf : X.fn x = true ∨ X.env.scope.names.lookup x = some .local := by first | exact .inl rfl | exact .inr rfl | assumption) : DS X ca H0 Wx mr (.Assign [.Name x pos'] e pos) (bSet i f) := by
  refine PS.imp (ps_set hN hi hx he hs hf) fun D σ H ⟨W, ρ, S, R, o⟩ => ⟨W, ρ, S, R, (OutS.bind R o).imp fun d S' W' H' F R' h v r => ?_⟩
  by_cases hu : unlk ρ[i]? = true
  · rw [if_pos hu] at h
    exact h W' H' _ (FutG.refl _ _) (R'.set ⟨v, rfl, r⟩)
  · rw [if_neg hu] at h; exact False.elim h
def isCont : D → Bool
  | .lst _ => true
  | .dK _ => true
  | .dT _ => true
  | _ => false
def bSetOwn (i : Nat) (f : SE) : SS := fun ρ => sb (f ρ) ρ fun d S => if (unlk ρ[i]? && isCont d) = true then some (.nx (ρ.set i (.own d)), S) else none
def Wd.take (W : Wd) (a : Addr) (p : Own) : Wd := { W with ow := fun b => if b = a then some p else W.ow b }
theorem take_ow {W : Wd} {a b : Addr} {p : Own} (h : b ≠ a) : (W.take a p).ow b = W.ow b := if_neg h
theorem Rep.take {K : PySem.W.Frag} {W : Wd} {H : Hp} {σ : L2.St} {ρ : Rho} {S : Sto} {a : Addr} {p : Own} {o : HO} (R : Rep K ca H0 W H σ ρ S) (h00 : H0 a = none) (h1 : W.hf a = none) (h2 : W.ow a = none) (h3 : H a = some o) : Rep K ca H0 (W.take a p) H σ ρ S where
  w := ⟨R.w.sub, R.w.tup, fun b q e => by
    by_cases h : b = a
    · subst h; exact h1
    · rw [take_ow h] at e; exact R.w.dis b q e, fun b q e => by
    by_cases h : b = a
    · subst h; exact ⟨o, h3⟩
    · rw [take_ow h] at e; exact R.w.dom b q e⟩
  s := ⟨fun n ob e => by
    obtain ⟨b, k1, k2, k3⟩ := R.s.at_ n ob e
    have hb : b ≠ a := fun z => by subst z; rw [h2] at k2; cases k2
    exact ⟨b, k1, by rw [take_ow hb]; exact k2, k3.mono (fun _ h => h) (Same.refl _) fun _ _ h => h⟩, R.s.fin⟩
  len := R.len
  sl := fun j y e => by
    obtain ⟨u, k1, k2⟩ := R.sl j y e
    refine ⟨u, k1, k2.mono (Same.refl _) (fun _ _ h => h) fun b o h hb => ⟨h, take_ow fun z => ?_⟩⟩
    subst z
    rcases hb with hb | hb | ⟨_, o2, hb⟩
    · rw [h2] at hb; cases hb
    · rw [h2] at hb; cases hb
    · rw [h00] at hb; cases hb
  h0 := R.h0
theorem OutS.bindO {α : Type} {K : PySem.W.Frag} {W : Wd} {H : Hp} {σ : L2.St} {ρ : Rho} {S : Sto} {Dn : Ends} {x : M α} {k : α → Sto → Option (SOut × Sto)} (R : Rep K ca H0 W H σ ρ S) (h : OutS K ca H0 Wx mr W H Dn (sb x ρ k S)) :
    OutM K ca H0 Wx W ρ σ H (x S) fun a S1 _ _ => OutS K ca H0 Wx mr W H Dn (k a S1) := by
  unfold sb at h
  match e : x S with
  | none => rw [e] at h; exact h
  | some (.error z, S') =>
    rw [e] at h
    exact fun W' H' cls od f R' xv => h W' H' σ cls od (Fut.s f R.h0) R' xv
  | some (.ok a, S') =>
    rw [e] at h
    exact fun W' H' f R' => h
theorem FutS.takeNew {W W1 : Wd} {H H1 : Hp} {a : Addr} {p : Own} (d : ∀ b o, H0 b = some o → ∃ o', H b = some o') (F : Fut W H W1 H1) (hn : H a = none) : FutS H0 W H (W1.take a p) H1 where
  hf := F.hf
  ad := F.ad
  keep := fun b o h hc => by
    have hb : b ≠ a := fun z => by subst z; rw [hn] at h; cases h
    obtain ⟨k1, k2⟩ := F.keep b o h (calmS_O hc)
    exact ⟨k1, (take_ow hb).trans k2⟩
  new := fun b o h1 h2 => none_of_dom d (FutG.new F b o h1 h2)
  dom := F.dom
theorem ds_setOwn {i : Nat} {x : Str} {e : Expr} {f : SE} {pos' pos : Pos} (hN : X.N.Nodup) (hi : X.N[i]? = some x) (hx : Loc X.env.scope x) (he : DE X ca H0 Wx .fre e f) (hs : swapsWith e (some (.Name x pos')) pos.line X.env = pure false := by rfl)
    (hf : X.fn x = true ∨ X.env.scope.names.lookup x = some .local := by first | exact .inl rfl | exact .inr rfl | assumption) : DS X ca H0 Wx mr (.Assign [.Name x pos'] e pos) (bSetOwn i f) := by
  refine PS.imp (ps_set hN hi hx he hs hf) fun D σ H ⟨W, ρ, S, R, o⟩ => ⟨W, ρ, S, R, (OutS.bindO R o).imp fun d S' W' H' F R' h v r => ?_⟩
  by_cases hu : (unlk ρ[i]? && isCont d) = true
  · rw [if_pos hu] at h
    have hc := (Bool.and_eq_true_iff.mp hu).2
    have go : ∀ {a : Addr} {u : HO}, H a = none → W'.hf a = none → W'.ow a = none → H' a = some u → Cont X.K ca (W'.take a (.slot i)) H' a d → D.nx (σ.set i (some (.ref a))) H' := fun {a u} h1 h2 h3 h4 h5 =>
      h _ _ _ (FutS.takeNew R.h0 F h1) ((R'.take (none_of_dom R.h0 h1) h2 h3 h4).set ⟨a, rfl, if_pos rfl, none_of_dom R.h0 h1, h5⟩)
    cases d with
    | lst ds => obtain ⟨a, vs, e, h1, h2, h3, h4, q⟩ := r; subst e; exact go h1 h2 h3 h4 ⟨vs, h4, q⟩
    | dK ds => obtain ⟨a, vs, e, h1, h2, h3, h4, q⟩ := r; subst e; exact go h1 h2 h3 h4 ⟨vs, h4, q⟩
    | dT ds => obtain ⟨a, vs, e, h1, h2, h3, h4, q⟩ := r; subst e; exact go h1 h2 h3 h4 ⟨vs, h4, q⟩
    | _ => cases hc
  · rw [if_neg hu] at h; exact False.elim h
def obOf : D → Option Ob
  | .lst l => some (.lst l)
  | .dK l => some (.dK l)
  | .dT l => some (.dT l)
  | _ => none
def Wd.more (W : Wd) (n : Nat) (a : Addr) : Wd := { W with ow := fun b => if b = a then some (.ob n) else W.ow b, ad := fun k => if k = n then some a else W.ad k }
theorem Rep.more {K : PySem.W.Frag} {W : Wd} {H : Hp} {σ : L2.St} {ρ : Rho} {S : Sto} {a : Addr} {ob : Ob} {o : HO} (R : Rep K ca H0 W H σ ρ S) (h00 : H0 a = none) (h1 : W.hf a = none) (h2 : W.ow a = none) (h3 : H a = some o) (h4 : ObOk K ca W H a ob) : Rep K ca H0 (W.more S.length a) H σ ρ (S ++ [ob]) := by
  have m : ∀ n x, W.ad n = some x → (W.more S.length a).ad n = some x := fun n x e => by
    have hn : n ≠ S.length := fun z => by
      subst z
      rw [R.s.fin _ (Nat.le_refl _)] at e; cases e
    show (if n = S.length then some a else W.ad n) = some x
    rw [if_neg hn]; exact e
  have ow : ∀ b, b ≠ a → (W.more S.length a).ow b = W.ow b := fun b h => if_neg h
  refine ⟨⟨R.w.sub, R.w.tup, fun b q e => ?_, fun b q e => ?_⟩, ⟨fun n ob' e => ?_, fun n hn => ?_⟩, R.len, fun j y e => ?_, R.h0⟩
  · by_cases h : b = a
    · subst h; exact h1
    · rw [ow b h] at e; exact R.w.dis b q e
  · by_cases h : b = a
    · subst h; exact ⟨o, h3⟩
    · rw [ow b h] at e; exact R.w.dom b q e
  · by_cases hn : n < S.length
    · rw [List.getElem?_append_left hn] at e
      obtain ⟨b, k1, k2, k3⟩ := R.s.at_ n ob' e
      have hb : b ≠ a := fun z => by subst z; rw [h2] at k2; cases k2
      exact ⟨b, m n b k1, by rw [ow b hb]; exact k2, k3.mono (fun _ h => h) (Same.refl _) m⟩
    · rw [List.getElem?_append_right (by omega)] at e
      have hz : n - S.length = 0 := by
        by_cases z : n - S.length = 0
        · exact z
        · rw [List.getElem?_eq_none (by simp; omega)] at e; cases e
      rw [hz] at e
      have e' : ob = ob' := Option.some.inj e
      subst e'
      have en : n = S.length := by omega
      subst en
      exact ⟨a, if_pos rfl, if_pos rfl, h4.mono (fun _ h => h) (Same.refl _) m⟩
  · show (if n = S.length then some a else W.ad n) = none
    rw [List.length_append, List.length_singleton] at hn
    rw [if_neg (by omega)]
    exact R.s.fin n (by omega)
  · obtain ⟨u, k1, k2⟩ := R.sl j y e
    refine ⟨u, k1, k2.mono (Same.refl _) m fun b o h hb => ⟨h, ow b fun z => ?_⟩⟩
    subst z
    rcases hb with hb | hb | ⟨_, o2, hb⟩
    · rw [h2] at hb; cases hb
    · rw [h2] at hb; cases hb
    · rw [h00] at hb; cases hb
theorem FutS.moreNew {K : PySem.W.Frag} {W W1 : Wd} {H H1 : Hp} {a : Addr} {S : Sto} (d : ∀ b o, H0 b = some o → ∃ o', H b = some o') (s : RepS K ca W1 H1 S) (F : Fut W H W1 H1) (hn : H a = none) : FutS H0 W H (W1.more S.length a) H1 where
  hf := F.hf
  ad := fun n x e => by
    have e1 := F.ad n x e
    have hn : n ≠ S.length := fun z => by
      subst z
      rw [s.fin _ (Nat.le_refl _)] at e1; cases e1
    show (if n = S.length then some a else W1.ad n) = some x
    rw [if_neg hn]; exact e1
  keep := fun b o h hc => by
    have hb : b ≠ a := fun z => by subst z; rw [hn] at h; cases h
    obtain ⟨k1, k2⟩ := F.keep b o h (calmS_O hc)
    exact ⟨k1, (show (W1.more S.length a).ow b = W1.ow b from if_neg hb).trans k2⟩
  new := fun b o h1 h2 => none_of_dom d (FutG.new F b o h1 h2)
  dom := F.dom
end
end DL
namespace DL
open PySem PySem.Spec PyProof.Rows L2
abbrev CXP (P : Program) (w : World) : CXT := L2.CX P w
structure FnG (P : Program) (w : World) (K : PySem.W.Frag) (mg : Str → Option Value) (base : Heap) (k : Nat) (f : Addr) (fd : FuncData) (ps : List Str) (sp : Sp) : Prop where
  len : ∀ vs H Q E, sp vs H Q E → vs.length = ps.length
  go : ∀ (A : Around) (outer : List Env) (s : Shared) (H : Hp) (args : Args) (us : List Value) (vs : List V) (Q : VK) (E : XK), A.guards = some [] → Room k A →
    Env0 P w K mg base A outer s H → BindsTo s fd args (ps.zip us) → Vals vs us → sp vs H Q E → codeAny (model P w) A (.call (.ref f) args) (CR (CXP P w) outer P w H s Q E) s
theorem FnG.mono {P : Program} {w : World} {K : PySem.W.Frag} {mg : Str → Option Value} {base : Heap} {j k : Nat} {f : Addr} {fd : FuncData} {ps : List Str} {sp : Sp} (F : FnG P w K mg base j f fd ps sp) (h : j ≤ k) : FnG P w K mg base k f fd ps sp :=
  ⟨F.len, fun A outer s H args us vs Q E hg hr => F.go A outer s H args us vs Q E hg (hr.mono h)⟩
section
variable {P : Program} {w : World} {K : PySem.W.Frag} {mg : Str → Option Value} {base : Heap} {x qual : Str} {params : Arguments} {body : List Stmt} {scope : Scope} {dvs : List V} {kws : List (Str × V)} {f : Addr} {fd : FuncData}
theorem FunD.okG {N ps : List Str} {k : Nat} {sp : Sp} (F : FunD K x qual params body scope dvs kws f fd) (S : FnScope N ps scope) (len : ∀ vs H Q E, sp vs H Q E → vs.length = ps.length)
    (hb : ∀ (cdv : Value) (A : Around) (outer : List Env) (s : Shared) (H : Hp) (vs : List V) (Q : VK) (E : XK), A.guards = some [] → Room k (A.deeper (envOfC qual scope s.heap.objs.size f cdv)) → sp vs H Q E →
      ∃ t, PSs (cxOf (CXP P w) P w K mg base N qual scope f cdv A outer s H E) body t ∧ t { nx := fun _ H' => Q .non H', rt := Q } (L2.start N vs) H) : FnG P w K mg base (k + 1) f fd ps sp := by
  obtain ⟨oc, od, dV, kV, doc, pm, an, cdv, ct, osl, rfl, lk, hcd, _, _⟩ := F.ex
  refine ⟨len, ?_⟩
  intro A outer s H args us vs Q E hg hr e0 hbi r hsp
  have inb : ∀ b o, base.get? b = some o → s.heap.get? b = some o := fun b o e => (e0.bs b o e).1
  have kx : K.In s.heap := e0.mod.kin.keeps inb
  have nl : s.heap.NoLimit := e0.mod.nolimit.keeps inb
  have kinds : ∀ y ∈ ps.zip us, scope.names.lookup y.1 = some .local ∨ (scope.names.lookup y.1 = some .cell ∧ ((cellsFrom (s.heap.objs.size + 1) scope.names []).lookup y.1).isSome = true) := by
    rintro ⟨n, v⟩ hy
    cases S.par n (List.of_mem_zip hy).1 with
    | inl q => exact .inl q
    | inr q => exact .inr ⟨q, PySem.W.cellsFrom_some _ _ _ (.inl q)⟩
  refine codeAny_call_function hr.depth (kx _ _ lk) rfl S.co S.gen rfl (PySem.W.codeRec_of kx hcd) (hbi _ _ _ _ (wpAny_newFunctionEnv_cells S.kind kinds fun env ee s1 xx => ?_))
  cases ee
  refine ⟨nl.keeps xx.toInCall.keep, codeAny_func ?_⟩
  obtain ⟨t, ht, hq⟩ := hb cdv A outer s H vs Q E hg (hr.deeper _) hsp
  have I0 := inv_start (CX := CXP P w) (E := E) (cd := cdv) S hr.hd e0 (len _ _ _ _ hsp) r xx
  refine wpAny_mono (ht.run [] s1 (L2.start N vs) H _ I0 hq) (fun fl s' hs => ?_) fun e s' hs => hs
  cases fl with
  | ret u => obtain ⟨v, σ', H', J, rv, q⟩ := hs; exact ⟨v, H', J.os, J.bare, J.base, J.hok, rv, q⟩
  | next => obtain ⟨σ', H', J, q⟩ := hs; exact ⟨V.non, H', J.os, J.bare, J.base, J.hok, rfl, q⟩
  | brk => exact hs.elim fun _ z => z.elim fun _ z => z.2.elim
  | cont => exact hs.elim fun _ z => z.elim fun _ z => z.2.elim
end
theorem run_G {X : Cx} {k : Nat} {f : Addr} {fd : FuncData} {ps : List Str} {sp : Sp} {dvs : List V} {ds : List Value} {E : L2.St → XK} {pins : List (Addr × Obj)} {σ : L2.St} {H : Hp} {s : Shared} {Q : VK} {us : List Value} {vs : List V}
    (F : FnG X.prog X.w X.K X.mg X.base k f fd ps sp) (hg : X.A.guards = some []) (hr : Room k X.A) (hb : Binds X.K fd ps ds) (hd : Vals dvs ds) (hx : PassesAt (CXP X.prog X.w) X σ (E σ))
    (I : Inv X pins σ H s) (r : Vals vs us) (h : sp (vs ++ dvs) H Q (E σ)) : wpAny (model X.prog X.w) X.A (call (.ref f) us) (EP X pins σ Q) X.xe s := by
  have r2 := r.append hd
  have hl : (us ++ ds).length = ps.length := r2.length.symm.trans (F.len _ _ _ _ h)
  refine wpAny_call (codeAny_mono (F.go X.A X.stack s H ⟨us, []⟩ (us ++ ds) (vs ++ dvs) Q (E σ) hg hr I.env0 (hb s us I.kIn hl) r2 h) ?_)
  intro res s' hq
  match res, hq with
  | .error e, hq => exact hx pins H s e s' I hq
  | .ok (.ret u), hq => exact I.after hq
theorem pe_callG {X : Cx} {k : Nat} {f : Addr} {fd : FuncData} {ps : List Str} {sp : Sp} {dvs : List V} {ds : List Value} {E : L2.St → XK} {x : Str} {p pos : Pos} {e : Expr} {es : List Expr} {t : TA}
    (F : FnG X.prog X.w X.K X.mg X.base k f fd ps sp) (hG : X.A.guards = some []) (hr : Room k X.A) (hg : Gl X x) (hm : X.mg x = some (.ref f)) (hk : W.keepIn X.K (.ref f) = true) (hb : Binds X.K fd ps ds) (hd : Vals dvs ds) (hx : ∀ σ, PassesAt (CXP X.prog X.w) X σ (E σ))
    (ha : PA X (e :: es) t) (hdb : (x == ("__debug__" : Str)) = false := by decide) (he : starEach (e :: es) X.env = (false, eval e X.env) :: starEach es X.env := by rfl) (hpl : (backTo pos (starEach es X.env)).any (·.1) = false := by rfl) :
    PE X (.Call (.Name x p) (e :: es) [] pos) (tCallSD sp dvs E t) :=
  ⟨fun pins s σ H Q I h => wpAny_Call_Name_kw (ld_glob I hg hm (PySem.W.callWith_K (h₀ := X.base) I.ok.mod.kin hk (thn (ha.run pos pins s σ H _ I h) fun us s1 ⟨vs, H1, I1, r, q⟩ =>
    ⟨I1.kIn, run_G F hG hr hb hd (hx σ) I1 r q⟩) he hpl) hdb)⟩
abbrev Sem1 := List D → Sto → Option (Except Xc D × Sto)
section
variable (K : PySem.W.Frag) (ca : Ca)
def OutF (mr : Md) (W : Wd) (H : Hp) (r : Option (Except Xc D × Sto)) (Q : VK) (E : XK) : Prop :=
  match r with
  | none => False
  | some (.ok d, S') => ∀ W' H' v, Fut W H W' H' → WOk W' H' → RepS K ca W' H' S' → DR K ca mr H W' H' v d → Q v H'
  | some (.error x, S') => ∀ W' H' cls od, Fut W H W' H' → WOk W' H' → RepS K ca W' H' S' → XV K ca W' H' cls od x → E cls od H'
inductive Bos (W : Wd) (H : Hp) : List Bool → List V → List D → Prop
  | nil : Bos W H [] [] []
  | kept {ms : List Bool} {v : V} {vs : List V} {d : D} {ds : List D} : DV K ca W.hf W.ad v d → Bos W H ms vs ds → Bos W H (true :: ms) (v :: vs) (d :: ds)
  | look {ms : List Bool} {v : V} {vs : List V} {d : D} {ds : List D} : Bo K ca H W H v d → Bos W H ms vs ds → Bos W H (false :: ms) (v :: vs) (d :: ds)
def spD (ms : List Bool) (mr : Md) (sem : Sem1) : Sp := fun vs H Q E => ∃ W ds S, WOk W H ∧ RepS K ca W H S ∧ (∀ a p, W.ow a = some p → calmO (some p) = false) ∧ Bos K ca W H ms vs ds ∧ OutF K ca mr W H (sem ds S) Q E
end
def parSl : List Bool → List D → Rho
  | true :: ms, d :: ds => .val d :: parSl ms ds
  | false :: ms, d :: ds => .bo d :: parSl ms ds
  | _, _ => []
section
variable {K : PySem.W.Frag} {ca : Ca} {W : Wd} {H : Hp}
theorem Bos.length : ∀ {ms : List Bool} {vs : List V} {ds : List D}, Bos K ca W H ms vs ds → vs.length = ds.length ∧ ds.length = ms.length ∧ (parSl ms ds).length = ds.length
  | _, _, _, .nil => ⟨rfl, rfl, rfl⟩
  | _, _, _, .kept _ r => ⟨congrArg (· + 1) (Bos.length r).1, congrArg (· + 1) (Bos.length r).2.1, congrArg (· + 1) (Bos.length r).2.2⟩
  | _, _, _, .look _ r => ⟨congrArg (· + 1) (Bos.length r).1, congrArg (· + 1) (Bos.length r).2.1, congrArg (· + 1) (Bos.length r).2.2⟩
theorem Bos.get {x : Sl} : ∀ {ms : List Bool} {vs : List V} {ds : List D} {i : Nat}, Bos K ca W H ms vs ds → (parSl ms ds)[i]? = some x → ∃ v, vs[i]? = some v ∧ ∀ j, SlotOk K ca ⟨H, none⟩ W H j (some v) x
  | _, _, _, i, .nil, e => by simp [parSl] at e
  | _, _, _, 0, .kept (v := v) q r, e => by
    cases e
    exact ⟨v, rfl, fun _ => ⟨v, rfl, q⟩⟩
  | _, _, _, 0, .look (v := v) q r, e => by
    cases e
    exact ⟨v, rfl, fun _ => ⟨v, rfl, q⟩⟩
  | _, _, _, i + 1, .kept q r, e => by
    obtain ⟨v, h1, h2⟩ := Bos.get (x := x) (i := i) r (by simpa [parSl] using e)
    exact ⟨v, by simpa using h1, h2⟩
  | _, _, _, i + 1, .look q r, e => by
    obtain ⟨v, h1, h2⟩ := Bos.get (x := x) (i := i) r (by simpa [parSl] using e)
    exact ⟨v, by simpa using h1, h2⟩
theorem Bos.app : ∀ {ms ns : List Bool} {vs ws : List V} {ds es : List D}, Bos K ca W H ms vs ds → Bos K ca W H ns ws es → Bos K ca W H (ms ++ ns) (vs ++ ws) (ds ++ es)
  | _, _, _, _, _, _, .nil, s => s
  | _, _, _, _, _, _, .kept q r, s => .kept q (Bos.app r s)
  | _, _, _, _, _, _, .look q r, s => .look q (Bos.app r s)
end
def semB (ms : List Bool) (n : Nat) (f : SS) : Sem1 := fun ds S => match f (parSl ms ds ++ List.replicate (n - ds.length) Sl.no) S with
  | none => none
  | some (.nx _, S') => some (.ok .non, S')
  | some (.ret d, S') => some (.ok d, S')
  | some (.exc _ x, S') => some (.error x, S')
  | some (.brk _, _) => none
  | some (.cnt _, _) => none
theorem start_get {N : List Str} {vs : List V} {i : Nat} (h : i < vs.length) : (L2.start N vs)[i]? = some vs[i]? := by
  unfold L2.start
  rw [List.getElem?_append_left (by rw [List.length_map]; exact h), List.getElem?_map]
  rw [List.getElem?_eq_getElem h]; rfl
theorem okD {P : Program} {w : World} {K : PySem.W.Frag} {mg : Str → Option Value} {base : Heap} {x qual : Str} {params : Arguments} {body : List Stmt} {scope : Scope} {dvs : List V} {kws : List (Str × V)} {f : Addr} {fd : FuncData} {ca : Ca} {mr : Md} (ms : List Bool)
    {N ps : List Str} {k : Nat} {fb : SS} (F : FunD K x qual params body scope dvs kws f fd) (S : FnScope N ps scope) (hms : ms.length = ps.length)
    (hb : ∀ (cdv : Value) (A : Around) (outer : List Env) (s : Shared) (H : Hp) (E : XK), A.guards = some [] → Room k (A.deeper (envOfC qual scope s.heap.objs.size f cdv)) →
      DSs (cxOf (CXP P w) P w K mg base N qual scope f cdv A outer s H E) ca ⟨H, none⟩ (fun cls d _ H' => E cls d H') mr body fb) (hmr : mr = .frz ∨ mr = .fre := by first | exact .inl rfl | exact .inr rfl) : FnG P w K mg base (k + 1) f fd ps (spD K ca ms mr (semB ms N.length fb)) := by
  refine FunD.okG F S (fun vs H Q E h => ?_) fun cdv A outer s H vs Q E hg hr h => ⟨_, hb cdv A outer s H E hg hr, ?_⟩
  · obtain ⟨W, ds, S', w1, s1, c1, q, _⟩ := h
    rw [q.length.1, q.length.2.1]; exact hms
  · obtain ⟨W, ds, S0, w1, s1, c1, q, o⟩ := h
    obtain ⟨l1, l2, l3⟩ := q.length
    have hpl : ps.length ≤ N.length := by have := congrArg List.length S.pre; rw [List.length_take] at this; omega
    refine ⟨W, parSl ms ds ++ List.replicate (N.length - ds.length) Sl.no, S0, ⟨w1, s1, ?_, fun i y e => ?_, fun a o h => ⟨o, h⟩⟩, ?_⟩
    · unfold L2.start
      rw [List.length_append, List.length_append, List.length_map, l3, List.length_replicate, List.length_replicate, l1]
    · by_cases hi : i < ds.length
      · rw [List.getElem?_append_left (by rw [l3]; exact hi)] at e
        obtain ⟨v, h1, h2⟩ := q.get e
        exact ⟨some v, by rw [start_get (by rw [l1]; exact hi), h1], h2 i⟩
      · rw [List.getElem?_append_right (by rw [l3]; omega), l3, List.getElem?_replicate] at e
        by_cases hz : i - ds.length < N.length - ds.length
        · rw [if_pos hz] at e; cases e
          refine ⟨none, ?_, trivial⟩
          unfold L2.start
          rw [List.getElem?_append_right (by rw [List.length_map, l1]; omega), List.length_map, l1, List.getElem?_replicate, if_pos hz]
        · rw [if_neg hz] at e; cases e
    · have fut : ∀ {W' : Wd} {H' : Hp}, FutS ⟨H, none⟩ W H W' H' → Fut W H W' H' := fun {W' H'} F => ⟨F.hf, F.ad, fun a o h hc => F.keep a o h (by
        cases e : W.ow a with
        | none => rfl
        | some p => rw [e, c1 a p e] at hc; cases hc), FutG.new F, F.dom⟩
      unfold semB at o
      match e : fb (parSl ms ds ++ List.replicate (N.length - ds.length) Sl.no) S0 with
      | none => rw [e] at o; exact o
      | some (.nx _, S') => rw [e] at o; exact fun W' H' σ' F R' => o W' H' .non (fut F) R'.w R'.s (DR.scal rfl .non)
      | some (.ret d, S') => rw [e] at o; exact fun W' H' v F w' s' r => o W' H' v (fut F) w' s' r
      | some (.exc _ z, S') => rw [e] at o; exact fun W' H' σ' cls od F R' xv => o W' H' cls od (fut F) R'.w R'.s xv
      | some (.brk _, _) => rw [e] at o; exact o.elim
      | some (.cnt _, _) => rw [e] at o; exact o.elim
theorem FnG.sem {P : Program} {w : World} {K : PySem.W.Frag} {mg : Str → Option Value} {base : Heap} {k : Nat} {f : Addr} {fd : FuncData} {ps : List Str} {ca : Ca} {ms : List Bool} {mr : Md} {sem sem' : Sem1} (F : FnG P w K mg base k f fd ps (spD K ca ms mr sem))
    (h : ∀ ds S r, sem' ds S = some r → sem ds S = some r) : FnG P w K mg base k f fd ps (spD K ca ms mr sem') :=
  have i : ∀ vs H Q E, spD K ca ms mr sem' vs H Q E → spD K ca ms mr sem vs H Q E := fun vs H Q E ⟨W, ds, S, a1, a2, a3, a4, o⟩ => ⟨W, ds, S, a1, a2, a3, a4, by
    cases e : sem' ds S with
    | none => rw [e] at o; exact o.elim
    | some r => rw [e] at o; rw [h ds S r e]; exact o⟩
  ⟨fun vs H Q E q => F.len vs H Q E (i _ _ _ _ q), fun A outer s H args us vs Q E hg hr e0 hb r q => F.go A outer s H args us vs Q E hg hr e0 hb r (i _ _ _ _ q)⟩
section
variable (K : PySem.W.Frag) (ca : Ca) (H0 : Bs) (Wx : WX)
inductive DRm (H : Hp) (W : Wd) (H' : Hp) : List Md → List V → List D → Prop
  | nil : DRm H W H' [] [] []
  | cons {m : Md} {ms : List Md} {v : V} {vs : List V} {d : D} {ds : List D} : DR K ca m H W H' v d → DRm H W H' ms vs ds → DRm H W H' (m :: ms) (v :: vs) (d :: ds)
def tAm (ms : List Md) (f : SA) : TA := fun σ H Q => ∃ W ρ S, Rep K ca H0 W H σ ρ S ∧ OutM K ca H0 Wx W ρ σ H (f ρ S) fun ds _ W' H' => ∀ vs, DRm K ca H W' H' ms vs ds → Q vs H'
end
abbrev DAm (X : Cx) (ca : Ca) (H0 : Bs) (Wx : WX) (ms : List Md) (es : List Expr) (f : SA) : Prop := PA X es (tAm X.K ca H0 Wx ms f)
def pmd : Bool → Md
  | true => .frz
  | false => .bor
section
variable {X : Cx} {ca : Ca} {H0 : Bs} {Wx : WX}
theorem DRm.older {K : PySem.W.Frag} {H H1 H2 : Hp} {W1 : Wd} (dm : ∀ a o, H a = some o → ∃ o', H1 a = some o') : ∀ {ms : List Md} {vs : List V} {ds : List D}, DRm K ca H1 W1 H2 ms vs ds → DRm K ca H W1 H2 ms vs ds
  | _, _, _, .nil => .nil
  | _, _, _, .cons q r => .cons (DR.older dm q) (DRm.older dm r)
theorem dam_nil : DAm X ca H0 Wx [] [] sNil := PA.imp pa_nil fun σ H Q ⟨W, ρ, S, R, o⟩ => OutM.re R o [] .nil
theorem dam_cons {m : Md} {ms : List Md} {e : Expr} {es : List Expr} {fe : SE} {fr : SA} (he : DE X ca H0 Wx m e fe) (hr : DAm X ca H0 Wx ms es fr) (hm : m ≠ .fre := by decide) (hs : starEach (e :: es) X.env = (false, eval e X.env) :: starEach es X.env := by rfl) : DAm X ca H0 Wx (m :: ms) (e :: es) (sCons fe fr) := by
  refine PA.imp (pa_cons he hr hs) fun σ H Q ⟨W, ρ, S, R, o⟩ => ⟨W, ρ, S, R, (OutM.bind o).imp fun d S1 W1 H1 F1 R1 h1 x D1 => ⟨W1, ρ, S1, R1, (OutM.bind h1).imp fun ds S2 W2 H2 F2 R2 h2 xs D2 => ?_⟩⟩
  exact OutM.re R2 h2 (x :: xs) (.cons (DR.later hm F2 D1) (DRm.older F1.dom D2))
end
def Wd.cal (W : Wd) : Wd := { W with ow := fun a => if calmO (W.ow a) = true then none else W.ow a }
theorem cal_calm {W : Wd} {a : Addr} (h : calmO (W.ow a) = true) : W.cal.ow a = none := if_pos h
theorem cal_ob {W : Wd} {a : Addr} (h : calmO (W.ow a) = false) : W.cal.ow a = W.ow a := if_neg (by rw [h]; exact Bool.false_ne_true)
def Wd.back (W W' : Wd) : Wd := { W' with ow := fun a => if calmO (W.ow a) = true then (match W.ow a with | none => W'.ow a | p => p) else W'.ow a }
section
variable {K : PySem.W.Frag} {ca : Ca} {H0 : Bs} {H H' : Hp} {W W' : Wd} {σ : L2.St} {ρ : Rho} {S S' : Sto}
theorem back_none {a : Addr} (h : W.ow a = none) : (W.back W').ow a = W'.ow a := by
  show (if calmO (W.ow a) = true then (match W.ow a with | none => W'.ow a | p => p) else W'.ow a) = _
  rw [h]; rfl
theorem back_ob {a : Addr} (h : calmO (W.ow a) = false) : (W.back W').ow a = W'.ow a := if_neg (by rw [h]; exact Bool.false_ne_true)
theorem back_own {a : Addr} {p : Own} (h : W.ow a = some p) (c : calmO (some p) = true) : (W.back W').ow a = some p := by
  show (if calmO (W.ow a) = true then (match W.ow a with | none => W'.ow a | p => p) else W'.ow a) = _
  rw [h, if_pos c]
theorem WOk.cal (w : WOk W H) : WOk W.cal H where
  sub := w.sub
  tup := w.tup
  dis := fun a p e => by
    by_cases h : calmO (W.ow a) = true
    · rw [cal_calm h] at e; cases e
    · rw [cal_ob (by simpa using h)] at e; exact w.dis a p e
  dom := fun a p e => by
    by_cases h : calmO (W.ow a) = true
    · rw [cal_calm h] at e; cases e
    · rw [cal_ob (by simpa using h)] at e; exact w.dom a p e
theorem RepS.cal (s : RepS K ca W H S) : RepS K ca W.cal H S where
  at_ := fun n ob e => by
    obtain ⟨a, h1, h2, h3⟩ := s.at_ n ob e
    exact ⟨a, h1, by rw [cal_ob (by rw [h2]; rfl)]; exact h2, h3.mono (fun _ h => h) (Same.refl _) fun _ _ h => h⟩
  fin := s.fin
theorem back_at (F : Fut W.cal H W' H') (w : WOk W H) {a : Addr} (h : (W.back W').ow a ≠ W'.ow a) : ∃ p, W.ow a = some p ∧ calmO (some p) = true ∧ (W.back W').ow a = some p ∧ W'.ow a = none ∧ W'.hf a = none ∧ ∃ o, H a = some o ∧ H' a = some o := by
  cases e : W.ow a with
  | none => exact absurd (back_none e) h
  | some p =>
    by_cases c : calmO (some p) = true
    · obtain ⟨o, ho⟩ := w.dom a p e
      have hc : W.cal.ow a = none := cal_calm (by rw [e]; exact c)
      obtain ⟨k1, k2⟩ := F.keep a o ho (by rw [hc]; rfl)
      refine ⟨p, rfl, c, back_own e c, k2.trans hc, ?_, o, ho, k1⟩
      cases q : W'.hf a with
      | none => rfl
      | some u =>
        have z := FutG.new F a u q (show W.hf a = none from w.dis a p e)
        rw [ho] at z; cases z
    · exact absurd (back_ob (by rw [e]; simpa using c)) h
theorem Fut.back (F : Fut W.cal H W' H') (w : WOk W H) : Fut W H (W.back W') H' where
  hf := F.hf
  ad := F.ad
  keep := fun a o h hc => by
    obtain ⟨k1, k2⟩ := F.keep a o h (by rw [cal_calm hc]; rfl)
    refine ⟨k1, ?_⟩
    cases e : W.ow a with
    | none => rw [back_none e, k2, cal_calm hc]
    | some p => exact back_own e (by rw [← e]; exact hc)
  new := fun a o h1 h2 => FutG.new F a o h1 h2
  dom := F.dom
theorem Rep.back (R : Rep K ca H0 W H σ ρ S) (F : Fut W.cal H W' H') (w' : WOk W' H') (s' : RepS K ca W' H' S') : Rep K ca H0 (W.back W') H' σ ρ S' where
  w := ⟨w'.sub, w'.tup, fun a p e => by
    by_cases h : (W.back W').ow a = W'.ow a
    · rw [h] at e; exact w'.dis a p e
    · obtain ⟨_, _, _, _, _, z, _⟩ := back_at F R.w h; exact z, fun a p e => by
    by_cases h : (W.back W').ow a = W'.ow a
    · rw [h] at e; exact w'.dom a p e
    · obtain ⟨_, _, _, _, _, _, o, _, z⟩ := back_at F R.w h; exact ⟨o, z⟩⟩
  s := ⟨fun n ob e => by
    obtain ⟨a, h1, h2, h3⟩ := s'.at_ n ob e
    have h : (W.back W').ow a = W'.ow a := by
      by_cases h : (W.back W').ow a = W'.ow a
      · exact h
      · obtain ⟨_, _, _, _, z, _⟩ := back_at F R.w h
        rw [h2] at z; cases z
    exact ⟨a, h1, h.trans h2, h3.mono (fun _ h => h) (Same.refl _) fun _ _ h => h⟩, s'.fin⟩
  len := R.len
  sl := fun i x e => by
    obtain ⟨v, h1, h2⟩ := R.sl i x e
    have G := Fut.back F R.w
    refine ⟨v, h1, h2.mono F.hf F.ad fun b o hb hp => G.keep b o hb ?_⟩
    rcases hp with hp | hp | hp
    · rw [hp]; rfl
    · rw [hp]; rfl
    · exact calmS_O hp.1
  h0 := fun a o e => by
    obtain ⟨o', h⟩ := R.h0 a o e
    exact F.dom a o' h
theorem DR.back {m : Md} {v : V} {d : D} (hm : m = .frz ∨ m = .fre) (w : WOk W H) (r : DR K ca m H W' H' v d) : DR K ca m H (W.back W') H' v d := by
  have go : ∀ {a : Addr}, H a = none → (W.back W').ow a = W'.ow a := fun {a} h => back_none (w.free h).2
  cases m with
  | bor => rcases hm with h | h <;> cases h
  | sta => rcases hm with h | h <;> cases h
  | frz => exact r
  | fre =>
    cases d with
    | lst l => obtain ⟨a, vs, e, h1, h2, h3, q⟩ := r; exact ⟨a, vs, e, h1, h2, (go h1).trans h3, q⟩
    | dK l => obtain ⟨a, vs, e, h1, h2, h3, q⟩ := r; exact ⟨a, vs, e, h1, h2, (go h1).trans h3, q⟩
    | dT l => obtain ⟨a, vs, e, h1, h2, h3, q⟩ := r; exact ⟨a, vs, e, h1, h2, (go h1).trans h3, q⟩
    | _ => exact r
theorem Bo.arg {Hb : Hp} {v : V} {d : D} (w : WOk W H) (r : DR K ca .bor Hb W H v d) : Bo K ca H W.cal H v d := by
  have go : ∀ {a : Addr}, calmO (W.ow a) = true → calmS (W.cal.ow a) = true := fun {a} h => by rw [cal_calm h]; rfl
  cases d with
  | lst l => obtain ⟨a, vs, e, h1, h2, q⟩ := r; exact ⟨a, vs, e, h1, go h2, ⟨_, h1⟩, q⟩
  | dK l => obtain ⟨a, vs, e, h1, h2, q⟩ := r; exact ⟨a, vs, e, h1, go h2, ⟨_, h1⟩, q⟩
  | dT l => obtain ⟨a, vs, e, h1, h2, q⟩ := r; exact ⟨a, vs, e, h1, go h2, ⟨_, h1⟩, q⟩
  | _ => exact r
theorem Bos.args {Hb : Hp} (w : WOk W H) : ∀ {ms : List Bool} {vs : List V} {ds : List D}, DRm K ca Hb W H (ms.map pmd) vs ds → Bos K ca W.cal H ms vs ds
  | [], _, _, .nil => .nil
  | true :: _, _, _, .cons q r => .kept q (Bos.args w r)
  | false :: _, _, _, .cons q r => .look (Bo.arg w q) (Bos.args w r)
theorem Bos.cons_ {W : Wd} {H : Hp} (ms : List Bool) : ∀ {vs : List V} {ds : List D}, ms.length = ds.length → DVs K ca (fun _ => none) (fun _ => none) vs ds → ds.all isScal = true → Bos K ca W H ms vs ds := by
  induction ms with
  | nil =>
    intro vs ds hl q _
    cases q with
    | nil => exact .nil
    | cons _ _ => cases hl
  | cons m ms ih =>
    intro vs ds hl q e
    cases q with
    | nil => cases hl
    | @cons v vs d ds q r =>
      rw [List.all_cons, Bool.and_eq_true] at e
      have q' : DV K ca W.hf W.ad v d := q.mono (fun _ _ h => by cases h) fun _ _ h => by cases h
      have r' := ih (by simpa using hl) r e.2
      cases m with
      | true => exact .kept q' r'
      | false =>
        refine .look ?_ r'
        cases d <;> first | exact q' | cases e.1
end
abbrev SAlen (fa : SA) (n : Nat) : Prop := ∀ ρ S vs S', fa ρ S = some (.ok vs, S') → vs.length = n
theorem len_nil : SAlen sNil 0 := fun ρ S vs S' e => by cases e; rfl
theorem len_cons {fe : SE} {fr : SA} {n : Nat} (h : SAlen fr n) : SAlen (sCons fe fr) (n + 1) := fun ρ S vs S' e => by
  unfold sCons mb at e
  match e1 : fe ρ S with
  | none => rw [e1] at e; cases e
  | some (.error z, S1) => rw [e1] at e; cases e
  | some (.ok d, S1) =>
    rw [e1] at e
    match e2 : fr ρ S1 with
    | none => simp only [e2] at e; cases e
    | some (.error z, S2) => simp only [e2] at e; cases e
    | some (.ok ds, S2) =>
      simp only [e2] at e
      cases e
      rw [List.length_cons, h _ _ _ _ e2]
def sCallU (sem : Sem1) (dds : List D) (fa : SA) : SE := fun ρ => mb (fa ρ) fun ds S => sem (ds ++ dds) S
section
variable {X : Cx} {ca : Ca} {H0 : Bs} {Wx : WX} {mr : Md}
theorem outF_of {W : Wd} {H Hr : Hp} {σ : L2.St} {ρ : Rho} {S : Sto} {r : Option (Except Xc D × Sto)} {Q : VK} (hm : mr = .frz ∨ mr = .fre) (R : Rep X.K ca H0 W H σ ρ S)
    (h : OutM X.K ca H0 Wx W ρ σ H r fun d _ W' H' => ∀ v, DR X.K ca mr H W' H' v d → Q v H') : OutF X.K ca mr W.cal H r Q (WE Wx σ) := by
  match r, h with
  | some (.ok d, S'), h => exact fun W' H' v F w' s' q => h (W.back W') H' (Fut.back F R.w) (R.back F w' s') v (DR.back hm R.w q)
  | some (.error x, S'), h => exact fun W' H' cls od F w' s' xv => h (W.back W') H' cls od (Fut.back F R.w) (R.back F w' s') xv
theorem de_call {k : Nat} {f : Addr} {fd : FuncData} {ps : List Str} {ms ns : List Bool} {sem : Sem1} {dvs : List V} {ds : List Value} {dds : List D} {x : Str} {p pos : Pos} {e : Expr} {es : List Expr} {fa : SA}
    (F : FnG X.prog X.w X.K X.mg X.base k f fd ps (spD X.K ca (ms ++ ns) mr sem)) (hG : X.A.guards = some []) (hr : Room k X.A) (hg : Gl X x) (hm : X.mg x = some (.ref f)) (hk : W.keepIn X.K (.ref f) = true) (hb : Binds X.K fd ps ds) (hd : Vals dvs ds)
    (hq : DVs X.K ca (fun _ => none) (fun _ => none) dvs dds) (hs : dds.all isScal = true) (tk : Takes X Wx) (ha : DAm X ca H0 Wx (ms.map pmd) (e :: es) fa) (hn : ns.length = dds.length)
    (hmr : mr = .frz ∨ mr = .fre := by first | exact .inl rfl | exact .inr rfl)
    (hdb : (x == ("__debug__" : Str)) = false := by decide) (he : starEach (e :: es) X.env = (false, eval e X.env) :: starEach es X.env := by rfl) (hpl : (backTo pos (starEach es X.env)).any (·.1) = false := by rfl) :
    DE X ca H0 Wx mr (.Call (.Name x p) (e :: es) [] pos) (sCallU sem dds fa) := by
  refine PE.imp (pe_callG (E := WE Wx) F hG hr hg hm hk hb hd (fun σ => passAt tk σ) ha hdb he hpl) fun σ H Q ⟨W, ρ, S, R, o⟩ => ⟨W, ρ, S, R, ?_⟩
  have o1 := OutM.bind o
  cases e1 : fa ρ S with
  | none => rw [e1] at o1; exact o1.elim
  | some pr =>
    obtain ⟨ex, S1⟩ := pr
    rw [e1] at o1
    cases ex with
    | error z => exact o1
    | ok as =>
      refine fun W1 H1 F1 R1 vs D1 => ⟨W1.cal, as ++ dds, S1, R1.w.cal, R1.s.cal, fun a p h => ?_, (Bos.args R1.w D1).app (Bos.cons_ ns hn hq hs), ?_⟩
      · by_cases c : calmO (W1.ow a) = true
        · rw [cal_calm c] at h; cases h
        · rw [cal_ob (by simpa using c)] at h
          rw [← h]; simpa using c
      · exact outF_of (Hr := H) hmr R1 ((o1 W1 H1 F1 R1).imp fun d S2 W2 H2 F2 R2 q v r => q v (DR.older F1.dom r))
end
end DL
namespace DL
open PySem PySem.Spec PyProof.Rows L2
section
variable {K : PySem.W.Frag} {ca : Ca} {H0 : Bs} {H H' : Hp} {W W' : Wd} {σ : L2.St} {ρ : Rho} {S : Sto} {a : Addr} {o : HO} {p : Own} {d : D}
theorem FutG.mut {st : Option Own → Bool} {Hn : Hp} {o : HO} (ho : st (W.ow a) = false) : FutG st Hn W H W (upd H a o) where
  hf := Same.refl _
  ad := fun _ _ h => h
  keep := fun b u h hc => ⟨by rw [upd_ne (fun z => by subst z; rw [ho] at hc; cases hc)]; exact h, rfl⟩
  new := fun b u h1 h2 => by rw [h1] at h2; cases h2
  dom := fun b u h => by
    by_cases z : b = a
    · subst z; exact ⟨o, upd_same⟩
    · exact ⟨u, by rw [upd_ne z]; exact h⟩
theorem WOk.mut (w : WOk W H) (hp : W.ow a = some p) (ht : ∀ xs, o ≠ .tup xs) : WOk W (upd H a o) where
  sub := fun b u e => by
    have z : b ≠ a := fun z => by
      subst z
      have := w.dis b p hp
      rw [this] at e; cases e
    rw [upd_ne z]; exact w.sub b u e
  tup := fun b xs e => by
    by_cases z : b = a
    · subst z; rw [upd_same] at e; cases e; exact absurd rfl (ht xs)
    · rw [upd_ne z] at e; exact w.tup b xs e
  dis := w.dis
  dom := fun b q e => by
    by_cases z : b = a
    · subst z; exact ⟨o, upd_same⟩
    · obtain ⟨u, h⟩ := w.dom b q e
      exact ⟨u, by rw [upd_ne z]; exact h⟩
theorem Rep.mutSlot {i : Nat} (R : Rep K ca H0 W H σ ρ S) (hs : σ[i]? = some (some (.ref a))) (hn : H0 a = none) (ho : W.ow a = some (.slot i)) (ht : ∀ xs, o ≠ .tup xs) (hc : Cont K ca W (upd H a o) a d) :
    Rep K ca H0 W (upd H a o) σ (ρ.set i (.own d)) S where
  w := R.w.mut ho ht
  s := ⟨fun n ob e => by
    obtain ⟨b, h1, h2, h3⟩ := R.s.at_ n ob e
    have z : b ≠ a := fun z => by subst z; rw [ho] at h2; cases h2
    exact ⟨b, h1, h2, h3.mono (fun u h => by rw [upd_ne z]; exact h) (Same.refl _) fun _ _ h => h⟩, R.s.fin⟩
  len := by rw [List.length_set]; exact R.len
  sl := fun j y e => by
    by_cases hj : i = j
    · subst hj
      have hi : i < ρ.length := by
        have z := (List.getElem?_eq_some_iff.mp e).1
        rw [List.length_set] at z; exact z
      rw [List.getElem?_set_self hi] at e; cases e
      exact ⟨_, hs, a, rfl, ho, hn, hc⟩
    · rw [List.getElem?_set_ne hj] at e
      obtain ⟨u, h1, h2⟩ := R.sl j y e
      refine ⟨u, h1, h2.mono (Same.refl _) (fun _ _ h => h) fun b x hb hp => ⟨?_, rfl⟩⟩
      have z : b ≠ a := fun z => by
        subst z
        rw [ho] at hp
        rcases hp with hp | hp | hp
        · cases hp; exact hj rfl
        · cases hp
        · exact Bool.false_ne_true hp.1
      rw [upd_ne z]; exact hb
  h0 := fun b u e => by
    obtain ⟨u', h⟩ := R.h0 b u e
    by_cases z : b = a
    · subst z; exact ⟨o, upd_same⟩
    · exact ⟨u', by rw [upd_ne z]; exact h⟩
theorem RepS.mutObj {n : Nat} {ob : Ob} (s : RepS K ca W H S) (hn : n < S.length) (ha : W.ad n = some a) (ho : W.ow a = some (.ob n)) (hc : ObOk K ca W (upd H a o) a ob) : RepS K ca W (upd H a o) (S.set n ob) where
  at_ := fun m ob' e => by
    by_cases z : n = m
    · subst z
      rw [List.getElem?_set_self hn] at e; cases e
      exact ⟨a, ha, ho, hc⟩
    · rw [List.getElem?_set_ne z] at e
      obtain ⟨b, h1, h2, h3⟩ := s.at_ m ob' e
      have y : b ≠ a := fun y => by subst y; rw [ho] at h2; cases h2; exact z rfl
      exact ⟨b, h1, h2, h3.mono (fun u h => by rw [upd_ne y]; exact h) (Same.refl _) fun _ _ h => h⟩
  fin := fun m hm => s.fin m (by rw [List.length_set] at hm; exact hm)
theorem Rep.mutObj {n : Nat} {ob : Ob} (R : Rep K ca H0 W H σ ρ S) (hn : n < S.length) (ha : W.ad n = some a) (ho : W.ow a = some (.ob n)) (ht : ∀ xs, o ≠ .tup xs) (hc : ObOk K ca W (upd H a o) a ob) :
    Rep K ca H0 W (upd H a o) σ ρ (S.set n ob) where
  w := R.w.mut ho ht
  s := R.s.mutObj hn ha ho hc
  len := R.len
  sl := fun j y e => by
    obtain ⟨u, h1, h2⟩ := R.sl j y e
    refine ⟨u, h1, h2.mono (Same.refl _) (fun _ _ h => h) fun b x hb hp => ⟨?_, rfl⟩⟩
    have z : b ≠ a := fun z => by
      subst z
      rw [ho] at hp
      rcases hp with hp | hp | hp
      · cases hp
      · cases hp
      · exact Bool.false_ne_true hp.1
    rw [upd_ne z]; exact hb
  h0 := fun b u e => by
    obtain ⟨u', h⟩ := R.h0 b u e
    by_cases z : b = a
    · subst z; exact ⟨o, upd_same⟩
    · exact ⟨u', by rw [upd_ne z]; exact h⟩
theorem Rep.unown {i : Nat} {o : HO} (R : Rep K ca H0 W H σ ρ S) (hs : σ[i]? = some (some (.ref a))) (he : ρ[i]? = some (.own d)) (ho : W.ow a = some (.slot i)) (ha : H a = some o) (hd : DV K ca ((W.drop a).fz a o).hf W.ad (.ref a) d) :
    Rep K ca H0 ((W.drop a).fz a o) H σ (ρ.set i (.val d)) S := by
  have hfn : W.hf a = none := R.w.dis a _ ho
  have s : Same W.hf (upd W.hf a o) := same_upd hfn
  have od : ∀ b, b ≠ a → ((W.drop a).fz a o).ow b = W.ow b := fun b h => drop_ow h
  have oa : ((W.drop a).fz a o).ow a = none := if_pos rfl
  refine ⟨⟨fun b x e => ?_, fun b xs e => s _ _ (R.w.tup b xs e), fun b q e => ?_, fun b q e => ?_⟩, ⟨fun n ob e => ?_, R.s.fin⟩, by rw [List.length_set]; exact R.len, fun j y e => ?_, R.h0⟩
  · by_cases h : b = a
    · subst h
      have e' : upd W.hf b o b = some x := e
      rw [upd_same] at e'; cases e'; exact ha
    · have e' : upd W.hf a o b = some x := e
      rw [upd_ne h] at e'; exact R.w.sub b x e'
  · have hb : b ≠ a := fun h => by subst h; rw [oa] at e; cases e
    show upd W.hf a o b = none
    rw [upd_ne hb]; rw [od b hb] at e; exact R.w.dis b q e
  · have hb : b ≠ a := fun h => by subst h; rw [oa] at e; cases e
    rw [od b hb] at e; exact R.w.dom b q e
  · obtain ⟨x, h1, h2, h3⟩ := R.s.at_ n ob e
    have hb : x ≠ a := fun h => by subst h; rw [ho] at h2; cases h2
    exact ⟨x, h1, (od x hb).trans h2, h3.mono (fun _ h => h) s fun _ _ h => h⟩
  · by_cases hj : i = j
    · subst hj
      have hi : i < ρ.length := by
        have z := (List.getElem?_eq_some_iff.mp e).1
        rw [List.length_set] at z; exact z
      rw [List.getElem?_set_self hi] at e; cases e
      exact ⟨_, hs, _, rfl, hd⟩
    · rw [List.getElem?_set_ne hj] at e
      obtain ⟨u, h1, h2⟩ := R.sl j y e
      refine ⟨u, h1, h2.mono s (fun _ _ h => h) fun b x hb hp => ⟨hb, od b fun z => ?_⟩⟩
      subst z
      rw [ho] at hp
      rcases hp with hp | hp | hp
      · cases hp; exact hj rfl
      · cases hp
      · exact Bool.false_ne_true hp.1
theorem FutS.unown {i : Nat} {o : HO} (ho : W.ow a = some (.slot i)) (hw : W.hf a = none) (hn : H0 a = none) : FutS H0 W H ((W.drop a).fz a o) H where
  hf := same_upd hw
  ad := fun _ _ h => h
  keep := fun b u h hc => ⟨h, drop_ow fun z => by subst z; rw [ho] at hc; cases hc⟩
  new := fun b x h1 h2 => by
    by_cases h : b = a
    · rw [h]; exact hn
    · have h1' : upd W.hf a o b = some x := h1
      rw [upd_ne h] at h1'
      rw [h1'] at h2
      cases h2
  dom := fun b u h => ⟨u, h⟩
theorem WOk.tupOf (w : WOk W H) {vs : List V} (h : TupQ K W.hf a vs) : SqT K H a vs := (Same.tupQ w.sub h).sq
end
def bFz (i : Nat) (f : SS) : SS := fun ρ S => match ρ[i]? with
  | some (.own d) => f (ρ.set i (.val d)) S
  | _ => f ρ S
section
variable {X : Cx} {ca : Ca} {H0 : Bs} {Wx : WX} {mr : Md}
theorem fz_of {i : Nat} {f : SS} {D : Ends} {σ : L2.St} {H : Hp} (h : tS X.K ca H0 Wx mr (bFz i f) D σ H) : tS X.K ca H0 Wx mr f D σ H := by
  obtain ⟨W, ρ, S, R, o⟩ := h
  unfold bFz at o
  cases e : ρ[i]? with
  | none => rw [e] at o; exact ⟨W, ρ, S, R, o⟩
  | some sl =>
    rw [e] at o
    cases sl with
    | own d =>
      obtain ⟨v, h1, a, h2, h3, h4, h5⟩ := R.sl i _ e
      subst h2
      have hw : W.hf a = none := R.w.dis a _ h3
      have t : ∀ o, Same W.hf (upd W.hf a o) := fun o => same_upd hw
      have go : ∀ {u : HO}, H a = some u → DV X.K ca ((W.drop a).fz a u).hf W.ad (.ref a) d → tS X.K ca H0 Wx mr f D σ H := fun {u} ha hd =>
        ⟨_, _, S, R.unown h1 e h3 ha hd, OutS.later (FutS.unown h3 hw h4) o⟩
      cases d with
      | lst l => obtain ⟨vs, k1, k2⟩ := h5; exact go k1 (.lst upd_same (k2.mono (t _) fun _ _ h => h))
      | dK l => obtain ⟨vs, k1, k2⟩ := h5; exact go k1 (.dK upd_same (k2.mono (t _) fun _ _ h => h))
      | dT l => obtain ⟨vs, k1, k2⟩ := h5; exact go k1 (.dT upd_same (k2.mono (t _) fun _ _ h => h))
      | _ => exact h5.elim
    | _ => exact ⟨W, ρ, S, R, o⟩
theorem ds_fz {st : Stmt} {f : SS} (i : Nat) (h : DS X ca H0 Wx mr st f) : DS X ca H0 Wx mr st (bFz i f) := PS.imp h fun _ _ _ q => fz_of q
def sObj (f : SE) : SE := fun ρ => mb (f ρ) fun d S => match obOf d with
  | some ob => some (.ok (.obj S.length), S ++ [ob])
  | none => none
theorem Fut.moreNew {K : PySem.W.Frag} {W W1 : Wd} {H H1 : Hp} {a : Addr} {S : Sto} (s : RepS K ca W1 H1 S) (F : Fut W H W1 H1) (hn : H a = none) : Fut W H (W1.more S.length a) H1 where
  hf := F.hf
  ad := fun n x e => by
    have e1 := F.ad n x e
    have hn : n ≠ S.length := fun z => by
      subst z
      rw [s.fin _ (Nat.le_refl _)] at e1; cases e1
    show (if n = S.length then some a else W1.ad n) = some x
    rw [if_neg hn]; exact e1
  keep := fun b o h hc => by
    have hb : b ≠ a := fun z => by subst z; rw [hn] at h; cases h
    obtain ⟨k1, k2⟩ := F.keep b o h hc
    exact ⟨k1, (show (W1.more S.length a).ow b = W1.ow b from if_neg hb).trans k2⟩
  new := fun b o h1 h2 => FutG.new F b o h1 h2
  dom := F.dom
theorem OutM.bind0 {α β : Type} {K : PySem.W.Frag} {W : Wd} {ρ : Rho} {σ : L2.St} {H : Hp} {S : Sto} {x : M α} {k : α → M β} {P : β → Sto → Wd → Hp → Prop} (h : OutM K ca H0 Wx W ρ σ H (mb x k S) P) :
    OutM K ca H0 Wx W ρ σ H (x S) fun a S1 _ _ => OutM K ca H0 Wx W ρ σ H (k a S1) P := by
  unfold mb at h
  match e : x S with
  | none => rw [e] at h; exact h
  | some (.error z, S') => rw [e] at h; exact h
  | some (.ok a, S') =>
    rw [e] at h
    exact fun W1 H1 f R => h
theorem de_obj {e : Expr} {f : SE} (h : DE X ca H0 Wx .fre e f) : DE X ca H0 Wx .frz e (sObj f) := by
  refine PE.imp h fun σ H Q ⟨W, ρ, S, R, o⟩ => ⟨W, ρ, S, R, (OutM.bind0 o).imp fun d S' W' H' F R' q v r => ?_⟩
  have go : ∀ {a : Addr} {u : HO} {ob : Ob}, obOf d = some ob → H a = none → W'.hf a = none → W'.ow a = none → H' a = some u → ObOk X.K ca W' H' a ob → Q (.ref a) H' := fun {a u ob} he h1 h2 h3 h4 h5 => by
    rw [he] at q
    exact q (W'.more S'.length a) H' (Fut.moreNew R'.s F h1) (R'.more (none_of_dom R.h0 h1) h2 h3 h4 h5) (.ref a) (.obj (if_pos rfl))
  cases d with
  | lst ds => obtain ⟨a, vs, e, h1, h2, h3, h4, q⟩ := r; subst e; exact go rfl h1 h2 h3 h4 ⟨vs, h4, q⟩
  | dK ds => obtain ⟨a, vs, e, h1, h2, h3, h4, q⟩ := r; subst e; exact go rfl h1 h2 h3 h4 ⟨vs, h4, q⟩
  | dT ds => obtain ⟨a, vs, e, h1, h2, h3, h4, q⟩ := r; subst e; exact go rfl h1 h2 h3 h4 ⟨vs, h4, q⟩
  | _ => exact False.elim q
end
section
variable (X : Cx) (ca : Ca)
def MuD (m : Md) (id : String) (mu : List D → List D → Option (D × List D)) : Prop :=
  ∃ r, MtR X id r ∧ ∀ (W : Wd) (H Hb : Hp) (a : Addr) (vs us : List V) (l ds l' : List D) (d : D) (Q : VK), WOk W H → H a = some (.lst vs) → DVs X.K ca W.hf W.ad vs l → DRs X.K ca m Hb W H us ds → mu l ds = some (d, l') →
    (∀ v vs', DV X.K ca W.hf W.ad v d → DVs X.K ca W.hf W.ad vs' l' → Q v (upd H a (.lst vs'))) → r (.ref a) us H Q
end
section
variable {X : Cx} {ca : Ca} {H0 : Bs} {Wx : WX} {mr : Md}
def uAppend : List D → List D → Option (D × List D) := fun l ds => match ds with
  | [d] => if l.length < sizeLine then some (.non, l ++ [d]) else none
  | _ => none
theorem mu_append : MuD X ca .frz "list.append" uAppend := by
  refine ⟨_, mt_append, fun W H Hb a vs us l ds l' d Q w h q1 q2 e k => ?_⟩
  match ds, q2, e with
  | [x], .cons q .nil, e =>
    have e : (if l.length < sizeLine then some (D.non, l ++ [x]) else none) = some (d, l') := e
    by_cases hl : l.length < sizeLine
    · rw [if_pos hl] at e; cases e
      exact ⟨a, vs, _, rfl, rfl, h, by rw [q1.length]; exact hl, k _ _ .non (q1.app (.cons q .nil))⟩
    · rw [if_neg hl] at e; cases e
noncomputable def uInsert : List D → List D → Option (D × List D) := fun l ds => match ds with
  | [.int i, d] => cif (l.length < sizeLine ∧ 0 ≤ i ∧ i < 2 ^ 63) (some (.non, l.take i.toNat ++ [d] ++ l.drop i.toNat)) none
  | _ => none
theorem mu_insert : MuD X ca .frz "list.insert" uInsert := by
  refine ⟨_, mt_insert, fun W H Hb a vs us l ds l' d Q w h q1 q2 e k => ?_⟩
  match ds, q2, e with
  | [.int i, d], .cons q3 (.cons q .nil), e =>
    have e : (cif (l.length < sizeLine ∧ 0 ≤ i ∧ i < 2 ^ 63) (some (D.non, l.take i.toNat ++ [d] ++ l.drop i.toNat)) none) = some (_, l') := e
    obtain rfl := DV.ofInt q3
    by_cases hl : l.length < sizeLine ∧ 0 ≤ i ∧ i < 2 ^ 63
    · rw [cif_pos hl] at e; cases e
      exact ⟨a, vs, i, _, rfl, rfl, h, by rw [q1.length]; exact hl.1, hl.2.1, hl.2.2, k _ _ .non (((q1.take _).app (.cons q .nil)).app (q1.drop _))⟩
    · rw [cif_neg hl] at e; cases e
noncomputable def uPopAt : List D → List D → Option (D × List D) := fun l ds => match ds with
  | [.int i] => cif (-(2 ^ 63) ≤ i ∧ i < 2 ^ 63) ((seqIndex? i l.length).bind fun k => (l[k]?).map fun d => (d, l.eraseIdx k)) none
  | _ => none
theorem mu_popAt : MuD X ca .frz "list.pop" uPopAt := by
  refine ⟨_, mt_popAt, fun W H Hb a vs us l ds l' d Q w h q1 q2 e k => ?_⟩
  match ds, q2, e with
  | [.int i], .cons q3 .nil, e =>
    have e : (cif (-(2 ^ 63) ≤ i ∧ i < 2 ^ 63) ((seqIndex? i l.length).bind fun k => (l[k]?).map fun d => (d, l.eraseIdx k)) none) = some (d, l') := e
    obtain rfl := DV.ofInt q3
    by_cases hl : -(2 ^ 63) ≤ i ∧ i < 2 ^ 63
    · rw [cif_pos hl] at e
      obtain ⟨j, e1, e⟩ := Option.bind_eq_some_iff.mp e
      obtain ⟨x, e2, e⟩ := Option.map_eq_some_iff.mp e
      cases e
      obtain ⟨y, hy, qy⟩ := q1.get e2
      exact ⟨a, vs, i, j, y, rfl, rfl, h, hl.1, hl.2, by rw [q1.length]; exact e1, hy, k _ _ qy (q1.erase j)⟩
    · rw [cif_neg hl] at e; cases e
def ownL (ρ : Rho) (i : Nat) : Option (List D) := match ρ[i]? with
  | some (.own (.lst l)) => some l
  | _ => none
theorem ownL_eq {ρ : Rho} {i : Nat} {l : List D} (h : ownL ρ i = some l) : ρ[i]? = some (.own (.lst l)) := by
  unfold ownL at h
  split at h
  next l' e => cases h; exact e
  next => cases h
def asObj : D → Option Nat
  | .obj n => some n
  | _ => none
theorem asObj_eq {d : D} {n : Nat} (h : asObj d = some n) : d = .obj n := by
  cases d <;> first | cases h | skip
  rfl
def asInt : D → Option Int
  | .int n => some n
  | _ => none
theorem asInt_eq {d : D} {n : Int} (h : asInt d = some n) : d = .int n := by
  cases d <;> first | cases h | skip
  rfl
def stL (S : Sto) (n : Nat) : Option (List D) := match S[n]? with
  | some (.lst l) => some l
  | _ => none
theorem stL_eq {S : Sto} {n : Nat} {l : List D} (h : stL S n = some l) : S[n]? = some (.lst l) := by
  unfold stL at h
  split at h
  next l' e => cases h; exact e
  next => cases h
def bMut (i : Nat) (mu : List D → List D → Option (D × List D)) (fa : SA) : SS := fun ρ S => match ownL ρ i with
  | none => none
  | some l => sb (fa ρ) ρ (fun ds S => match mu l ds with
    | none => none
    | some z => some (.nx (ρ.set i (.own (.lst z.2))), S)) S
theorem ds_mut {m : Md} {id : String} {mu : List D → List D → Option (D × List D)} {i : Nat} {x name : Str} {e : Expr} {es : List Expr} {fa : SA} {p apos cpos pos : Pos} (pa : PlainAttrs "list") (slot : Slot "list" name id) (hty : typeOf (.builtin id) = pure (.type "method_descriptor"))
    (hm : MuD X ca m id mu) (ho : PE X (.Name x p) (tVar i)) (ha : DA X ca H0 Wx m (e :: es) fa)
    (hbase : attributeBase (.Name x p) name X.env (eval (.Name x p) X.env) = eval (.Name x p) X.env := by rfl)
    (hfew : ((backTo cpos (starEach (e :: es) X.env)).all (fun x => !x.1) && (backToKw cpos (keywordEach [] X.env)).all (fun x => x.1.isSome)
      && decide ((e :: es).length + ([] : List Keyword).length + (if ([] : List Keyword).isEmpty then 0 else 1) < 30)) = true := by rfl)
    (hline : (apos.endLine == cpos.line) = true := by rfl) (hs : starEach (e :: es) X.env = (false, eval e X.env) :: starEach es X.env := by rfl) (hplain : (backTo cpos (starEach es X.env)).any (·.1) = false := by rfl)
    (hsw : swapsWith (.Call (.Attribute (.Name x p) name apos) (e :: es) [] cpos) none pos.line X.env = pure false := by rfl) :
    DS X ca H0 Wx mr (.Expr (.Call (.Attribute (.Name x p) name apos) (e :: es) [] cpos) pos) (bMut i mu fa) := by
  obtain ⟨r, h1, h2⟩ := hm
  refine PS.imp (ps_expr (pe_bm pa slot hty h1 ho ha hbase hfew hline hs hplain) hsw) fun D σ H ⟨W, ρ, S, R, o⟩ => ?_
  unfold bMut at o
  cases e1 : ownL ρ i with
  | none => rw [e1] at o; exact False.elim o
  | some l =>
    rw [e1] at o
    obtain ⟨v, k1, a, k2, k3, k4, vs, k5, k6⟩ := R.sl i _ (ownL_eq e1)
    subst k2
    refine ⟨_, k1, .inl ⟨rfl, vs, .inl (.inl k5)⟩, W, ρ, S, R, (OutS.bind R o).imp fun ds S' W' H' F R' h us q => ?_⟩
    obtain ⟨g1, g2⟩ := F.keep a _ k5 (by rw [k3]; rfl)
    have g3 : W'.ow a = some (.slot i) := g2.trans k3
    cases e2 : mu l ds with
    | none => simp only [e2] at h; exact False.elim h
    | some z =>
      simp only [e2] at h
      refine h2 W' H' H a vs us l ds z.2 z.1 _ R'.w g1 (k6.mono F.hf F.ad) q e2 fun v' vs' qv q' => ?_
      exact h W' (upd H' a (.lst vs')) _ (FutG.mut (by rw [g3]; rfl)) (R'.mutSlot k1 k4 g3 (fun _ z => by cases z) ⟨vs', upd_same, q'⟩)
def sMut (fo : SE) (mu : List D → List D → Option (D × List D)) (fa : SA) : SE := fun ρ => mb (fo ρ) fun o S => match asObj o with
  | none => none
  | some n => match stL S n with
    | none => none
    | some _ => mb (fa ρ) (fun ds S' => match stL S' n with
      | none => none
      | some l => match mu l ds with
        | none => none
        | some z => some (.ok z.1, S'.set n (.lst z.2))) S
theorem mutO_of {m : Md} {mu : List D → List D → Option (D × List D)} {r : V → List V → Hp → VK → Prop} {fo : SE} {fa : SA} {σ : L2.St} {H : Hp} {Q : VK}
    (h2 : ∀ (W : Wd) (H Hb : Hp) (a : Addr) (vs us : List V) (l ds l' : List D) (d : D) (Q : VK), WOk W H → H a = some (.lst vs) → DVs X.K ca W.hf W.ad vs l → DRs X.K ca m Hb W H us ds → mu l ds = some (d, l') →
    (∀ v vs', DV X.K ca W.hf W.ad v d → DVs X.K ca W.hf W.ad vs' l' → Q v (upd H a (.lst vs'))) → r (.ref a) us H Q)
    (h : tE X.K ca H0 Wx .frz (sMut fo mu fa) σ H Q) : tE X.K ca H0 Wx .frz fo σ H fun x H1 => tyV X.K "list" x H1 ∧ tA X.K ca H0 Wx m fa σ H1 fun xs H2 => r x xs H2 Q := by
  obtain ⟨W, ρ, S, R, o⟩ := h
  refine ⟨W, ρ, S, R, (OutM.bind o).imp fun dx S1 W1 H1 F1 R1 h1 x D1 => ?_⟩
  cases e0 : asObj dx with
  | none => simp only [e0] at h1; exact False.elim h1
  | some n =>
    simp only [e0] at h1
    rw [asObj_eq e0] at D1
    obtain ⟨a, rfl, ha⟩ := DV.ofObj D1
    cases e1 : stL S1 n with
    | none => simp only [e1] at h1; exact False.elim h1
    | some l0 =>
      simp only [e1] at h1
      obtain ⟨b, k1, k2, vs0, k3, k4⟩ := R1.s.at_ n _ (stL_eq e1)
      have hb : b = a := by rw [ha] at k1; exact (Option.some.inj k1).symm
      subst hb
      refine ⟨.inl ⟨rfl, vs0, .inl (.inl k3)⟩, W1, ρ, S1, R1, (OutM.bind h1).imp fun ds S2 W2 H2 F2 R2 h3 us q => ?_⟩
      cases e2 : stL S2 n with
      | none => simp only [e2] at h3; exact False.elim h3
      | some l =>
        simp only [e2] at h3
        obtain ⟨b2, g1, g2, vs, g3, g4⟩ := R2.s.at_ n _ (stL_eq e2)
        have hb : b2 = b := by rw [F2.ad n b ha] at g1; exact (Option.some.inj g1).symm
        subst hb
        cases e3 : mu l ds with
        | none => simp only [e3] at h3; exact False.elim h3
        | some z =>
          simp only [e3] at h3
          refine h2 W2 H2 H1 b2 vs us l ds z.2 z.1 _ R2.w g3 g4 q e3 fun v' vs' qv q' => ?_
          exact h3 W2 (upd H2 b2 (.lst vs')) (FutG.mut (by rw [g2]; rfl)) (R2.mutObj (List.getElem?_eq_some_iff.mp (stL_eq e2)).1 g1 g2 (fun _ z => by cases z) ⟨vs', upd_same, q'⟩) v' qv
theorem de_mut {m : Md} {id : String} {mu : List D → List D → Option (D × List D)} {name : Str} {o e : Expr} {es : List Expr} {fo : SE} {fa : SA} {apos cpos : Pos} (pa : PlainAttrs "list") (slot : Slot "list" name id) (hty : typeOf (.builtin id) = pure (.type "method_descriptor"))
    (hm : MuD X ca m id mu) (ho : DE X ca H0 Wx .frz o fo) (ha : DA X ca H0 Wx m (e :: es) fa)
    (hbase : attributeBase o name X.env (eval o X.env) = eval o X.env := by rfl)
    (hfew : ((backTo cpos (starEach (e :: es) X.env)).all (fun x => !x.1) && (backToKw cpos (keywordEach [] X.env)).all (fun x => x.1.isSome)
      && decide ((e :: es).length + ([] : List Keyword).length + (if ([] : List Keyword).isEmpty then 0 else 1) < 30)) = true := by rfl)
    (hline : (apos.endLine == cpos.line) = true := by rfl) (hs : starEach (e :: es) X.env = (false, eval e X.env) :: starEach es X.env := by rfl) (hplain : (backTo cpos (starEach es X.env)).any (·.1) = false := by rfl) :
    DE X ca H0 Wx .frz (.Call (.Attribute o name apos) (e :: es) [] cpos) (sMut fo mu fa) := by
  obtain ⟨r, h1, h2⟩ := hm
  exact PE.imp (pe_bm pa slot hty h1 ho ha hbase hfew hline hs hplain) fun σ H Q h => mutO_of h2 h
def setAt (l : List D) (k d : D) : Option (List D) := match asInt k with
  | none => none
  | some k => (ixN l.length k).map fun j => l.set j d
theorem setAt_eq {l l' : List D} {k d : D} (h : setAt l k d = some l') : ∃ i j, k = .int i ∧ ixN l.length i = some j ∧ l' = l.set j d := by
  unfold setAt at h
  cases e : asInt k with
  | none => simp only [e] at h; cases h
  | some i =>
    simp only [e] at h
    obtain ⟨j, h1, h2⟩ := Option.map_eq_some_iff.mp h
    exact ⟨i, j, asInt_eq e, h1, h2.symm⟩
def bSetIx (i : Nat) (fi fe : SE) : SS := fun ρ => sb (fe ρ) ρ fun d S => match ownL ρ i with
  | none => none
  | some l => sb (fi ρ) ρ (fun k S => match setAt l k d with
    | none => none
    | some l' => some (.nx (ρ.set i (.own (.lst l'))), S)) S
def bSetIxO (fo fi fe : SE) : SS := fun ρ => sb (fe ρ) ρ fun d => sb (fo ρ) ρ fun o S => match asObj o with
  | none => none
  | some n => sb (fi ρ) ρ (fun k S => match stL S n with
    | none => none
    | some l => match setAt l k d with
      | none => none
      | some l' => some (.nx ρ, S.set n (.lst l'))) S
theorem ds_setIxO {o e ix : Expr} {fo fi fe : SE} {tpos pos : Pos} (ho : DE X ca H0 Wx .frz o fo) (hi : DE X ca H0 Wx .frz ix fi) (he : DE X ca H0 Wx .frz e fe)
    (ha : ∀ v, assign (.Subscript o ix tpos) X.env v = (do
      let ov ← holding [v] (eval o X.env)
      let iv ← holding [v, ov] (eval ix X.env)
      standAt tpos
      holding [v, ov, iv] (setItem ov iv v)
      release [v, ov, iv] []) := by intro _; rfl)
    (hs : swapsWithSole [.Subscript o ix tpos] e pos.line X.env = pure false := by rfl) (hw : swappedStores [.Subscript o ix tpos] e X.env = pure none := by rfl)
    (h1 : (assignEach [.Subscript o ix tpos] X.env).map (·.2) = [assign (.Subscript o ix tpos) X.env] := by rfl) :
    DS X ca H0 Wx mr (.Assign [.Subscript o ix tpos] e pos) (bSetIxO fo fi fe) := by
  refine PS.imp (ps_asg he (pg_sub ho hi set_list ha) hs hw h1) fun D σ H ⟨W, ρ, S, R, o⟩ => ⟨W, ρ, S, R, (OutS.bind R o).imp fun d S1 W1 H1 F1 R1 h v Dv => ⟨W1, ρ, S1, R1, (OutS.bind R1 h).imp fun x S2 W2 H2 F2 R2 h2 u Du => ?_⟩⟩
  cases e0 : asObj x with
  | none => simp only [e0] at h2; exact False.elim h2
  | some n =>
    simp only [e0] at h2
    rw [asObj_eq e0] at Du
    obtain ⟨a, rfl, ha⟩ := DV.ofObj Du
    refine ⟨W2, ρ, S2, R2, (OutS.bind R2 h2).imp fun k S3 W3 H3 F3 R3 h3 y Dy => ?_⟩
    cases e2 : stL S3 n with
    | none => simp only [e2] at h3; exact False.elim h3
    | some l =>
      simp only [e2] at h3
      cases e3 : setAt l k d with
      | none => simp only [e3] at h3; exact False.elim h3
      | some l' =>
        simp only [e3] at h3
        obtain ⟨m, j, rfl, ej, rfl⟩ := setAt_eq e3
        obtain rfl := DV.ofInt Dy
        obtain ⟨b, g1, g2, vs, g3, g4⟩ := R3.s.at_ n _ (stL_eq e2)
        have hb : b = a := by rw [F3.ad n a ha] at g1; exact (Option.some.inj g1).symm
        subst hb
        refine ⟨b, vs, m, j, rfl, rfl, g3, by rw [g4.length]; exact ej, ?_⟩
        have Fv := Fut.trans' F2 F3
        exact h3 W3 _ _ (FutG.mut (by rw [g2]; rfl)) (R3.mutObj (List.getElem?_eq_some_iff.mp (stL_eq e2)).1 g1 g2 (fun _ z => by cases z) ⟨_, upd_same, DVs.set (DV.mono Fv.hf Fv.ad Dv) j g4⟩)
end
end DL
namespace DL
open PySem PySem.Spec PyProof.Rows L2
section
variable (K : PySem.W.Frag) (ca : Ca) (H0 : Bs) (Wx : WX)
def Yl (J : It) (W1 : Wd) (H1 : Hp) (ds : List D) : Prop :=
  ∀ (i : Nat) (W : Wd) (H : Hp), FutS H0 W1 H1 W H → WOk W H →
    (∀ d, ds[i]? = some d → J.go i H ∧ ∀ x H', J.yld i H x H' → ∀ σ ρ S, Rep K ca H0 W H σ ρ S → ∃ W', Fut W H W' H' ∧ Rep K ca H0 W' H' σ ρ S ∧ DV K ca W'.hf W'.ad x d) ∧
    (ds.length ≤ i → J.stop i H)
def tI (src : SA) : TI := fun σ H R => ∃ W ρ S, Rep K ca H0 W H σ ρ S ∧ OutM K ca H0 Wx W ρ σ H (src ρ S) fun ds S' W' H' => ∀ J, Yl K ca H0 J W' H' ds → R J H'
def tG (tgt : D → Rho → Option Rho) : TG := fun v σ H Q => ∃ W ρ S d ρ', Rep K ca H0 W H σ ρ S ∧ DV K ca W.hf W.ad v d ∧ tgt d ρ = some ρ' ∧ ∀ σ', Rep K ca H0 W H σ' ρ' S → Q σ' H
def tGs (tgt : List D → Rho → Option Rho) : TGs := fun vs σ H Q => ∃ W ρ S ds ρ', Rep K ca H0 W H σ ρ S ∧ DVs K ca W.hf W.ad vs ds ∧ tgt ds ρ = some ρ' ∧ ∀ σ', Rep K ca H0 W H σ' ρ' S → Q σ' H
end
abbrev DI (X : Cx) (ca : Ca) (H0 : Bs) (Wx : WX) (tg e : Expr) (f : SA) : Prop := PI X tg e (tI X.K ca H0 Wx f)
abbrev DG (X : Cx) (ca : Ca) (H0 : Bs) (tg : Expr) (f : D → Rho → Option Rho) : Prop := PG X tg (tG X.K ca H0 f)
abbrev DGs (X : Cx) (ca : Ca) (H0 : Bs) (tg : List Expr) (f : List D → Rho → Option Rho) : Prop := PGs X tg (tGs X.K ca H0 f)
theorem PI.imp {X : Cx} {tg e : Expr} {t t' : TI} (h : PI X tg e t) (i : ∀ σ H R, t' σ H R → t σ H R) : PI X tg e t' := ⟨fun pins s σ H R I q => h.run pins s σ H R I (i σ H R q)⟩
theorem PG.imp {X : Cx} {e : Expr} {t t' : TG} (h : PG X e t) (i : ∀ v σ H Q, t' v σ H Q → t v σ H Q) : PG X e t' := ⟨fun pins s σ H v u Q I r q => h.run pins s σ H v u Q I r (i v σ H Q q)⟩
theorem PGs.imp {X : Cx} {e : List Expr} {t t' : TGs} (h : PGs X e t) (i : ∀ v σ H Q, t' v σ H Q → t v σ H Q) : PGs X e t' := ⟨fun pins s σ H v u Q I r q => h.run pins s σ H v u Q I r (i v σ H Q q)⟩
section
variable {X : Cx} {ca : Ca} {H0 : Bs} {Wx : WX} {mr : Md}
def tgName (i : Nat) : D → Rho → Option Rho := fun d ρ => if unlk ρ[i]? = true then some (ρ.set i (.val d)) else none
theorem dg_name {i : Nat} {x : Str} {pos : Pos} (hN : X.N.Nodup) (hi : X.N[i]? = some x) (hx : Loc X.env.scope x) (hf : X.fn x = true ∨ X.env.scope.names.lookup x = some .local := by first | exact .inl rfl | exact .inr rfl | assumption) : DG X ca H0 (.Name x pos) (tgName i) :=
  PG.imp (pg_name hN hi hx hf) fun v σ H Q ⟨W, ρ, S, d, ρ', R, q, e, k⟩ => by
    unfold tgName at e
    by_cases hu : unlk ρ[i]? = true
    · rw [if_pos hu] at e; cases e
      exact k _ (R.set ⟨v, rfl, q⟩)
    · rw [if_neg hu] at e; cases e
def tgNil : List D → Rho → Option Rho := fun ds ρ => match ds with
  | [] => some ρ
  | _ => none
def tgCons (t : D → Rho → Option Rho) (u : List D → Rho → Option Rho) : List D → Rho → Option Rho := fun ds ρ => match ds with
  | [] => none
  | d :: r => (t d ρ).bind (u r)
theorem dgs_nil : DGs X ca H0 [] tgNil := PGs.imp pgs_nil fun vs σ H Q ⟨W, ρ, S, ds, ρ', R, q, e, k⟩ => by
  cases q with
  | nil => cases e; exact ⟨rfl, k σ R⟩
  | cons _ _ => cases e
theorem dgs_cons {e : Expr} {es : List Expr} {t : D → Rho → Option Rho} {u : List D → Rho → Option Rho} (h1 : DG X ca H0 e t) (h2 : DGs X ca H0 es u)
    (hs : (assignEach (e :: es) X.env).map (·.2) = assign e X.env :: (assignEach es X.env).map (·.2) := by rfl) : DGs X ca H0 (e :: es) (tgCons t u) :=
  PGs.imp (pgs_cons h1 h2 hs) fun vs σ H Q ⟨W, ρ, S, ds, ρ', R, q, e, k⟩ => by
    cases q with
    | nil => cases e
    | cons q r =>
      obtain ⟨ρ1, e1, e2⟩ := Option.bind_eq_some_iff.mp e
      exact ⟨_, _, rfl, W, ρ, S, _, ρ1, R, q, e1, fun σ1 R1 => ⟨W, ρ1, S, _, ρ', R1, r, e2, k⟩⟩
theorem PG.or {e : Expr} {t t' : TG} (h : PG X e t) (h' : PG X e t') : PG X e (fun v σ H Q => t v σ H Q ∨ t' v σ H Q) :=
  ⟨fun pins s σ H v u Q I r q => q.elim (h.run pins s σ H v u Q I r) (h'.run pins s σ H v u Q I r)⟩
def tgTup (n : Nat) (u : List D → Rho → Option Rho) : D → Rho → Option Rho := fun d ρ => match d with
  | .tup l => if l.length = n then u l ρ else none
  | .lst l => if l.length = n then u l ρ else none
  | _ => none
theorem dg_tup {es : List Expr} {k n : Nat} {u : List D → Rho → Option Rho} {pos : Pos} (hc : X.calm = true) (h : DGs X ca H0 es u)
    (hn : (assignEach es X.env).length = n := by rfl) (hst : (assignEach es X.env).findIdx? (·.1) = none := by rfl) : DG X ca H0 (.Tuple es k pos) (tgTup n u) :=
  PG.imp (PG.or (pg_tup hc h hn hst) (pg_lst hc h hn hst)) fun v σ H Q ⟨W, ρ, S, d, ρ', R, q, e, k⟩ => by
    cases d with
    | tup l =>
      have e : (if l.length = n then u l ρ else none) = some ρ' := e
      obtain ⟨a, vs, rfl, h1, h2⟩ := DV.ofTup q
      by_cases hl : l.length = n
      · rw [if_pos hl] at e
        exact .inl ⟨a, vs, rfl, R.w.tupOf h1, by rw [h2.length]; exact hl, W, ρ, S, l, ρ', R, h2, e, k⟩
      · rw [if_neg hl] at e; cases e
    | lst l =>
      have e : (if l.length = n then u l ρ else none) = some ρ' := e
      obtain ⟨a, vs, rfl, h1, h2⟩ := DV.ofLst q
      by_cases hl : l.length = n
      · rw [if_pos hl] at e
        exact .inr ⟨a, vs, rfl, .inl (.inl (R.w.sub _ _ h1)), by rw [h2.length]; exact hl, W, ρ, S, l, ρ', R, h2, e, k⟩
      · rw [if_neg hl] at e; cases e
    | _ => cases e
def bAsg (tgt : D → Rho → Option Rho) (f : SE) : SS := fun ρ => sb (f ρ) ρ fun d S => match tgt d ρ with
  | none => none
  | some ρ' => some (.nx ρ', S)
theorem ds_asg {tg e : Expr} {f : SE} {t : D → Rho → Option Rho} {pos : Pos} (he : DE X ca H0 Wx .frz e f) (hg : DG X ca H0 tg t) (hs : swapsWithSole [tg] e pos.line X.env = pure false := by rfl) (hw : swappedStores [tg] e X.env = pure none := by rfl)
    (h1 : (assignEach [tg] X.env).map (·.2) = [assign tg X.env] := by rfl) : DS X ca H0 Wx mr (.Assign [tg] e pos) (bAsg t f) :=
  PS.imp (ps_asg he hg hs hw h1) fun D σ H ⟨W, ρ, S, R, o⟩ => ⟨W, ρ, S, R, (OutS.bind R o).imp fun d S' W' H' F R' h v r => by
    cases e : t d ρ with
    | none => simp only [e] at h; exact False.elim h
    | some ρ' =>
      simp only [e] at h
      exact ⟨W', ρ, S', d, ρ', R', r, e, fun σ' R2 => OutS.nx R2 h⟩⟩
def forD (tgt : D → Rho → Option Rho) (body : SS) : List D → SS
  | [], ρ, S => some (.nx ρ, S)
  | d :: r, ρ, S => match tgt d ρ with
    | none => none
    | some ρ1 => match body ρ1 S with
      | some (.nx ρ', S') => forD tgt body r ρ' S'
      | some (.cnt ρ', S') => forD tgt body r ρ' S'
      | some (.brk ρ', S') => some (.nx ρ', S')
      | z => z
def bFor (src : SA) (tgt : D → Rho → Option Rho) (body : SS) : SS := fun ρ => sb (src ρ) ρ fun ds => forD tgt body ds ρ
theorem for_of {src : SA} {tgt : D → Rho → Option Rho} {body : SS} {D : Ends} {σ : L2.St} {H : Hp} (h : tS X.K ca H0 Wx mr (bFor src tgt body) D σ H) :
    tFor (tI X.K ca H0 Wx src) (tG X.K ca H0 tgt) (tS X.K ca H0 Wx mr body) D σ H := by
  obtain ⟨W0, ρ0, S0, R0, o⟩ := h
  refine ⟨W0, ρ0, S0, R0, (OutS.bind R0 o).imp fun ds S1 W1 H1 F1 R1 h1 J y => ?_⟩
  refine ⟨fun i m σ H => m = ds.length - i ∧ ∃ W ρ S, FutS H0 W1 H1 W H ∧ Rep X.K ca H0 W H σ ρ S ∧ OutS X.K ca H0 Wx mr W H D (forD tgt body (ds.drop i) ρ S),
    ⟨ds.length, by simp, W1, ρ0, S1, FutG.refl _ _, R1, by rw [List.drop_zero]; exact h1⟩, ?_⟩
  rintro i m σ H ⟨rfl, W, ρ, S, F, R, h⟩
  obtain ⟨y1, y2⟩ := y i W H F R.w
  by_cases hi : i < ds.length
  · have e1 : ds[i]? = some ds[i] := by simp [hi]
    obtain ⟨go, y3⟩ := y1 _ e1
    rw [List.drop_eq_getElem_cons hi] at h
    refine .inr ⟨go, fun σ' H' => ∃ W ρ S, FutS H0 W1 H1 W H' ∧ Rep X.K ca H0 W H' σ' ρ S ∧ OutS X.K ca H0 Wx mr W H' D (forD tgt body (ds.drop (i + 1)) ρ S), fun σ' H' n' => ⟨_, by omega, rfl, n'⟩, fun x H' yl => ?_⟩
    obtain ⟨W', F0', R', qx⟩ := y3 x H' yl σ ρ S R
    have F' := Fut.s F0' R.h0
    unfold forD at h
    cases et : tgt ds[i] ρ with
    | none => simp only [et] at h; exact False.elim h
    | some ρ1 =>
      simp only [et] at h
      refine ⟨W', ρ, S, _, ρ1, R', qx, et, fun σ2 R2 => ⟨W', ρ1, S, R2, ?_⟩⟩
      have h' := OutS.later F' h
      have nxt : ∀ {ρ' : Rho} {S' : Sto}, OutS X.K ca H0 Wx mr W' H' D (forD tgt body (ds.drop (i + 1)) ρ' S') → ∀ W2 H2 σ3, FutS H0 W' H' W2 H2 → Rep X.K ca H0 W2 H2 σ3 ρ' S' →
          ∃ W ρ S, FutS H0 W1 H1 W H2 ∧ Rep X.K ca H0 W H2 σ3 ρ S ∧ OutS X.K ca H0 Wx mr W H2 D (forD tgt body (ds.drop (i + 1)) ρ S) := fun {ρ' S'} hh W2 H2 σ3 F2 R3 =>
        ⟨W2, ρ', S', (F.trans F').trans F2, R3, OutS.later F2 hh⟩
      match eb : body ρ1 S with
      | none => simp only [eb] at h'; exact h'
      | some (.nx ρ', S') => simp only [eb] at h'; exact fun W2 H2 σ3 F2 R3 => nxt h' W2 H2 σ3 F2 R3
      | some (.cnt ρ', S') => simp only [eb] at h'; exact fun W2 H2 σ3 F2 R3 => nxt h' W2 H2 σ3 F2 R3
      | some (.brk ρ', S') => simp only [eb] at h'; exact h'
      | some (.ret d, S') => simp only [eb] at h'; exact h'
      | some (.exc ρ' z, S') => simp only [eb] at h'; exact h'
  · rw [List.drop_eq_nil_of_le (by omega)] at h
    exact .inl ⟨y2 (by omega), OutS.nx R h⟩
theorem ds_for {tg iter : Expr} {body : List Stmt} {src : SA} {tgt : D → Rho → Option Rho} {fb : SS} {pos : Pos} (hp : PassesOwn (model X.prog X.w) X.A X.env X.xe) (hc : X.calm = true) (hi : DI X ca H0 Wx tg iter src) (hg : DG X ca H0 tg tgt) (hb : DSs X ca H0 Wx mr body fb)
    (hs : ∀ x, foldedSetIterable iter X.env x = pure x := by intro _; rfl) : DS X ca H0 Wx mr (.For tg iter body [] pos) (bFor src tgt fb) :=
  PS.imp (ps_for hp hc hi hg hb hs) fun D σ H h => for_of h
def dItems : D → Option (List D)
  | .lst l => some l
  | .rol l => some l
  | .tup l => some l
  | .str x => some (x.cps.toList.map fun c => .str ⟨#[c]⟩)
  | _ => none
def sItems (f : SE) : SA := fun ρ => mb (f ρ) fun d => mo (dItems d)
section
variable {K : PySem.W.Frag} {W : Wd} {H : Hp}
theorem Yl.list {a : Addr} {vs : List V} {ds : List D} (h : ∀ W' H', FutS H0 W H W' H' → WOk W' H' → SqL K H' a vs) (q : DVs K ca W.hf W.ad vs ds) : Yl K ca H0 (Itl K a) W H ds := by
  intro i W1 H1 F w
  have s := h W1 H1 F w
  refine ⟨fun d e => ?_, fun hl => ⟨vs, s, by rw [q.length]; exact hl⟩⟩
  obtain ⟨v, e1, qv⟩ := q.get e
  refine ⟨⟨vs, v, s, e1⟩, fun x H' ⟨eH, y⟩ σ ρ S R => ?_⟩
  subst eH
  have e2 := y vs s
  rw [e1] at e2
  cases e2
  exact ⟨W1, FutG.refl _ _, R, qv.mono F.hf F.ad⟩
theorem Yl.tup {a : Addr} {vs : List V} {ds : List D} (h : ∀ W' H', FutS H0 W H W' H' → WOk W' H' → SqT K H' a vs) (q : DVs K ca W.hf W.ad vs ds) : Yl K ca H0 (Itt K a) W H ds := by
  intro i W1 H1 F w
  have s := h W1 H1 F w
  refine ⟨fun d e => ?_, fun hl => ⟨vs, s, by rw [q.length]; exact hl⟩⟩
  obtain ⟨v, e1, qv⟩ := q.get e
  refine ⟨⟨vs, v, s, e1⟩, fun x H' ⟨eH, y⟩ σ ρ S R => ?_⟩
  subst eH
  have e2 := y vs s
  rw [e1] at e2
  cases e2
  exact ⟨W1, FutG.refl _ _, R, qv.mono F.hf F.ad⟩
theorem pair_new {W1 : Wd} {H1 : Hp} {T : Addr} {x y : V} {dx dy : D} (hT : H1 T = none) (w : WOk W1 H1) (d0 : ∀ a o, H0 a = some o → ∃ o', H1 a = some o') (qx : DV K ca W1.hf W1.ad x dx) (qy : DV K ca W1.hf W1.ad y dy) {σ : L2.St} {ρ : Rho} {S : Sto} (R : Rep K ca H0 W1 H1 σ ρ S) :
    ∃ W', Fut W1 H1 W' (upd H1 T (.tup [x, y])) ∧ Rep K ca H0 W' (upd H1 T (.tup [x, y])) σ ρ S ∧ DV K ca W'.hf W'.ad (.ref T) (.tup [dx, dy]) := by
  have s : Same W1.hf (upd W1.hf T (.tup [x, y])) := same_upd (w.free hT).1
  exact ⟨W1.fz T (.tup [x, y]), Fut.new w hT, R.new hT, .tup (.inl upd_same) (.cons (qx.mono s fun _ _ h => h) (.cons (qy.mono s fun _ _ h => h) .nil))⟩
def dEnum (k : Nat) : List D → List D
  | [] => []
  | d :: r => .tup [.int (k : Nat), d] :: dEnum (k + 1) r
def dZip : List D → List D → List D
  | a :: r, b :: t => .tup [a, b] :: dZip r t
  | _, _ => []
theorem dZip_get : ∀ (l m : List D) (i : Nat) (d : D), (dZip l m)[i]? = some d → ∃ x y, l[i]? = some x ∧ m[i]? = some y ∧ d = .tup [x, y]
  | a :: r, b :: t, 0, d, e => ⟨a, b, rfl, rfl, by simp [dZip] at e; exact e.symm⟩
  | a :: r, b :: t, i + 1, d, e => by
    obtain ⟨x, y, h1, h2, h3⟩ := dZip_get r t i d (by simpa [dZip] using e)
    exact ⟨x, y, by simpa using h1, by simpa using h2, h3⟩
  | [], m, i, d, e => by simp [dZip] at e
  | a :: r, [], i, d, e => by simp [dZip] at e
theorem dZip_len : ∀ (l m : List D) (i : Nat), (dZip l m).length ≤ i → l.length ≤ i ∨ m.length ≤ i
  | a :: r, b :: t, i, h => by
    have h' : (dZip r t).length + 1 ≤ i := h
    rcases dZip_len r t (i - 1) (by omega) with z | z
    · exact .inl (by rw [List.length_cons]; omega)
    · exact .inr (by rw [List.length_cons]; omega)
  | [], m, i, h => .inl (Nat.zero_le _)
  | a :: r, [], i, h => .inr (Nat.zero_le _)
theorem Yl.zip {a b : Addr} {vs ws : List V} {ds es : List D} (h : ∀ W' H', FutS H0 W H W' H' → WOk W' H' → SqL K H' a vs) (h2 : ∀ W' H', FutS H0 W H W' H' → WOk W' H' → SqL K H' b ws)
    (q : DVs K ca W.hf W.ad vs ds) (q2 : DVs K ca W.hf W.ad ws es) : Yl K ca H0 (Itz K a b) W H (dZip ds es) := by
  intro i W1 H1 F w
  have s := h W1 H1 F w
  have s2 := h2 W1 H1 F w
  refine ⟨fun d e => ?_, fun hl => ⟨vs, ws, s, s2, by rw [q.length, q2.length]; exact dZip_len _ _ _ hl⟩⟩
  obtain ⟨x, y, e1, e2, rfl⟩ := dZip_get ds es i d e
  obtain ⟨v, e3, qv⟩ := q.get e1
  obtain ⟨u, e4, qu⟩ := q2.get e2
  refine ⟨⟨vs, ws, v, u, s, s2, e3, e4⟩, fun z H' ⟨T, v', u', ez, hT, eH, k1, k2⟩ σ ρ S R => ?_⟩
  subst ez; subst eH
  have e5 := k1 vs s
  rw [e3] at e5
  cases e5
  have e6 := k2 ws s2
  rw [e4] at e6
  cases e6
  exact pair_new hT w R.h0 (qv.mono F.hf F.ad) (qu.mono F.hf F.ad) R
def dRng (lo : Int) (n : Nat) : List D := (List.range n).map fun i => .int (lo + (i : Nat))
theorem Yl.range {lo : Int} {n : Nat} : Yl K ca H0 (Itr lo n) W H (dRng lo n) := by
  intro i W1 H1 F w
  refine ⟨fun d e => ?_, fun hl => by unfold dRng at hl; rw [List.length_map, List.length_range] at hl; exact hl⟩
  unfold dRng at e
  rw [List.getElem?_map] at e
  obtain ⟨j, h1, h2⟩ := Option.map_eq_some_iff.mp e
  obtain ⟨hj, h3⟩ := List.getElem?_eq_some_iff.mp h1
  rw [List.length_range] at hj
  rw [List.getElem_range] at h3
  subst h3; subst h2
  refine ⟨hj, fun x H' ⟨eH, ex⟩ σ ρ S R => ?_⟩
  subst eH; subst ex
  exact ⟨W1, FutG.refl _ _, R, .int _⟩
def dRngC (lo c : Int) (n : Nat) : List D := (List.range n).map fun i => .int (lo + (i : Nat) * c)
theorem Yl.str {x : Str} : Yl K ca H0 (Its x) W H (x.cps.toList.map fun c => .str ⟨#[c]⟩) := by
  intro i W1 H1 F w
  refine ⟨fun d e => ?_, fun hl => by rw [List.length_map, Array.length_toList] at hl; exact hl⟩
  rw [List.getElem?_map] at e
  obtain ⟨c, h1, h2⟩ := Option.map_eq_some_iff.mp e
  rw [Array.getElem?_toList] at h1
  subst h2
  refine ⟨(Array.getElem?_eq_some_iff.mp h1).1, fun y H' ⟨eH, c', hc, ey⟩ σ ρ S R => ?_⟩
  subst eH
  rw [h1] at hc
  cases hc
  subst ey
  exact ⟨W1, FutG.refl _ _, R, .str _⟩
end
theorem PI.or {tg e : Expr} {t t' : TI} (h : PI X tg e t) (h' : PI X tg e t') : PI X tg e (fun σ H R => t σ H R ∨ t' σ H R) :=
  ⟨fun pins s σ H R I q => q.elim (h.run pins s σ H R I) (h'.run pins s σ H R I)⟩
theorem sta_lst {K : PySem.W.Frag} {Hb : Hp} {W : Wd} {H : Hp} {v : V} {l : List D} (r : DR K ca .sta Hb W H v (.lst l)) : ∃ a vs, v = .ref a ∧ (∀ W' H', FutS H0 W H W' H' → WOk W' H' → SqL K H' a vs) ∧ SqL K H a vs ∧ DVs K ca W.hf W.ad vs l := by
  obtain ⟨a, vs, e, h, c, q⟩ := r
  exact ⟨a, vs, e, fun W' H' F _ => .inl (.inl (F.keep a _ h c).1), .inl (.inl h), q⟩
theorem sta_rol {K : PySem.W.Frag} {Hb : Hp} {W : Wd} {H : Hp} {v : V} {l : List D} (w : WOk W H) (r : DR K ca .sta Hb W H v (.rol l)) : ∃ a vs, v = .ref a ∧ (∀ W' H', FutS H0 W H W' H' → WOk W' H' → SqL K H' a vs) ∧ SqL K H a vs ∧ DVs K ca W.hf W.ad vs l := by
  obtain ⟨a, vs, e, h, q⟩ := DV.ofRol (show DV K ca W.hf W.ad v (.rol l) from r)
  exact ⟨a, vs, e, fun W' H' F w' => Same.lstq (F.hf.trans w'.sub) h, Same.lstq w.sub h, q⟩
theorem di_seq {tg e : Expr} {f : SE} (h : DE X ca H0 Wx .sta e f) : DI X ca H0 Wx tg e (sItems f) :=
  PI.imp (PI.or (pi_list h) (PI.or (pi_tup h) (pi_str h))) fun σ H R ⟨W, ρ, S, Rp, o⟩ => by
    have o1 := OutM.bind o
    match e : f ρ S with
    | none => rw [e] at o1; exact o1.elim
    | some (.error z, S') => rw [e] at o1; exact .inl ⟨W, ρ, S, Rp, by rw [e]; exact o1⟩
    | some (.ok d, S') =>
      rw [e] at o1
      cases d with
      | lst l =>
        refine .inl ⟨W, ρ, S, Rp, ?_⟩
        rw [e]
        intro W' H' F R' v r
        obtain ⟨a, vs, ev, k, k0, q⟩ := sta_lst (H0 := H0) r
        exact ⟨a, ev, ⟨vs, k0⟩, o1 W' H' F R' W' H' (FutG.refl _ _) R' _ (Yl.list k q)⟩
      | rol l =>
        refine .inl ⟨W, ρ, S, Rp, ?_⟩
        rw [e]
        intro W' H' F R' v r
        obtain ⟨a, vs, ev, k, k0, q⟩ := sta_rol (H0 := H0) R'.w r
        exact ⟨a, ev, ⟨vs, k0⟩, o1 W' H' F R' W' H' (FutG.refl _ _) R' _ (Yl.list k q)⟩
      | tup l =>
        refine .inr (.inl ⟨W, ρ, S, Rp, ?_⟩)
        rw [e]
        intro W' H' F R' v r
        obtain ⟨a, vs, ev, k, q⟩ := DV.ofTup (show DV X.K ca W'.hf W'.ad v (.tup l) from r)
        exact ⟨a, ev, ⟨vs, R'.w.tupOf k⟩, o1 W' H' F R' W' H' (FutG.refl _ _) R' _ (Yl.tup (fun W2 H2 F2 w2 => (Same.tupQ (F2.hf.trans w2.sub) k).sq) q)⟩
      | str x =>
        refine .inr (.inr ⟨W, ρ, S, Rp, ?_⟩)
        rw [e]
        intro W' H' F R' v r
        exact ⟨x, DV.ofStr (show DV X.K ca W'.hf W'.ad v (.str x) from r), o1 W' H' F R' W' H' (FutG.refl _ _) R' _ Yl.str⟩
      | _ =>
        refine .inl ⟨W, ρ, S, Rp, ?_⟩
        rw [e]
        intro W' H' F R' v r
        exact False.elim (o1 W' H' F R')
def dInts : List D → Option (List Int)
  | [] => some []
  | x :: r => (asInt x).bind fun i => (dInts r).map (i :: ·)
theorem dInts_eq : ∀ {ds : List D} {ks : List Int}, dInts ds = some ks → ds = ks.map D.int
  | [], ks, e => by cases e; rfl
  | x :: r, ks, e => by
    obtain ⟨i, e1, e2⟩ := Option.bind_eq_some_iff.mp (show ((asInt x).bind fun i => (dInts r).map (i :: ·)) = some ks from e)
    obtain ⟨l, e3, e4⟩ := Option.map_eq_some_iff.mp e2
    subst e4
    rw [asInt_eq e1, dInts_eq e3]; rfl
theorem ints_of {K : PySem.W.Frag} {m : Md} {Hb : Hp} {W : Wd} {H : Hp} : ∀ {ks : List Int} {vs : List V}, DRs K ca m Hb W H vs (ks.map D.int) → vs = ks.map V.int
  | [], _, .nil => rfl
  | k :: r, _, .cons q qr => by
    rw [ints_of qr]
    cases m <;> exact congrArg (fun v => v :: r.map V.int) (DV.ofInt q)
noncomputable def oRng (ds : List D) : Option (List D) := match dInts ds with
  | some [j] => cif (-(2 ^ 62) ≤ j ∧ j < 2 ^ 62) (some (dRng 0 j.toNat)) none
  | some [i, j] => cif (-(2 ^ 62) ≤ i ∧ i < 2 ^ 62 ∧ -(2 ^ 62) ≤ j ∧ j < 2 ^ 62) (some (dRng i (j - i).toNat)) none
  | some [i, j, c] => cif (c ≠ 0 ∧ c.natAbs < 1073741824 ∧ Builtin.Range.small i j c = true) (some (dRngC i c (Builtin.Range.rangeSize i j c).toNat)) none
  | _ => none
noncomputable def sRng (fa : SA) : SA := fun ρ => mb (fa ρ) fun ds => mo (oRng ds)
theorem range_of {fa : SA} {n : Nat} {σ : L2.St} {H : Hp} {R : It → Hp → Prop} (hl : SAlen fa n) (h : tI X.K ca H0 Wx (sRng fa) σ H R) :
    tA X.K ca H0 Wx .frz fa σ H fun vs H1 => ∃ ks : List Int, vs = ks.map V.int ∧ ks.length = n ∧ ∃ ds, oRng (ks.map D.int) = some ds ∧ ∀ J, (∀ K W H, Yl K ca H0 J W H ds) → R J H1 := by
  obtain ⟨W, ρ, S, Rp, o⟩ := h
  have o1 := OutM.bind o
  match e : fa ρ S with
  | none => rw [e] at o1; exact o1.elim
  | some (.error z, S') => rw [e] at o1; exact ⟨W, ρ, S, Rp, by rw [e]; exact o1⟩
  | some (.ok ds, S') =>
    rw [e] at o1
    refine ⟨W, ρ, S, Rp, ?_⟩
    rw [e]
    intro W' H' F R' vs q
    have h := o1 W' H' F R'
    cases e2 : dInts ds with
    | none => unfold oRng at h; simp only [e2] at h; exact False.elim h
    | some ks =>
      have e3 := dInts_eq e2
      subst e3
      have hk := hl _ _ _ _ e
      rw [List.length_map] at hk
      refine ⟨ks, ints_of q, hk, ?_⟩
      cases e4 : oRng (ks.map D.int) with
      | none => rw [e4] at h; exact False.elim h
      | some l =>
        rw [e4] at h
        exact ⟨l, rfl, fun J y => h W' H' (FutG.refl _ _) R' J (y _ _ _)⟩
theorem dInts_map : ∀ (ks : List Int), dInts (ks.map D.int) = some ks
  | [] => rfl
  | k :: r => by
    show ((some k).bind fun i => (dInts (r.map D.int)).map (i :: ·)) = _
    rw [dInts_map r]; rfl
theorem di_range1 {tg a : Expr} {fa : SA} {p pos : Pos} (hg : Gl X "range") (hm : X.mg "range" = none) (ha : DA X ca H0 Wx .frz [a] fa) (hl : SAlen fa 1) (hs : starEach [a] X.env = [(false, eval a X.env)] := by rfl) : DI X ca H0 Wx tg (.Call (.Name "range" p) [a] [] pos) (sRng fa) :=
  PI.imp (pi_range1 hg hm ha hs) fun σ H R h => by
    obtain ⟨W, ρ, S, Rp, o⟩ := range_of hl h
    refine ⟨W, ρ, S, Rp, o.imp fun ds S' W' H' F R' k vs q => ?_⟩
    obtain ⟨ks, rfl, e1, ds, e2, k⟩ := k vs q
    match ks, e1 with
    | [j], _ =>
      unfold oRng at e2
      rw [dInts_map] at e2
      have e2 : (cif (-(2 ^ 62) ≤ j ∧ j < 2 ^ 62) (some (dRng 0 j.toNat)) none) = some ds := e2
      by_cases hb : -(2 ^ 62) ≤ j ∧ j < 2 ^ 62
      · rw [cif_pos hb] at e2; cases e2
        exact ⟨j, rfl, hb.1, hb.2, k _ fun _ _ _ => Yl.range⟩
      · rw [cif_neg hb] at e2; cases e2
theorem di_range2 {tg a b : Expr} {fa : SA} {p pos : Pos} (hg : Gl X "range") (hm : X.mg "range" = none) (ha : DA X ca H0 Wx .frz [a, b] fa) (hl : SAlen fa 2) (hs : starEach [a, b] X.env = [(false, eval a X.env), (false, eval b X.env)] := by rfl) (hs2 : starEach [b] X.env = [(false, eval b X.env)] := by rfl) :
    DI X ca H0 Wx tg (.Call (.Name "range" p) [a, b] [] pos) (sRng fa) :=
  PI.imp (pi_range2 hg hm ha hs hs2) fun σ H R h => by
    obtain ⟨W, ρ, S, Rp, o⟩ := range_of hl h
    refine ⟨W, ρ, S, Rp, o.imp fun ds S' W' H' F R' k vs q => ?_⟩
    obtain ⟨ks, rfl, e1, ds, e2, k⟩ := k vs q
    match ks, e1 with
    | [i, j], _ =>
      unfold oRng at e2
      rw [dInts_map] at e2
      have e2 : (cif (-(2 ^ 62) ≤ i ∧ i < 2 ^ 62 ∧ -(2 ^ 62) ≤ j ∧ j < 2 ^ 62) (some (dRng i (j - i).toNat)) none) = some ds := e2
      by_cases hb : -(2 ^ 62) ≤ i ∧ i < 2 ^ 62 ∧ -(2 ^ 62) ≤ j ∧ j < 2 ^ 62
      · rw [cif_pos hb] at e2; cases e2
        exact ⟨i, j, rfl, hb, k _ fun _ _ _ => Yl.range⟩
      · rw [cif_neg hb] at e2; cases e2
def dLst : D → Option (List D)
  | .lst l => some l
  | .rol l => some l
  | _ => none
def oEnum (ds : List D) : Option (List D) := match ds with
  | [d] => (dLst d).map (dEnum 0)
  | _ => none
def oZip (ds : List D) : Option (List D) := match ds with
  | [a, b] => (dLst a).bind fun l => (dLst b).map (dZip l)
  | _ => none
theorem sta_l {K : PySem.W.Frag} {Hb : Hp} {W : Wd} {H : Hp} {v : V} {d : D} {l : List D} (e : dLst d = some l) (w : WOk W H) (r : DR K ca .sta Hb W H v d) : ∃ a vs, v = .ref a ∧ (∀ W' H', FutS H0 W H W' H' → WOk W' H' → SqL K H' a vs) ∧ SqL K H a vs ∧ DVs K ca W.hf W.ad vs l := by
  cases d <;> cases e
  · exact sta_lst r
  · exact sta_rol w r
def whD (fc : ST) (fb : SS) : Nat → SS
  | 0, _, _ => none
  | n + 1, ρ, S => match fc ρ S with
    | none => none
    | some (.error e, S') => some (.exc ρ e, S')
    | some (.ok false, S') => some (.nx ρ, S')
    | some (.ok true, S') => match fb ρ S' with
      | some (.nx ρ', S2) => whD fc fb n ρ' S2
      | some (.cnt ρ', S2) => whD fc fb n ρ' S2
      | some (.brk ρ', S2) => some (.nx ρ', S2)
      | z => z
open Classical in
noncomputable def bWhile (fc : ST) (fb : SS) : SS := fun ρ S => if h : ∃ n r, whD fc fb n ρ S = some r then whD fc fb h.choose ρ S else none
theorem ds_while {c : Expr} {body : List Stmt} {fc : ST} {fb : SS} {pos : Pos} (hp : PassesOwn (model X.prog X.w) X.A X.env X.xe) (hc : DT X ca H0 Wx c fc) (hb : DSs X ca H0 Wx mr body fb) : DS X ca H0 Wx mr (.While c body [] pos) (bWhile fc fb) :=
  PS.imp (ps_while hp hc hb) fun D σ H ⟨W0, ρ0, S0, R0, o⟩ => by
    unfold bWhile at o
    by_cases hh : ∃ n r, whD fc fb n ρ0 S0 = some r
    · rw [dif_pos hh] at o
      generalize hh.choose = n at o
      refine ⟨fun m σ H => ∃ W ρ S, Rep X.K ca H0 W H σ ρ S ∧ OutS X.K ca H0 Wx mr W H D (whD fc fb m ρ S), ⟨n, W0, ρ0, S0, R0, o⟩, ?_⟩
      rintro m σ H ⟨W, ρ, S, R, h⟩
      cases m with
      | zero => exact False.elim h
      | succ m =>
        refine ⟨W, ρ, S, R, ?_⟩
        unfold whD at h
        match e : fc ρ S with
        | none => simp only [e] at h; exact False.elim h
        | some (.error z, S') =>
          simp only [e] at h
          exact fun W' H' cls od f R' xv => h W' H' σ cls od (Fut.s f R.h0) R' xv
        | some (.ok false, S') =>
          simp only [e] at h
          exact fun W' H' F R' => iteF (OutS.nx R' (OutS.later (Fut.s F R.h0) h))
        | some (.ok true, S') =>
          simp only [e] at h
          refine fun W' H' F R' => iteT ⟨fun σ' H' => ∃ W ρ S, Rep X.K ca H0 W H' σ' ρ S ∧ OutS X.K ca H0 Wx mr W H' D (whD fc fb m ρ S), fun σ' H' n' => ⟨m, Nat.lt_succ_self m, n'⟩, W', ρ, S', R', ?_⟩
          have h' := OutS.later (Fut.s F R.h0) h
          match eb : fb ρ S' with
          | none => simp only [eb] at h'; exact h'
          | some (.nx ρ', S2) => simp only [eb] at h'; exact fun W2 H2 σ3 F2 R3 => ⟨W2, ρ', S2, R3, OutS.later F2 h'⟩
          | some (.cnt ρ', S2) => simp only [eb] at h'; exact fun W2 H2 σ3 F2 R3 => ⟨W2, ρ', S2, R3, OutS.later F2 h'⟩
          | some (.brk ρ', S2) => simp only [eb] at h'; exact h'
          | some (.ret d, S2) => simp only [eb] at h'; exact h'
          | some (.exc ρ' z, S2) => simp only [eb] at h'; exact h'
    · rw [dif_neg hh] at o; exact False.elim o
end
end DL
namespace PySem.W
open PySem PySem.Spec PySem.Calls PyProof.Rows
section
variable {prog : Program} {w : World} {A : Around} {E : Value → Shared → Prop} {s : Shared} {K : Frag} {x D : Addr} {ox : Obj} {od : Option Obj}
end
end PySem.W
namespace DL
open PySem PySem.Spec PyProof.Rows L2
section
variable {X : Cx} {ca : Ca} {H0 : Bs} {Wx : WX} {mr : Md}
def spXI (C : Addr) (fs : List Str) : Sp := fun vs H Q _ => ∃ (a : Addr) (ws : List V), vs = .ref a :: ws ∧ ws.length = fs.length ∧ H a = some (exo a C none) ∧
  ∀ d H2, d ≠ a → H d = none → H2 a = some (exo a C (some d)) → H2 d = some (exd d (fs.zip ws).reverse) → (∀ b, b ≠ a → b ≠ d → H2 b = H b) → Q .non H2
def bRaise (c : Str) (fs : List Str) (fa : SA) : SS := fun ρ => sb (fa ρ) ρ fun ds S => if ds.length ≤ 1000 ∧ ds.length = fs.length then some (.exc ρ ⟨c, some (fs.zip ds).reverse⟩, S) else none
theorem DFs.zip {K : PySem.W.Frag} {h : Hp} {ad : Nat → Option Addr} : ∀ {fs : List Str} {vs : List V} {ds : List D} {vt : List (Str × V)} {dt : List (Str × D)}, DVs K ca h ad vs ds → DFs K ca h ad vt dt → DFs K ca h ad ((fs.zip vs).reverse ++ vt) ((fs.zip ds).reverse ++ dt)
  | [], _, _, _, _, _, t => t
  | _ :: _, _, _, _, _, .nil, t => t
  | f :: fs, _, _, _, _, .cons q r, t => by
    rw [List.zip_cons_cons, List.zip_cons_cons, List.reverse_cons, List.reverse_cons, List.append_assoc, List.append_assoc]
    exact DFs.zip (fs := fs) r (.cons q t)
theorem ds_raise {c : Str} {fs : List Str} {x : Str} {C fI : Addr} {k : Nat} {fd : FuncData} {ps : List Str} {e : Expr} {es : List Expr} {fa : SA} {p pos pos' : Pos} (hc : X.calm = true) (tk : Takes X Wx) (hC : ca c = C)
    (T : OexC X.K C) (iC : W.findIn X.K (.ref C) "__init__" = some (some (.ref fI))) (tI : PySem.W.typeIn X.K (.ref fI) = some (.type "function"))
    (F1 : FnOk X.prog X.w X.K X.mg X.base (CXP X.prog X.w) k fI fd ps (spXI C fs)) (hr : Room (k + 1) X.A) (hb : Binds X.K fd ps []) (hg : Gl X x) (hm : X.mg x = some (.ref C)) (ha : DA X ca H0 Wx .frz (e :: es) fa)
    (hdb : (x == ("__debug__" : Str)) = false := by decide) (he : starEach (e :: es) X.env = (false, eval e X.env) :: starEach es X.env := by rfl) (hpl : (backTo pos (starEach es X.env)).any (·.1) = false := by rfl) :
    DS X ca H0 Wx mr (.Raise (some (.Call (.Name x p) (e :: es) [] pos)) none pos') (bRaise c fs fa) := by
  have hx : Passes (CXP X.prog X.w) X (fun _ _ _ => False) := fun _ _ _ _ _ _ _ h => by
    obtain ⟨_, _, _, _, _, _, _, _, _, _, _, _, z⟩ := h
    exact z.elim
  refine PS.imp (ps_raise hc tk (pmk_oex (dvs := []) T iC tI F1 hr hb .nil hx hg hm ha hdb he hpl)) fun D σ H ⟨W, ρ, S, R, o⟩ => ⟨W, ρ, S, R, (OutS.bind R o).imp fun ds S' W' H' F R' h vs q => ?_⟩
  have q' := DRs.dv q
  have hl := q'.length
  by_cases hz : ds.length ≤ 1000 ∧ ds.length = fs.length
  · rw [if_pos hz] at h
    refine ⟨by omega, fun a hn => ⟨a, vs, by rw [List.append_nil], by omega, upd_same, fun d H2 hda hd e1 e2 e3 => ⟨rfl, d, _, e1, e2, ?_, ?_⟩⟩⟩
    · rw [upd_ne hda] at hd; exact hd
    · rw [upd_ne hda] at hd
      have eH : upd (del H2 a) d (.xd (fs.zip vs).reverse) = upd H' d (.xd (fs.zip vs).reverse) := by
        funext b
        by_cases hb : b = d
        · rw [hb, upd_same, upd_same]
        · rw [upd_ne hb, upd_ne hb]
          by_cases hba : b = a
          · rw [hba, del_same]; exact hn.symm
          · rw [del_ne hba, e3 b hba hb, upd_ne hba]
      rw [eH]
      refine h (W'.fz d (.xd (fs.zip vs).reverse)) _ σ (.ref C) (some d) (Fut.s (Fut.new R'.w hd) R'.h0) (R'.new hd) ⟨by rw [hC], d, _, rfl, upd_same, ?_⟩
      have z := DFs.zip (fs := fs) (q'.mono (same_upd (o := HO.xd (fs.zip vs).reverse) (R'.w.free hd).1) fun _ _ h => h) (.nil)
      rw [List.append_nil, List.append_nil] at z
      exact z
  · rw [if_neg hz] at h; exact False.elim h
section
variable {P : Program} {w : World} {K : PySem.W.Frag} {mg : Str → Option Value} {base : Heap} {x qual : Str} {params : Arguments} {scope : Scope} {f C : Addr} {fd : FuncData}
theorem okXI1 {x0 x1 f1 : Str} {p1 p2 p3 p4 : Pos} (F : FunD K x qual params [.Assign [.Attribute (.Name x0 p1) f1 p2] (.Name x1 p3) p4] scope [] [] f fd) (S : FnScope [x0, x1] [x0, x1] scope)
    (T : OexC K C) (h1 : W.findIn K (.ref C) f1 = some none) (l0 : scope.names.lookup x0 = some .local := by rfl) (l1 : scope.names.lookup x1 = some .local := by rfl)
    (d0 : (x0 == ("__debug__" : Str)) = false := by decide) (d1 : (x1 == ("__debug__" : Str)) = false := by decide) (c0 : (x0 == ("__classdict__" : Str)) = false := by decide) (c1 : (x1 == ("__classdict__" : Str)) = false := by decide) :
    FnOk P w K mg base (CXP P w) 1 f fd [x0, x1] (spXI C [f1]) := by
  refine F.ok S (fun vs H Q E h => ?_) fun cdv A outer s H vs Q E hr h => ?_
  · obtain ⟨a, ws, rfl, hl, _⟩ := h
    rw [List.length_cons, hl]; rfl
  · obtain ⟨a, ws, rfl, hl, ha, q⟩ := h
    match ws, hl with
    | [y], _ =>
      refine ⟨_, pss_one (ps_ost (pe_var (i := 0) rfl (.inl l0) d0 c0) (pe_var (i := 1) rfl (.inl l1) d1 c1)), _, rfl, _, rfl, a, C, rfl, T, h1, .inl ⟨ha, fun dx hd hne => ?_⟩⟩
      exact q dx _ hne hd upd_same (by rw [upd_ne hne, upd_same]; rfl) fun b h1 h2 => by rw [upd_ne h1, upd_ne h2]
end
def bRaiseT (c : Str) (f : SE) : SS := fun ρ => sb (f ρ) ρ fun _ S => some (.exc ρ ⟨c, none⟩, S)
theorem ds_raiseT {c : Str} {x : Str} {C : Addr} {bmB : List Value} {B newId initId : String} {e : Expr} {f : SE} {p pos pos' : Pos} (hc : X.calm = true) (tk : Takes X Wx) (hC : ca c = C)
    (F : ExcBaseFacts B newId initId bmB) (q : PySem.W.excIn X.K C bmB newId = true) (gC : X.mg x = some (.ref C)) (kC : W.keepIn X.K (.ref C) = true) (r : Raises X (.ref C)) (hg : Gl X x) (he : DE X ca H0 Wx .bor e f)
    (hs : starEach [e] X.env = (false, eval e X.env) :: starEach [] X.env := by rfl) (hdb : (x == ("__debug__" : Str)) = false := by decide) :
    DS X ca H0 Wx mr (.Raise (some (.Call (.Name x p) [e] [] pos)) none pos') (bRaiseT c f) :=
  PS.imp (ps_raise hc tk (SkE.pmk_own1 F q gC kC r hg he hs hdb)) fun D σ H ⟨W, ρ, S, R, o⟩ => ⟨W, ρ, S, R, (OutS.bind R o).imp fun d S' W' H' F R' h v _ =>
    h W' H' σ (.ref C) none (FutG.refl _ _) R' ⟨by rw [hC], rfl⟩⟩
def notEx : Sl → Bool
  | .ex _ => false
  | _ => true
section
variable {K : PySem.W.Frag} {W : Wd} {H : Hp} {σ : L2.St} {ρ : Rho} {S : Sto}
theorem SlotOk.toEx {i : Nat} {v : Option V} {x : Sl} {e : Option (Addr × Value × Option Addr)} (h : SlotOk K ca H0 W H i v x) (hn : H0.ex = none) : SlotOk K ca ⟨H0.h, e⟩ W H i v x := by
  cases x <;> first | exact h | skip
  obtain ⟨a, od, cls, _, z, _⟩ := h
  rw [hn] at z; cases z
theorem SlotOk.ofEx {i : Nat} {v : Option V} {x : Sl} {e : Option (Addr × Value × Option Addr)} (h : SlotOk K ca ⟨H0.h, e⟩ W H i v x) (hn : notEx x = true) : SlotOk K ca H0 W H i v x := by
  cases x <;> first | exact h | cases hn
theorem Rep.toEx {e : Option (Addr × Value × Option Addr)} (R : Rep K ca H0 W H σ ρ S) (hn : H0.ex = none) : Rep K ca ⟨H0.h, e⟩ W H σ ρ S :=
  ⟨R.w, R.s, R.len, fun i x z => by obtain ⟨v, h1, h2⟩ := R.sl i x z; exact ⟨v, h1, h2.toEx hn⟩, R.h0⟩
theorem Rep.ofEx {e : Option (Addr × Value × Option Addr)} (R : Rep K ca ⟨H0.h, e⟩ W H σ ρ S) (hn : ρ.all notEx = true) : Rep K ca H0 W H σ ρ S :=
  ⟨R.w, R.s, R.len, fun i x z => by obtain ⟨v, h1, h2⟩ := R.sl i x z; exact ⟨v, h1, h2.ofEx (List.all_eq_true.mp hn x (List.mem_of_getElem? z))⟩, R.h0⟩
theorem Rep.setO {i : Nat} {v : Option V} {x : Sl} (R : Rep K ca H0 W H σ ρ S) (h : SlotOk K ca H0 W H i v x) : Rep K ca H0 W H (σ.set i v) (ρ.set i x) S where
  w := R.w
  s := R.s
  len := by rw [List.length_set, List.length_set]; exact R.len
  sl := fun j y e => by
    by_cases hj : i = j
    · subst hj
      have hi : i < ρ.length := by
        have z := (List.getElem?_eq_some_iff.mp e).1
        rw [List.length_set] at z; exact z
      rw [List.getElem?_set_self hi] at e; cases e
      exact ⟨v, List.getElem?_set_self (by rw [R.len]; exact hi), h⟩
    · rw [List.getElem?_set_ne hj] at e
      obtain ⟨u, h1, h2⟩ := R.sl j y e
      exact ⟨u, by rw [List.getElem?_set_ne hj]; exact h1, h2⟩
  h0 := R.h0
end
def clr (i : Nat) (ρ : Rho) (S : Sto) (k : Rho → SOut) : Option (SOut × Sto) := if (ρ.set i .no).all notEx = true then some (k (ρ.set i .no), S) else none
def suA (i : Nat) (r : Option (SOut × Sto)) : Option (SOut × Sto) := match r with
  | some (.nx ρ, S) => clr i ρ S .nx
  | some (.brk ρ, S) => clr i ρ S .brk
  | some (.cnt ρ, S) => clr i ρ S .cnt
  | some (.ret d, S) => some (.ret d, S)
  | _ => none
def bTryAs (i : Nat) (mx : Str → Option Bool) (fb fs : SS) : SS := fun ρ S => match fb ρ S with
  | some (.exc ρ' x, S') => match mx x.c with
    | none => none
    | some false => some (.exc ρ' x, S')
    | some true => suA i (fs (ρ'.set i (.ex x)) S')
  | r => r
def exAt (ρ : Rho) (i : Nat) : Option Xc := match ρ[i]? with
  | some (.ex x) => some x
  | _ => none
def xField (tb : List Str) (f : Str) (x : Xc) : Option D := if tb.contains x.c = true then x.fs.bind fun l => l.lookup f else none
def sXf (i : Nat) (tb : List Str) (f : Str) : SE := fun ρ S => match exAt ρ i with
  | none => none
  | some x => mo (xField tb f x) S
theorem DFs.look {K : PySem.W.Frag} {h : Hp} {ad : Nat → Option Addr} {n : Str} {d : D} : ∀ {vfs : List (Str × V)} {fs : List (Str × D)}, DFs K ca h ad vfs fs → fs.lookup n = some d → ∃ v, vfs.lookup n = some v ∧ DV K ca h ad v d
  | _, _, .nil, e => by cases e
  | _, _, .cons (k := k) q r, e => by
    rw [List.lookup_cons] at e ⊢
    cases hk : n == k with
    | true => rw [hk] at e; cases e; exact ⟨_, rfl, q⟩
    | false => rw [hk] at e; exact DFs.look r e
def sIsE (i : Nat) (tb : List (Str × Bool)) : SE := fun ρ S => match exAt ρ i with
  | none => none
  | some x => mo ((tb.lookup x.c).map D.bl) S
theorem mem_of_lookup {β : Type} {c : Str} {b : β} : ∀ {l : List (Str × β)}, l.lookup c = some b → (c, b) ∈ l
  | [], e => by cases e
  | (k, v) :: r, e => by
    rw [List.lookup_cons] at e
    cases hk : c == k with
    | true => rw [hk] at e; cases e; rw [beq_iff_eq.mp hk]; exact List.mem_cons_self
    | false => rw [hk] at e; exact List.mem_cons_of_mem _ (mem_of_lookup e)
end
end DL
namespace DL
open PySem PySem.Spec PyProof.Rows L2
section
variable {K : PySem.W.Frag} {x qual : Str} {params : Arguments} {body : List Stmt} {scope : Scope} {dvs : List V} {kws : List (Str × V)} {f : Addr} {fd : FuncData} {ps : List Str}
end
theorem PK.imp {X : Cx} {e : List Keyword} {t t' : TA} (h : PK X e t) (i : ∀ σ H Q, t' σ H Q → t σ H Q) : PK X e t' := ⟨fun pos pins s σ H Q I q => h.run pos pins s σ H Q I (i σ H Q q)⟩
section
variable {X : Cx} {ca : Ca} {H0 : Bs} {Wx : WX} {mr : Md}
theorem DRm.later {K : PySem.W.Frag} {H H1 H2 : Hp} {W1 W2 : Wd} (f : Fut W1 H1 W2 H2) : ∀ {ms : List Bool} {vs : List V} {ds : List D}, DRm K ca H W1 H1 (ms.map pmd) vs ds → DRm K ca H W2 H2 (ms.map pmd) vs ds
  | [], _, _, .nil => .nil
  | true :: _, _, _, .cons q r => .cons (DR.later (by decide) f q) (DRm.later f r)
  | false :: _, _, _, .cons q r => .cons (DR.later (by decide) f q) (DRm.later f r)
theorem DRm.length {K : PySem.W.Frag} {H H1 : Hp} {W1 : Wd} : ∀ {ms : List Md} {vs : List V} {ds : List D}, DRm K ca H W1 H1 ms vs ds → vs.length = ms.length
  | _, _, _, .nil => rfl
  | _, _, _, .cons _ r => congrArg (· + 1) (DRm.length r)
def sCallN (sem : Sem1) (fa fk : SA) : SE := fun ρ => mb (fa ρ) fun ds => mb (fk ρ) fun es S => sem (ds ++ es) S
end
end DL
namespace DL
open PySem PySem.Spec PyProof.Rows L2
structure CalF (P : Program) (w : World) (K : PySem.W.Frag) (mg : Str → Option Value) (base : Heap) (ca : Ca) (x : Str) (k : Nat) (ms : List Bool) (mr : Md) (sem : Sem1) (dds : List D) (kns : List (List Str)) : Prop where
  ex : ∃ (a : Addr) (fd : FuncData) (ps : List Str), mg x = some (.ref a) ∧ W.keepIn K (.ref a) = true ∧ FnG P w K mg base k a fd ps (spD K ca ms mr sem) ∧
    (∀ j, j ≤ dds.length → ∃ dvs ds, Vals dvs ds ∧ Binds K fd ps ds ∧ DVs K ca (fun _ => none) (fun _ => none) dvs (dds.drop j)) ∧
    (∀ ks, ks ∈ kns → KBn K fd ps (ms.length - ks.length) ks (fun us ws => us ++ ws) (fun vs zs => vs ++ zs))
  sc : dds.all isScal = true
theorem CalF.sem' {P : Program} {w : World} {K : PySem.W.Frag} {mg : Str → Option Value} {base : Heap} {ca : Ca} {x : Str} {k : Nat} {ms : List Bool} {mr : Md} {sem sem' : Sem1} {dds : List D} {kns : List (List Str)} (C : CalF P w K mg base ca x k ms mr sem dds kns)
    (h : ∀ ds S r, sem' ds S = some r → sem ds S = some r) : CalF P w K mg base ca x k ms mr sem' dds kns := by
  obtain ⟨⟨a, fd, ps, h1, h2, h3, h4, h5⟩, h6⟩ := C
  exact ⟨⟨a, fd, ps, h1, h2, h3.sem h, h4, h5⟩, h6⟩
section
variable {X : Cx} {ca : Ca} {H0 : Bs} {Wx : WX} {mr m : Md}
theorem all_drop {α : Type} {p : α → Bool} {l : List α} (h : l.all p = true) (j : Nat) : (l.drop j).all p = true :=
  List.all_eq_true.mpr fun x hx => List.all_eq_true.mp h x (List.mem_of_mem_drop hx)
theorem de_callF {k : Nat} {ms : List Bool} {sem : Sem1} {dds : List D} {kns : List (List Str)} {x : Str} {p pos : Pos} {e : Expr} {es : List Expr} {fa : SA} (n j : Nat)
    (C : CalF X.prog X.w X.K X.mg X.base ca x k ms mr sem dds kns) (hG : X.A.guards = some []) (hr : Room k X.A) (hg : Gl X x) (tk : Takes X Wx) (ha : DAm X ca H0 Wx ((ms.take n).map pmd) (e :: es) fa)
    (hj : j ≤ dds.length := by decide) (hn : (ms.drop n).length = (dds.drop j).length := by rfl)
    (hmr : mr = .frz ∨ mr = .fre := by first | exact .inl rfl | exact .inr rfl)
    (hdb : (x == ("__debug__" : Str)) = false := by decide) (he : starEach (e :: es) X.env = (false, eval e X.env) :: starEach es X.env := by rfl) (hpl : (backTo pos (starEach es X.env)).any (·.1) = false := by rfl) :
    DE X ca H0 Wx mr (.Call (.Name x p) (e :: es) [] pos) (sCallU sem (dds.drop j) fa) := by
  obtain ⟨⟨a, fd, ps, h1, h2, h3, h4, h5⟩, h6⟩ := C
  obtain ⟨dvs, ds, k1, k2, k3⟩ := h4 j hj
  rw [← List.take_append_drop n ms] at h3
  exact de_call h3 hG hr hg h1 h2 k2 k1 k3 (all_drop h6 j) tk ha hn hmr hdb he hpl
def sScal (f : SE) : SE := fun ρ => mb (f ρ) fun d => if isScal d = true then mp d else mf
def sNeg (f : SE) : SE := fun ρ => mb (f ρ) fun d => mo ((asInt d).map fun i => .int (-i))
theorem de_neg {e : Expr} {f : SE} {pos : Pos} (h : DE X ca H0 Wx .frz e f) : DE X ca H0 Wx m (.UnaryOp .USub e pos) (sNeg f) :=
  PE.imp (pe_un un_neg h) fun σ H Q ⟨W, ρ, S, R, o⟩ => ⟨W, ρ, S, R, (OutM.bind o).imp fun d S1 W1 H1 F1 R1 h1 x D1 => by
    cases e : asInt d with
    | none => rw [e] at h1; exact False.elim h1
    | some i =>
      rw [e] at h1
      rw [asInt_eq e] at D1
      exact ⟨i, DV.ofInt D1, OutM.re R1 h1 _ (DR.scal rfl (.int _))⟩⟩
theorem Room.u65 {k : Nat} {A : Around} (r : Room k A) : A.units + 65 < cLine := by have := r.un; omega
end
section
variable {P : Program} {w : World} {K : PySem.W.Frag} {mg mb : Str → Option Value} {k : Nat} {fa a : Addr} {fd : FuncData} {x : Str} {sp : Sp} {s₁ : Shared} {vs : List Value} {ns : List Int}
theorem law_end (KX : K.In s₁.heap) (hns : s₁.heap.Ns mainGlobals mg) (hb : s₁.heap.Ns builtinsNs mb) (hbb : ∀ x : Str, x ≠ "__name__" → mb x = bootBuiltins x) (hlim : s₁.heap.NoLimit) (hg : s₁.gens = #[])
    (ha : s₁.heap.get? a = some { cls := .type "list", data := .seq vs.toArray }) (hi : IntsAre vs ns) (hl : ns.length ≤ sizeLine) (hr : Room k callerA) (F : ∀ base : Heap, K.In base → base.Ns mainGlobals mg → FnG P w K mg base k fa fd [x] sp)
    (hbind : ∀ (s : Shared) (u : Value), BindsTo s fd ⟨[u], []⟩ [(x, u)]) (hsp : ∀ H : Hp, Only H → SqL K H a (ns.map V.int) → sp [.ref a] H (fun v _ => v = .bl true) fun _ _ _ => False) :
    codeAny (model P w) callerA (.call (.ref fa) ⟨[.ref a], []⟩) (fun r s' => r = .ok (.ret (.bool true)) ∧ OldK s₁.heap s'.heap ∧ s'.os = s₁.os ∧ AllBare s'.gens) s₁ := by
  have rv := vals_ints hi
  have nl := hi.length
  have main : ∀ H : Hp, Only H → SqL K H a (ns.map V.int) → HOk P w H s₁.heap → (∀ b u, H b = some u → b = a ∧ K.lookup a = none) →
      codeAny (model P w) callerA (.call (.ref fa) ⟨[.ref a], []⟩) (fun r s' => r = .ok (.ret (.bool true)) ∧ OldK s₁.heap s'.heap ∧ s'.os = s₁.os ∧ AllBare s'.gens) s₁ := by
    intro H hO hS hok hA
    have un : ∀ {b : Addr}, (b = a → False) → H b = none := fun {b} z => by
      cases q : H b with
      | none => rfl
      | some u => exact (z (hA b u q).1).elim
    have nsB : ∀ {b : Addr} {m : Str → Option Value}, s₁.heap.Ns b m → (hidT s₁.heap H).Ns b m := fun {b m} ⟨o, es, ep, e, dd, r⟩ => ⟨o, es, ep, hidT_get e (un fun z => by
      rw [z, ha] at e; cases e
      exact Data.noConfusion dd), dd, r⟩
    have KB : K.In (hidT s₁.heap H) := fun b o e => hidT_get (KX b o e) (by
      cases q : H b with
      | none => rfl
      | some u =>
        obtain ⟨z1, z2⟩ := hA b u q
        rw [z1, z2] at e; cases e)
    obtain ⟨mc, g1, g2⟩ := hlim
    have M : Mod K mg (hidT s₁.heap H) := ⟨KB, nsB hns, ⟨mb, nsB hb, hbb⟩, ⟨mc, nsB g1, g2⟩⟩
    have e0 : Env0 P w K mg (hidT s₁.heap H) callerA [] s₁ H := ⟨rfl, M, fun b o e => of_hidT e, Nat.le_of_eq (hidT_size _ _), trivial, fun b z => absurd z List.not_mem_nil, hok, .of_eq hg⟩
    have run := (F _ KB (nsB hns)).go callerA [] s₁ H ⟨[.ref a], []⟩ [.ref a] [.ref a] _ _ rfl hr e0 (hbind s₁ (.ref a)) (.cons rfl .nil) (hsp H hO hS)
    refine codeAny_mono run fun r s' h => ?_
    match r, h with
    | .error e, h =>
      obtain ⟨_, _, _, _, _, _, _, _, _, _, _, _, z⟩ := h
      exact z.elim
    | .ok (.ret u), h =>
      obtain ⟨v, H', os, bare, un, hok', r', q⟩ := h
      obtain rfl : v = .bl true := q
      obtain rfl : u = Value.bool true := r'
      refine ⟨rfl, OldK.of_keep fun b o e => ?_, os, bare⟩
      cases q : H b with
      | none => exact un.keep b o e q List.not_mem_nil List.not_mem_nil
      | some u =>
        rcases hO b with z | ⟨ob, xs, z⟩
        · rw [q] at z; cases z
        · obtain ⟨e1, _⟩ := hok b _ z
          obtain ⟨e2, _⟩ := hok' b _ (un.frzs b ob _ z)
          rw [e] at e1; cases e1; exact e2
  cases hk : K.lookup a with
  | some o =>
    have e := (KX a o hk).symm.trans ha
    cases e
    have sq : SqL K (fun _ => none) a (ns.map V.int) := .inr ⟨_, vs.toArray, _, hk, rfl, rfl, rfl, by rw [List.size_toArray, nl]; exact hl, by simpa using rv⟩
    exact main (fun _ => none) (fun _ => .inl rfl) sq (fun b u z => nomatch z) (fun b u z => nomatch z)
  | none =>
    have sq : ∀ o, SqL K (upd (fun _ => none) a (.frz o (.lst (ns.map V.int)))) a (ns.map V.int) := fun o => .inl (.inr ⟨o, upd_same⟩)
    refine main _ (fun b => ?_) (sq { cls := .type "list", data := .seq vs.toArray }) (fun b u z => ?_) (fun b u z => ?_)
    · by_cases h : b = a
      · subst h; exact .inr ⟨_, _, upd_same⟩
      · exact .inl (upd_ne h)
    · by_cases h : b = a
      · subst h
        rw [upd_same] at z; cases z
        exact ⟨ha, by rw [List.length_map]; exact hl, vs, _, rv, ha⟩
      · rw [upd_ne h] at z; cases z
    · by_cases h : b = a
      · exact ⟨h, hk⟩
      · rw [upd_ne h] at z; cases z
end
theorem walk_end {l : PySem.W.OpenLaw} {n k : Nat} {q : Program} {loose : List Str} {XP : (Str → Option Value) → Heap → Prop} {YP : World → Heap → Prop} {d : DefRec} {K : Params → PySem.W.Frag} {x : Str} {sem : Sem1} {mr : Md}
    (hn : l.most = some n) (hn2 : n ≤ sizeLine) (hdf : d.params.defaults = []) (hr : Room k callerA) (hY : ∀ (w : World) (h : Heap), YP w h → (K w.params).In h)
    (F : ∀ (w : World) (mg : Str → Option Value) (fa : Addr) (h : Heap), (K w.params).In h → h.Ns mainGlobals mg → mg d.name = some (.ref fa) →
      ∃ (fd : FuncData) (ca : Ca), (∀ (s : Shared) (u : Value), BindsTo s fd ⟨[u], []⟩ [(x, u)]) ∧ ∀ base : Heap, (K w.params).In base → base.Ns mainGlobals mg → FnG l.prog w (K w.params) mg base k fa fd [x] (spD (K w.params) ca [true] mr sem))
    (hmr : mr = .frz) (hs : ∀ ns : List Int, ns.length ≤ n → (∀ z ∈ ns, Builtin.Int.intBits z ≤ 1048576) → ∃ S', sem [.rol (ns.map D.int)] [] = some (.ok (.bl true), S')) :
    PySem.W.WalkO q loose XP YP l.row.toRowW d [] (fun f vs => PySem.call f vs) := by
  refine Att.attach_callB hn hdf fun w s₀ s₁ mg mb fa o pm cd doc a vs ns G Y ho hd hcd hmg hobj hints hlen hbits hg => ?_
  have KX := hY w _ Y
  obtain ⟨fd, ca, hb, hF⟩ := F w mg fa _ KX G.T.g hmg
  refine law_end KX G.T.g G.T.b G.T.builtins G.T.nolimit hg hobj hints (Nat.le_trans hlen hn2) hr hF hb fun H hO hS => ?_
  obtain ⟨S', e⟩ := hs ns hlen hbits
  have nt : ∀ b xs, H b ≠ some (HO.tup xs) := fun b xs z => by
    rcases hO b with q | ⟨_, _, q⟩ <;> (rw [q] at z; cases z)
  refine ⟨⟨H, fun _ => none, fun _ => none⟩, [.rol (ns.map D.int)], [], ⟨fun _ _ h => h, fun b xs z => absurd z (nt b xs), fun _ _ h => (nomatch h), fun _ _ h => (nomatch h)⟩, ⟨fun n ob h => by simp at h, fun _ _ => rfl⟩, fun _ _ h => (nomatch h), .kept (.rol hS (DVs.ints ns)) .nil, ?_⟩
  rw [e]
  subst hmr
  exact fun W' H' v _ _ _ r => DV.ofBl r
end DL
namespace DL
open PySem PySem.Spec PyProof.Rows L2
def GlC (K : PySem.W.Frag) (mg : Str → Option Value) (ca : Ca) (x : Str) (d : D) : Prop := ∃ u v, mg x = some u ∧ RelV v u ∧ DV K ca (fun _ => none) (fun _ => none) v d
def ExI (P : Program) (w : World) (K : PySem.W.Frag) (mg : Str → Option Value) (base : Heap) (ca : Ca) (c : Str) (fs : List Str) : Prop :=
  ∃ (C fI : Addr) (fd : FuncData) (ps : List Str), ca c = C ∧ mg c = some (.ref C) ∧ OexC K C ∧ W.findIn K (.ref C) "__init__" = some (some (.ref fI)) ∧ PySem.W.typeIn K (.ref fI) = some (.type "function") ∧
    FnOk P w K mg base (CXP P w) 1 fI fd ps (spXI C fs) ∧ Binds K fd ps []
def ExT (K : PySem.W.Frag) (mg : Str → Option Value) (ca : Ca) (c : Str) : Prop :=
  ∃ (C : Addr) (bmB : List Value) (B newId initId : String), ca c = C ∧ mg c = some (.ref C) ∧ ExcBaseFacts B newId initId bmB ∧ PySem.W.excIn K C bmB newId = true ∧ W.keepIn K (.ref C) = true ∧
    PySem.W.subIn K (.ref C) (.type "BaseException") = some true ∧ PySem.W.typeIn K (.ref C) = some (.type "type")
def TrF (K : PySem.W.Frag) (mg : Str → Option Value) (ca : Ca) (x : Str) (tb : List (Str × Bool)) : Prop := ∃ C, mg x = some (.ref C) ∧ ∀ p ∈ tb, PySem.W.exmOne K (.ref (ca p.1)) (.ref C) = some p.2
abbrev cI (i : Int) : SE := fun _ => mp (.int i)
abbrev cS (x : Str) : SE := fun _ => mp (.str x)
abbrev cB (b : Bool) : SE := fun _ => mp (.bl b)
abbrev cN : SE := fun _ => mp .non
abbrev cG (d : D) : SE := fun _ => mp d
section
variable {X : Cx} {ca : Ca} {H0 : Bs} {Wx : WX} {mr m : Md}
theorem de_gl {x : Str} {pos : Pos} {d : D} (G : GlC X.K X.mg ca x d) (hg : Gl X x := by rfl) (hd : (x == ("__debug__" : Str)) = false := by decide) (i : isScal d = true := by rfl) : DE X ca H0 Wx m (.Name x pos) (fun _ => mp d) := by
  obtain ⟨u, v, h1, h2, h3⟩ := G
  exact de_glob hg h1 h2 h3 hd i
theorem ds_raiseF {c : Str} {fs : List Str} {e : Expr} {es : List Expr} {fa : SA} {p pos pos' : Pos} (hc : X.calm = true) (tk : Takes X Wx) (E : ExI X.prog X.w X.K X.mg X.base ca c fs) (hr : Room 2 X.A) (ha : DA X ca H0 Wx .frz (e :: es) fa) (hg : Gl X c := by rfl)
    (hdb : (c == ("__debug__" : Str)) = false := by decide) (he : starEach (e :: es) X.env = (false, eval e X.env) :: starEach es X.env := by rfl) (hpl : (backTo pos (starEach es X.env)).any (·.1) = false := by rfl) :
    DS X ca H0 Wx mr (.Raise (some (.Call (.Name c p) (e :: es) [] pos)) none pos') (bRaise c fs fa) := by
  obtain ⟨C, fI, fd, ps, h1, h2, h3, h4, h5, h6, h7⟩ := E
  exact ds_raise hc tk h1 h3 h4 h5 h6 hr h7 hg h2 ha hdb he hpl
theorem ds_raiseTF {c : Str} {e : Expr} {f : SE} {p pos pos' : Pos} (hc : X.calm = true) (tk : Takes X Wx) (E : ExT X.K X.mg ca c) (he : DE X ca H0 Wx .bor e f) (hg : Gl X c := by rfl)
    (hs : starEach [e] X.env = (false, eval e X.env) :: starEach [] X.env := by rfl) (hdb : (c == ("__debug__" : Str)) = false := by decide) :
    DS X ca H0 Wx mr (.Raise (some (.Call (.Name c p) [e] [] pos)) none pos') (bRaiseT c f) := by
  obtain ⟨C, bmB, B, newId, initId, h1, h2, h3, h4, h5, h6, h7⟩ := E
  exact ds_raiseT hc tk h1 h3 h4 h2 h5 (raises_own h6 h7) hg he hs hdb
end
def clsDef (s : Stmt) (j : Nat) : Stmt := match s with
  | .ClassDef _ _ _ body _ _ _ _ _ _ _ => body.getD j (.Pass ⟨0, 0, 0, 0⟩)
  | _ => .Pass ⟨0, 0, 0, 0⟩
def caOf (l : List (Str × Addr)) : Ca := fun c => (l.lookup c).getD 0
section
variable {P : Program} {w : World} {K : PySem.W.Frag} {mg : Str → Option Value} {base : Heap} {ca : Ca} {h : Heap} {x : Str} {f : Addr} {fd : FuncData} {ps : List Str} {k : Nat} {ms : List Bool} {mr : Md} {sem : Sem1}
theorem mkF {qual : Str} {st : Stmt} {oc : Value} {od an : Option Addr} {osl : Array (Option Value)} {kV doc pm cdv ct : Value} (l : K.lookup f = some ⟨oc, od, .func (PySem.W.fnOf x qual (defArgs st) (defBody st) (defScope st) .none kV doc pm an cdv ct), osl⟩)
    (c : W.codeIn K cdv qual = true) (k : W.keepIn K (.ref f) = true) : FunD K x qual (defArgs st) (defBody st) (defScope st) [] [] f (PySem.W.fnOf x qual (defArgs st) (defBody st) (defScope st) .none kV doc pm an cdv ct) :=
  ⟨⟨oc, od, .none, kV, doc, pm, an, cdv, ct, osl, rfl, l, c, .inl ⟨rfl, rfl⟩, .inl rfl⟩, k⟩
theorem mkFD {qual : Str} {st : Stmt} {oc : Value} {od an : Option Addr} {osl : Array (Option Value)} {kV doc pm cdv ct : Value} {T : Addr} {o : Obj} {its : List Value} {n : Nat} {dvs : List V} (l : K.lookup f = some ⟨oc, od, .func (PySem.W.fnOf x qual (defArgs st) (defBody st) (defScope st) (.ref T) kV doc pm an cdv ct), osl⟩)
    (c : W.codeIn K cdv qual = true) (k : W.keepIn K (.ref f) = true) (t : K.lookup T = some o) (ho : o.data = .seq its.toArray n) (hv : Vals dvs its) (hd : dvs ≠ []) : FunD K x qual (defArgs st) (defBody st) (defScope st) dvs [] f (PySem.W.fnOf x qual (defArgs st) (defBody st) (defScope st) (.ref T) kV doc pm an cdv ct) :=
  ⟨⟨oc, od, .ref T, kV, doc, pm, an, cdv, ct, osl, rfl, l, c, .inr ⟨hd, T, o, its, n, rfl, t, ho, hv⟩, .inl rfl⟩, k⟩
theorem calF0 (hm : mg x = some (.ref f)) (hk : W.keepIn K (.ref f) = true) (F : FnG P w K mg base k f fd ps (spD K ca ms mr sem)) (hb : Binds K fd ps []) : CalF P w K mg base ca x k ms mr sem [] [] :=
  ⟨⟨f, fd, ps, hm, hk, F, fun j _ => ⟨[], [], .nil, hb, by rw [List.drop_nil]; exact .nil⟩, fun ks h => by cases h⟩, rfl⟩
theorem calFD {dds : List D} {kns : List (List Str)} (hm : mg x = some (.ref f)) (hk : W.keepIn K (.ref f) = true) (F : FnG P w K mg base k f fd ps (spD K ca ms mr sem))
    (hb : ∀ j, j ≤ dds.length → ∃ dvs ds, Vals dvs ds ∧ Binds K fd ps ds ∧ DVs K ca (fun _ => none) (fun _ => none) dvs (dds.drop j)) (hs : dds.all isScal = true)
    (hn : ∀ ks, ks ∈ kns → KBn K fd ps (ms.length - ks.length) ks (fun us ws => us ++ ws) (fun vs zs => vs ++ zs)) : CalF P w K mg base ca x k ms mr sem dds kns :=
  ⟨⟨f, fd, ps, hm, hk, F, hb, hn⟩, hs⟩
theorem glTup {A : Addr} {td : Option Addr} {its : List Value} {n : Nat} {sl : Array (Option Value)} {vs : List V} {ds : List D} (hm : mg x = some (.ref A)) (l : K.lookup A = some ⟨.type "tuple", td, .seq its.toArray n, sl⟩) (hs : its.length ≤ sizeLine) (hv : Vals vs its)
    (hd : DVs K ca (fun _ => none) (fun _ => none) vs ds) : GlC K mg ca x (.tup ds) :=
  ⟨.ref A, .ref A, hm, rfl, .tup (.inr (.inr ⟨_, its.toArray, n, l, rfl, rfl, by rw [List.size_toArray]; exact hs, by simpa using hv⟩)) hd⟩
theorem mkXT {c : Str} {C : Addr} {bmB : List Value} {B newId initId : String} (h1 : ca c = C) (h2 : mg c = some (.ref C)) (h3 : ExcBaseFacts B newId initId bmB) (h4 : PySem.W.excIn K C bmB newId = true) (h5 : W.keepIn K (.ref C) = true)
    (h6 : PySem.W.subIn K (.ref C) (.type "BaseException") = some true) (h7 : PySem.W.typeIn K (.ref C) = some (.type "type")) : ExT K mg ca c := ⟨C, bmB, B, newId, initId, h1, h2, h3, h4, h5, h6, h7⟩
end
end DL
namespace DL
open PySem PySem.Spec PyProof.Rows L2
@[simp] theorem mb_e {α β : Type} (x : M α) (k : α → M β) (S : Sto) : mb x k S = (match x S with | none => none | some (.error e, S1) => some (.error e, S1) | some (.ok a, S1) => k a S1) := rfl
@[simp] theorem mp_e {α : Type} (a : α) (S : Sto) : mp a S = some (.ok a, S) := rfl
@[simp] theorem mf_e {α : Type} (S : Sto) : (mf : M α) S = none := rfl
@[simp] theorem mo_s {α : Type} (a : α) (S : Sto) : mo (some a) S = some (.ok a, S) := rfl
@[simp] theorem mo_n {α : Type} (S : Sto) : mo (none : Option α) S = none := rfl
@[simp] theorem sb_e {α : Type} (x : M α) (ρ : Rho) (k : α → Sto → Option (SOut × Sto)) (S : Sto) : sb x ρ k S = (match x S with | none => none | some (.error e, S1) => some (.exc ρ e, S1) | some (.ok a, S1) => k a S1) := rfl
@[simp] theorem bSeq_e (f g : SS) (ρ : Rho) (S : Sto) : bSeq f g ρ S = (match f ρ S with | some (.nx ρ1, S1) => g ρ1 S1 | z => z) := rfl
@[simp] theorem bNil_e (ρ : Rho) (S : Sto) : bNil ρ S = some (.nx ρ, S) := rfl
@[simp] theorem bBrk_e (ρ : Rho) (S : Sto) : bBrk ρ S = some (.brk ρ, S) := rfl
@[simp] theorem bCnt_e (ρ : Rho) (S : Sto) : bCnt ρ S = some (.cnt ρ, S) := rfl
@[simp] theorem bIf_e (c : ST) (f g : SS) (ρ : Rho) (S : Sto) : bIf c f g ρ S = sb (c ρ) ρ (fun k => if k = true then f ρ else g ρ) S := rfl
@[simp] theorem bRet_e (f : SE) (ρ : Rho) (S : Sto) : bRet f ρ S = sb (f ρ) ρ (fun d S => some (.ret d, S)) S := rfl
@[simp] theorem bRetN_e (ρ : Rho) (S : Sto) : bRetN ρ S = some (.ret .non, S) := rfl
@[simp] theorem bExpr_e (f : SE) (ρ : Rho) (S : Sto) : bExpr f ρ S = sb (f ρ) ρ (fun _ S => some (.nx ρ, S)) S := rfl
@[simp] theorem bSet_e (i : Nat) (f : SE) (ρ : Rho) (S : Sto) : bSet i f ρ S = sb (f ρ) ρ (fun d S => if unlk ρ[i]? = true then some (.nx (ρ.set i (.val d)), S) else none) S := rfl
@[simp] theorem bSetOwn_e (i : Nat) (f : SE) (ρ : Rho) (S : Sto) : bSetOwn i f ρ S = sb (f ρ) ρ (fun d S => if (unlk ρ[i]? && isCont d) = true then some (.nx (ρ.set i (.own d)), S) else none) S := rfl
@[simp] theorem bAsg_e (t : D → Rho → Option Rho) (f : SE) (ρ : Rho) (S : Sto) : bAsg t f ρ S = sb (f ρ) ρ (fun d S => match t d ρ with | none => none | some ρ1 => some (.nx ρ1, S)) S := rfl
@[simp] theorem bMut_e (i : Nat) (mu : List D → List D → Option (D × List D)) (fa : SA) (ρ : Rho) (S : Sto) : bMut i mu fa ρ S = (match ownL ρ i with | none => none | some l => sb (fa ρ) ρ (fun ds S => match mu l ds with | none => none | some z => some (.nx (ρ.set i (.own (.lst z.2))), S)) S) := rfl
@[simp] theorem bSetIx_e (i : Nat) (fi fe : SE) (ρ : Rho) (S : Sto) : bSetIx i fi fe ρ S = sb (fe ρ) ρ (fun d S => match ownL ρ i with | none => none | some l => sb (fi ρ) ρ (fun k S => match setAt l k d with | none => none | some l1 => some (.nx (ρ.set i (.own (.lst l1))), S)) S) S := rfl
@[simp] theorem bSetIxO_e (fo fi fe : SE) (ρ : Rho) (S : Sto) : bSetIxO fo fi fe ρ S = sb (fe ρ) ρ (fun d => sb (fo ρ) ρ fun o S => match asObj o with | none => none | some n => sb (fi ρ) ρ (fun k S => match stL S n with | none => none | some l => match setAt l k d with | none => none | some l1 => some (.nx ρ, S.set n (.lst l1))) S) S := rfl
@[simp] theorem bFz_e (i : Nat) (f : SS) (ρ : Rho) (S : Sto) : bFz i f ρ S = (match ρ[i]? with | some (.own d) => f (ρ.set i (.val d)) S | _ => f ρ S) := rfl
@[simp] theorem bRaise_e (c : Str) (fs : List Str) (fa : SA) (ρ : Rho) (S : Sto) : bRaise c fs fa ρ S = sb (fa ρ) ρ (fun ds S => if ds.length ≤ 1000 ∧ ds.length = fs.length then some (.exc ρ ⟨c, some (fs.zip ds).reverse⟩, S) else none) S := rfl
@[simp] theorem bRaiseT_e (c : Str) (f : SE) (ρ : Rho) (S : Sto) : bRaiseT c f ρ S = sb (f ρ) ρ (fun _ S => some (.exc ρ ⟨c, none⟩, S)) S := rfl
@[simp] theorem bTryAs_e (i : Nat) (mx : Str → Option Bool) (fb fs : SS) (ρ : Rho) (S : Sto) : bTryAs i mx fb fs ρ S = (match fb ρ S with | some (.exc ρ1 x, S1) => (match mx x.c with | none => none | some false => some (.exc ρ1 x, S1) | some true => suA i (fs (ρ1.set i (.ex x)) S1)) | z => z) := rfl
@[simp] theorem suA_e (i : Nat) (z : Option (SOut × Sto)) : suA i z = (match z with | some (.nx ρ, S) => clr i ρ S .nx | some (.brk ρ, S) => clr i ρ S .brk | some (.cnt ρ, S) => clr i ρ S .cnt | some (.ret d, S) => some (.ret d, S) | _ => none) := rfl
@[simp] theorem bFor_e (src : SA) (t : D → Rho → Option Rho) (b : SS) (ρ : Rho) (S : Sto) : bFor src t b ρ S = sb (src ρ) ρ (fun ds => forD t b ds ρ) S := rfl
@[simp] theorem forD_n (t : D → Rho → Option Rho) (b : SS) (ρ : Rho) (S : Sto) : forD t b [] ρ S = some (.nx ρ, S) := rfl
@[simp] theorem sVar_e (i : Nat) (ρ : Rho) (S : Sto) : sVar i ρ S = (match ρ[i]? with | some (.val d) => mp d | some (.bo d) => (if isScal d = true then mp d else mf) | _ => mf) S := rfl
@[simp] theorem sVarB_e (i : Nat) (ρ : Rho) (S : Sto) : sVarB i ρ S = (match ρ[i]? with | some (.val d) => mp d | some (.own d) => mp d | some (.lk d) => mp d | some (.bo d) => mp d | _ => mf) S := rfl
@[simp] theorem sVarS_e (i : Nat) (ρ : Rho) (S : Sto) : sVarS i ρ S = (match ρ[i]? with | some (.val d) => mp d | some (.lk d) => mp d | some (.bo d) => mp d | _ => mf) S := rfl
@[simp] theorem sBin_e (o : D → D → Option D) (f g : SE) (ρ : Rho) (S : Sto) : sBin o f g ρ S = mb (f ρ) (fun x => mb (g ρ) fun y S => mo (o (dref S x) (dref S y)) S) S := rfl
@[simp] theorem sBl_e (f : SE) (ρ : Rho) (S : Sto) : sBl f ρ S = mb (f ρ) (fun d => mo (dBl d)) S := rfl
@[simp] theorem sTru_e (f : SE) (ρ : Rho) (S : Sto) : sTru f ρ S = mb (f ρ) (fun d S => mo (dTru (dref S d)) S) S := rfl
@[simp] theorem sAnd_e (f g : ST) (ρ : Rho) (S : Sto) : sAnd f g ρ S = mb (f ρ) (fun k => if k = true then g ρ else mp false) S := rfl
@[simp] theorem sOr_e (f g : ST) (ρ : Rho) (S : Sto) : sOr f g ρ S = mb (f ρ) (fun k => if k = true then mp true else g ρ) S := rfl
@[simp] theorem sNot_e (f : ST) (ρ : Rho) (S : Sto) : sNot f ρ S = mb (f ρ) (fun k => mp (!k)) S := rfl
@[simp] theorem sNotV_e (f : SE) (ρ : Rho) (S : Sto) : sNotV f ρ S = mb (f ρ) (fun d => mb (mo (dBl d)) fun k => mp (.bl (!k))) S := rfl
@[simp] theorem sAndV_e (f g : SE) (ρ : Rho) (S : Sto) : sAndV f g ρ S = mb (f ρ) (fun d => mb (mo (dBl d)) fun k => if k = true then g ρ else mp (.bl false)) S := rfl
@[simp] theorem sOrV_e (f g : SE) (ρ : Rho) (S : Sto) : sOrV f g ρ S = mb (f ρ) (fun d => mb (mo (dBl d)) fun k => if k = true then mp (.bl true) else g ρ) S := rfl
@[simp] theorem sIf_e (c : ST) (f g : SE) (ρ : Rho) (S : Sto) : sIf c f g ρ S = mb (c ρ) (fun k => if k = true then f ρ else g ρ) S := rfl
@[simp] theorem sNil_e (ρ : Rho) (S : Sto) : sNil ρ S = some (.ok [], S) := rfl
@[simp] theorem sCons_e (f : SE) (g : SA) (ρ : Rho) (S : Sto) : sCons f g ρ S = mb (f ρ) (fun d => mb (g ρ) fun ds => mp (d :: ds)) S := rfl
@[simp] theorem sTup_e (f : SA) (ρ : Rho) (S : Sto) : sTup f ρ S = mb (f ρ) (fun ds => if ds.length ≤ sizeLine then mp (.tup ds) else mf) S := rfl
@[simp] theorem sLst_e (f : SA) (ρ : Rho) (S : Sto) : sLst f ρ S = mb (f ρ) (fun ds => if ds.length ≤ sizeLine then mp (.lst ds) else mf) S := rfl
@[simp] theorem sCall_e (o : List D → Option D) (f : SA) (ρ : Rho) (S : Sto) : sCall o f ρ S = mb (f ρ) (fun ds S => mo (o (ds.map (dref S))) S) S := rfl
@[simp] theorem sCallU_e (sem : Sem1) (dds : List D) (f : SA) (ρ : Rho) (S : Sto) : sCallU sem dds f ρ S = mb (f ρ) (fun ds S => sem (ds ++ dds) S) S := rfl
@[simp] theorem sCallN_e (sem : Sem1) (f g : SA) (ρ : Rho) (S : Sto) : sCallN sem f g ρ S = mb (f ρ) (fun ds => mb (g ρ) fun es S => sem (ds ++ es) S) S := rfl
@[simp] theorem sSl_e (f : SE) (l h : SO) (ρ : Rho) (S : Sto) : sSl f l h ρ S = mb (f ρ) (fun d => mb (l ρ) fun lo => mb (h ρ) fun hi S => mo (oSl (dref S d) lo hi) S) S := rfl
@[simp] theorem sNo_e (ρ : Rho) (S : Sto) : sNo ρ S = some (.ok none, S) := rfl
@[simp] theorem sPart_e (f : SE) (ρ : Rho) (S : Sto) : sPart f ρ S = mb (f ρ) (fun d => mo ((dInt d).map some)) S := rfl
@[simp] theorem sObj_e (f : SE) (ρ : Rho) (S : Sto) : sObj f ρ S = mb (f ρ) (fun d S => match obOf d with | some ob => some (.ok (.obj S.length), S ++ [ob]) | none => none) S := rfl
@[simp] theorem sItems_e (f : SE) (ρ : Rho) (S : Sto) : sItems f ρ S = mb (f ρ) (fun d => mo (dItems d)) S := rfl
@[simp] theorem sRng_e (f : SA) (ρ : Rho) (S : Sto) : sRng f ρ S = mb (f ρ) (fun ds => mo (oRng ds)) S := rfl
@[simp] theorem sXf_e (i : Nat) (tb : List Str) (f : Str) (ρ : Rho) (S : Sto) : sXf i tb f ρ S = (match exAt ρ i with | none => none | some x => mo (xField tb f x) S) := rfl
@[simp] theorem sIsE_e (i : Nat) (tb : List (Str × Bool)) (ρ : Rho) (S : Sto) : sIsE i tb ρ S = (match exAt ρ i with | none => none | some x => mo ((tb.lookup x.c).map D.bl) S) := rfl
@[simp] theorem sScal_e (f : SE) (ρ : Rho) (S : Sto) : sScal f ρ S = mb (f ρ) (fun d => if isScal d = true then mp d else mf) S := rfl
@[simp] theorem sNeg_e (f : SE) (ρ : Rho) (S : Sto) : sNeg f ρ S = mb (f ρ) (fun d => mo ((asInt d).map fun i => .int (-i))) S := rfl
@[simp] theorem semB_e (ms : List Bool) (n : Nat) (f : SS) (ds : List D) (S : Sto) : semB ms n f ds S = (match f (parSl ms ds ++ List.replicate (n - ds.length) Sl.no) S with | none => none | some (.nx _, S1) => some (.ok .non, S1) | some (.ret d, S1) => some (.ok d, S1) | some (.exc _ x, S1) => some (.error x, S1) | some (.brk _, _) => none | some (.cnt _, _) => none) := rfl
@[simp] theorem parSl_t (ms : List Bool) (d : D) (ds : List D) : parSl (true :: ms) (d :: ds) = .val d :: parSl ms ds := rfl
@[simp] theorem parSl_f (ms : List Bool) (d : D) (ds : List D) : parSl (false :: ms) (d :: ds) = .bo d :: parSl ms ds := rfl
@[simp] theorem parSl_n (ds : List D) : parSl [] ds = [] := rfl
@[simp] theorem tgName_e (i : Nat) (d : D) (ρ : Rho) : tgName i d ρ = (if unlk ρ[i]? = true then some (ρ.set i (.val d)) else none) := rfl
@[simp] theorem dref_non (S : Sto) : dref S (.non) = .non := rfl
@[simp] theorem dref_bl (b : Bool) (S : Sto) : dref S (.bl b) = .bl b := rfl
@[simp] theorem dref_int (b : Int) (S : Sto) : dref S (.int b) = .int b := rfl
@[simp] theorem dref_str (b : Str) (S : Sto) : dref S (.str b) = .str b := rfl
@[simp] theorem dref_tup (b : List D) (S : Sto) : dref S (.tup b) = .tup b := rfl
@[simp] theorem dref_lst (b : List D) (S : Sto) : dref S (.lst b) = .lst b := rfl
@[simp] theorem dref_rol (b : List D) (S : Sto) : dref S (.rol b) = .rol b := rfl
@[simp] theorem dref_dK (b : List (Key × D)) (S : Sto) : dref S (.dK b) = .dK b := rfl
@[simp] theorem dref_dT (b : List (List Key × D)) (S : Sto) : dref S (.dT b) = .dT b := rfl
@[simp] theorem unlk_val (d : D) : unlk (some (.val d)) = true := rfl
@[simp] theorem unlk_own (d : D) : unlk (some (.own d)) = true := rfl
@[simp] theorem unlk_lk (d : D) : unlk (some (.lk d)) = false := rfl
@[simp] theorem unlk_bo (d : D) : unlk (some (.bo d)) = true := rfl
@[simp] theorem unlk_no  : unlk (some .no) = true := rfl
@[simp] theorem unlk_ex (x : Xc) : unlk (some (.ex x)) = true := rfl
@[simp] theorem dBl_e (b : Bool) : dBl (.bl b) = some b := rfl
@[simp] theorem asInt_i (i : Int) : asInt (.int i) = some i := rfl
@[simp] theorem asObj_o (n : Nat) : asObj (.obj n) = some n := rfl
@[simp] theorem dInt_i (i : Int) : dInt (.int i) = some i := rfl
@[simp] theorem oAdd_i (i j : Int) : oAdd (.int i) (.int j) = some (.int (i + j)) := rfl
@[simp] theorem oSub_i (i j : Int) : oSub (.int i) (.int j) = some (.int (i - j)) := rfl
@[simp] theorem oLt_i (i j : Int) : oLt (.int i) (.int j) = some (.bl (decide (i < j))) := rfl
@[simp] theorem oLe_i (i j : Int) : oLe (.int i) (.int j) = some (.bl (decide (i ≤ j))) := rfl
@[simp] theorem oGt_i (i j : Int) : oGt (.int i) (.int j) = some (.bl (decide (j < i))) := rfl
@[simp] theorem oGe_i (i j : Int) : oGe (.int i) (.int j) = some (.bl (decide (j ≤ i))) := rfl
@[simp] theorem dEq_i (i j : Int) : dEq (.int i) (.int j) = some (.bl (decide (i = j))) := rfl
@[simp] theorem dNe_i (i j : Int) : dNe (.int i) (.int j) = some (.bl (!decide (i = j))) := rfl
@[simp] theorem dEq_s (i j : Str) : dEq (.str i) (.str j) = some (.bl (decide (i = j))) := rfl
@[simp] theorem dNe_s (i j : Str) : dNe (.str i) (.str j) = some (.bl (!decide (i = j))) := rfl
@[simp] theorem oIx_l (l : List D) (i : Int) : oIx (.lst l) (.int i) = atI l i := rfl
@[simp] theorem oIx_r (l : List D) (i : Int) : oIx (.rol l) (.int i) = atI l i := rfl
@[simp] theorem oIx_t (l : List D) (i : Int) : oIx (.tup l) (.int i) = atI l i := rfl
@[simp] theorem oIx_s (z : Str) (i : Int) : oIx (.str z) (.int i) = (if z.length ≤ sizeLine then (atI z.cps.toList i).map fun c => .str ⟨#[c]⟩ else none) := rfl
@[simp] theorem oLen_l (l : List D) : oLen [.lst l] = some (.int l.length) := rfl
@[simp] theorem oLen_r (l : List D) : oLen [.rol l] = some (.int l.length) := rfl
@[simp] theorem oLen_t (l : List D) : oLen [.tup l] = some (.int l.length) := rfl
@[simp] theorem oLen_s (z : Str) : oLen [.str z] = (if z.length ≤ sizeLine then some (.int z.length) else none) := rfl
@[simp] theorem oInt_i (i : Int) : oInt [.int i] = some (.int i) := rfl
@[simp] theorem oRepr_b (b : Bool) : oRepr [.bl b] = some (.str (if b then "True" else "False")) := rfl
@[simp] theorem dTru_b (b : Bool) : dTru (.bl b) = some b := rfl
@[simp] theorem isScal_i (i : Int) : isScal (.int i) = true := rfl
@[simp] theorem isScal_s (i : Str) : isScal (.str i) = true := rfl
@[simp] theorem isScal_o (i : Nat) : isScal (.obj i) = true := rfl
@[simp] theorem isScal_b (i : Bool) : isScal (.bl i) = true := rfl
@[simp] theorem isScal_t (i : List D) : isScal (.tup i) = true := rfl
@[simp] theorem isCont_l (i : List D) : isCont (.lst i) = true := rfl
@[simp] theorem obOf_l (l : List D) : obOf (.lst l) = some (.lst l) := rfl
@[simp] theorem dItems_l (l : List D) : dItems (.lst l) = some l := rfl
@[simp] theorem dItems_r (l : List D) : dItems (.rol l) = some l := rfl
@[simp] theorem dItems_t (l : List D) : dItems (.tup l) = some l := rfl
@[simp] theorem dItems_s (x : Str) : dItems (.str x) = some (x.cps.toList.map fun c => .str ⟨#[c]⟩) := rfl
@[simp] theorem oMod_i (i j : Int) : oMod (.int i) (.int j) = if 0 < j then some (.int (i % j)) else none := by
  by_cases h : 0 < j <;> simp [oMod, o2I, cMod, h]
@[simp] theorem oDiv_i (i j : Int) : oDiv (.int i) (.int j) = if 0 < j ∧ j < 1073741824 then some (.int (i / j)) else none := by
  by_cases h : 0 < j ∧ j < 1073741824
  · rw [if_pos h]
    show (if cDiv i j = true then some (D.int (i / j)) else none) = _
    rw [if_pos (show cDiv i j = true from cdec_t h)]
  · rw [if_neg h]
    show (if cDiv i j = true then some (D.int (i / j)) else none) = _
    rw [if_neg (show ¬ cDiv i j = true from fun z => h (cdec_iff.mp z))]
@[simp] theorem oMul_i (i j : Int) : oMul (.int i) (.int j) = if cMul i j = true then some (.int (i * j)) else none := by
  by_cases h : cMul i j = true <;> simp [oMul, o2I, h]
theorem cMul_r {i j : Int} (h : -(2 ^ 64) < j) (h2 : j < 2 ^ 64) : cMul i j = true := by unfold cMul; rw [Bool.or_eq_true]; exact .inr (cdec_t ⟨h, h2⟩)
theorem cMul_l {i j : Int} (h : -(2 ^ 64) < i) (h2 : i < 2 ^ 64) : cMul i j = true := by unfold cMul; rw [Bool.or_eq_true]; exact .inl (cdec_t ⟨h, h2⟩)
@[simp] theorem sM1_s (o : Str → D → Option D) (f g : SE) (ρ : Rho) (S : Sto) : sM1 o f g ρ S = mb (f ρ) (fun x => match x with | .str z => mb (g ρ) fun y S => mo (o z (dref S y)) S | _ => mf) S := rfl
@[simp] theorem forD_c (t : D → Rho → Option Rho) (b : SS) (d : D) (r : List D) (ρ : Rho) (S : Sto) : forD t b (d :: r) ρ S = (match t d ρ with | none => none | some ρ1 => match b ρ1 S with | some (.nx ρ2, S2) => forD t b r ρ2 S2 | some (.cnt ρ2, S2) => forD t b r ρ2 S2 | some (.brk ρ2, S2) => some (.nx ρ2, S2) | z => z) := rfl
theorem ixN_nat {n : Nat} {i : Int} (h0 : 0 ≤ i) (h : i < n) : ixN n i = some i.toNat := by unfold ixN; rw [if_pos h0, if_pos h]
@[simp] theorem ownL_e (ρ : Rho) (i : Nat) (l : List D) (h : ρ[i]? = some (.own (.lst l))) : ownL ρ i = some l := by unfold ownL; rw [h]
@[simp] theorem stL_0 (l : List D) (tl : Sto) : stL (.lst l :: tl) 0 = some l := rfl
@[simp] theorem dref_0 (l : List D) (tl : Sto) : dref (.lst l :: tl) (.obj 0) = .lst l := rfl
@[simp] theorem atI_0 {α : Type} (a : α) (l : List α) : atI (a :: l) 0 = some a := by simp [atI, ixN]
@[simp] theorem atI_1 {α : Type} (a b : α) (l : List α) : atI (a :: b :: l) 1 = some b := by unfold atI; rw [ixN_nat (by omega) (by simp only [List.length_cons]; omega)]; rfl
@[simp] theorem setAt_0 (a : D) (l : List D) (d : D) : setAt (a :: l) (.int 0) d = some (d :: l) := by simp [setAt, ixN]
@[simp] theorem setAt_1 (a b : D) (l : List D) (d : D) : setAt (a :: b :: l) (.int 1) d = some (a :: d :: l) := by unfold setAt; simp only [asInt_i]; rw [ixN_nat (by omega) (by simp only [List.length_cons]; omega)]; rfl
theorem atI_int {ds : List Int} {i : Int} (h0 : 0 ≤ i) (h : i < ds.length) : ∃ k, atI (ds.map D.int) i = some (.int k) := by
  unfold atI
  rw [ixN_nat h0 (by rw [List.length_map]; exact h)]
  have z : i.toNat < ds.length := by omega
  exact ⟨ds[i.toNat], by simp [z]⟩
abbrev bx (ds : List Int) (at_ : Int) : Ob := .lst [.lst (ds.map .int), .int at_]
end DL
namespace DL
open PySem PySem.Spec PyProof.Rows L2
theorem len_app (a b : Str) : (a ++ b).length = a.length + b.length := by
  show (a.cps ++ b.cps).size = _
  rw [Array.size_append]; rfl
theorem len_one (c : Nat) : (⟨#[c]⟩ : Str).length = 1 := rfl
theorem line_eq : sizeLine = 16777216 := by decide
theorem len_s {a : Str} (h : a.length ≤ 16777216) : oLen [.str a] = some (.int a.length) := by
  rw [oLen_s, line_eq, if_pos h]
theorem split_part {x y p : Str} (h : p ∈ Txt.split x y) : p.length ≤ x.length := by
  unfold Txt.split at h
  split at h
  · rw [List.mem_singleton.mp h]; exact Nat.le_refl _
  · split at h
    · rw [List.mem_singleton.mp h]; exact Nat.le_refl _
    · unfold Builtin.Str.partsBetween at h
      obtain ⟨q, _, e⟩ := List.mem_map.mp h
      rw [← e]
      show (x.cps.extract q.1 q.2).size ≤ x.cps.size
      rw [Array.size_extract]; omega
theorem sp_s {z b : Str} (h : b.length ≠ 0) (h2 : z.length + 2 ≤ 16777216) : oSplit z (.str b) = some (.lst ((Txt.split z b).map D.str)) := by
  show (if b.length ≠ 0 ∧ z.length + 2 ≤ sizeLine then some (D.lst ((Txt.split z b).map D.str)) else none) = _
  rw [line_eq, if_pos ⟨h, h2⟩]
theorem rng_1 {j : Int} (h0 : 0 ≤ j) (h1 : j < 2 ^ 62) : oRng [.int j] = some (dRng 0 j.toNat) := by
  show (cif (-(2 ^ 62) ≤ j ∧ j < 2 ^ 62) (some (dRng 0 j.toNat)) none) = _
  rw [cif_pos ⟨by omega, h1⟩]
theorem rng_2 {i j : Int} (h0 : -(2 ^ 62) ≤ i) (h1 : i < 2 ^ 62) (h2 : -(2 ^ 62) ≤ j) (h3 : j < 2 ^ 62) : oRng [.int i, .int j] = some (dRng i (j - i).toNat) := by
  show (cif (-(2 ^ 62) ≤ i ∧ i < 2 ^ 62 ∧ -(2 ^ 62) ≤ j ∧ j < 2 ^ 62) (some (dRng i (j - i).toNat)) none) = _
  rw [cif_pos ⟨h0, h1, h2, h3⟩]
theorem dRng_len (i : Int) (n : Nat) : (dRng i n).length = n := by unfold dRng; rw [List.length_map, List.length_range]
theorem dRng_mem {i : Int} {n : Nat} {d : D} (h : d ∈ dRng i n) : ∃ k : Int, d = .int k ∧ i ≤ k ∧ k < i + n := by
  unfold dRng at h
  obtain ⟨j, hj, e⟩ := List.mem_map.mp h
  have := List.mem_range.mp hj
  exact ⟨i + j, e.symm, by omega, by omega⟩
theorem in_s (neg : Bool) (c : Nat) (z : Str) : oIn neg (.str ⟨#[c]⟩) (.str z) = some (.bl (if neg then !decide (c ∈ z.cps.toList) else decide (c ∈ z.cps.toList))) := rfl
theorem app_l {l : List D} {d : D} (h : l.length < 16777216) : uAppend l [d] = some (.non, l ++ [d]) := by
  show (if l.length < sizeLine then some (D.non, l ++ [d]) else none) = _
  rw [line_eq, if_pos h]
theorem ok_app {a b : Str} (h : PyData.strOk a = true) (h2 : PyData.strOk b = true) : PyData.strOk (a ++ b) = true := by
  unfold PyData.strOk at h h2 ⊢
  show (a.cps ++ b.cps).all _ = true
  rw [Array.all_append, h, h2]; rfl
end DL
namespace DL
open PySem PySem.Spec PyProof.Rows L2
abbrev U := {s : Sl // unlk (some s) = true}
@[simp] theorem unlk_U (v : U) : unlk (some v.1) = true := v.2
abbrev uN : U := ⟨.no, rfl⟩
theorem dRng_zero (lo : Int) : dRng lo 0 = [] := rfl
theorem dRng_succ (lo : Int) (n : Nat) : dRng lo (n + 1) = .int lo :: dRng (lo + 1) n := by
  unfold dRng
  rw [List.range_succ_eq_map, List.map_cons, List.map_map]
  simp only [Int.natCast_zero, Int.add_zero, List.cons.injEq, true_and]
  apply List.map_congr_left
  intro i _
  simp only [Function.comp, D.int.injEq]
  omega
def wf : Nat → D → Bool
  | _, .non => true
  | _, .bl _ => true
  | _, .int _ => true
  | _, .str x => PyData.strOk x
  | n + 1, .tup l => l.all (wf n)
  | n + 1, .lst l => l.all (wf n)
  | n + 1, .rol l => l.all (wf n)
  | _, _ => false
theorem wf_mono : ∀ {n m : Nat} {d : D}, n ≤ m → wf n d = true → wf m d = true
  | n, m, .non, _, _ => by cases m <;> rfl
  | n, m, .bl _, _, _ => by cases m <;> rfl
  | n, m, .int _, _, _ => by cases m <;> rfl
  | n, m, .str x, _, h => by cases m <;> cases n <;> exact h
  | n + 1, m + 1, .tup l, g, h => List.all_eq_true.mpr fun d hd => wf_mono (Nat.le_of_succ_le_succ g) (List.all_eq_true.mp h d hd)
  | n + 1, m + 1, .lst l, g, h => List.all_eq_true.mpr fun d hd => wf_mono (Nat.le_of_succ_le_succ g) (List.all_eq_true.mp h d hd)
  | n + 1, m + 1, .rol l, g, h => List.all_eq_true.mpr fun d hd => wf_mono (Nat.le_of_succ_le_succ g) (List.all_eq_true.mp h d hd)
  | 0, _, .tup _, _, h => by cases h
  | 0, _, .lst _, _, h => by cases h
  | 0, _, .rol _, _, h => by cases h
  | n, _, .dK _, _, h => by cases n <;> cases h
  | n, _, .dT _, _, h => by cases n <;> cases h
  | n, _, .ins _ _, _, h => by cases n <;> cases h
  | n, _, .obj _, _, h => by cases n <;> cases h
  | n + 1, 0, .tup _, g, _ => by omega
  | n + 1, 0, .lst _, g, _ => by omega
  | n + 1, 0, .rol _, g, _ => by omega
theorem wfs_of {n : Nat} (ih : ∀ d, wf n d = true → pyOk d = true ∧ PyData.canLay0 (py d) = true ∧ PyData.depth (py d) ≤ n) : ∀ l : List D, l.all (wf n) = true → pyOks l = true ∧ PyData.canLayAll0 (pys l) = true ∧ PyData.depthAll (pys l) ≤ n
  | [], _ => ⟨rfl, rfl, Nat.zero_le _⟩
  | d :: r, h => by
    rw [List.all_cons, Bool.and_eq_true] at h
    obtain ⟨a1, a2, a3⟩ := ih d h.1
    obtain ⟨b1, b2, b3⟩ := wfs_of ih r h.2
    refine ⟨by simp [pyOks, a1, b1], by simp [pys, PyData.canLayAll0, a2, b2], ?_⟩
    simp only [pys, PyData.depthAll]
    omega
theorem wf_of : ∀ (n : Nat) (d : D), wf n d = true → pyOk d = true ∧ PyData.canLay0 (py d) = true ∧ PyData.depth (py d) ≤ n
  | n, .non, _ => ⟨rfl, rfl, Nat.zero_le _⟩
  | n, .bl _, _ => ⟨rfl, rfl, Nat.zero_le _⟩
  | n, .int _, _ => ⟨rfl, rfl, Nat.zero_le _⟩
  | n, .str x, h => ⟨rfl, by cases n <;> exact h, Nat.zero_le _⟩
  | n + 1, .tup l, h => by
    obtain ⟨a, b, c⟩ := wfs_of (wf_of n) l h
    exact ⟨a, b, by simp only [py, PyData.depth]; omega⟩
  | n + 1, .lst l, h => by
    obtain ⟨a, b, c⟩ := wfs_of (wf_of n) l h
    exact ⟨a, b, by simp only [py, PyData.depth]; omega⟩
  | n + 1, .rol l, h => by
    obtain ⟨a, b, c⟩ := wfs_of (wf_of n) l h
    exact ⟨a, b, by simp only [py, PyData.depth]; omega⟩
  | 0, .tup _, h => by cases h
  | 0, .lst _, h => by cases h
  | 0, .rol _, h => by cases h
  | n, .dK _, h => by cases n <;> cases h
  | n, .dT _, h => by cases n <;> cases h
  | n, .ins _ _, h => by cases n <;> cases h
  | n, .obj _, h => by cases n <;> cases h
theorem wf_eqOk {n : Nat} {d : D} (h : wf n d = true) (hn : n ≤ 64 := by decide) : eqOk d = true := by
  obtain ⟨a, b, c⟩ := wf_of n d h
  unfold eqOk SeqAt.shaped
  rw [a, b, decide_eq_true (by omega)]; rfl
theorem dEq_g {a b : D} (ha : eqOk a = true) (hb : eqOk b = true) : dEq a b = some (.bl (eqD a b)) := by
  cases a <;> cases b <;> first | (simp only [dEq, ha, hb]; rfl) | (rw [dEq_i]; simp [eqD, py, PyData.eqv, beq_eq_decide]) | (rw [dEq_s]; simp [eqD, py, PyData.eqv, beq_eq_decide])
theorem dNe_g {a b : D} (ha : eqOk a = true) (hb : eqOk b = true) : dNe a b = some (.bl (!eqD a b)) := by
  cases a <;> cases b <;> first | (simp only [dNe, ha, hb]; rfl) | (rw [dNe_i]; simp [eqD, py, PyData.eqv, beq_eq_decide]) | (rw [dNe_s]; simp [eqD, py, PyData.eqv, beq_eq_decide])
abbrev cs (t : Str) : List Nat := t.cps.toList
def chr (c : Nat) : Str := ⟨#[c]⟩
def txt (l : List Nat) : Str := ⟨l.toArray⟩
@[simp] theorem cs_app (a b : Str) : cs (a ++ b) = cs a ++ cs b := by
  show (a.cps ++ b.cps).toList = _
  rw [Array.toList_append]
@[simp] theorem cs_txt (l : List Nat) : cs (txt l) = l := rfl
@[simp] theorem cs_chr (c : Nat) : cs (chr c) = [c] := rfl
theorem txt_cs (t : Str) : txt (cs t) = t := by
  obtain ⟨⟨l⟩⟩ := t
  rfl
theorem cs_inj {a b : Str} (h : cs a = cs b) : a = b := by rw [← txt_cs a, ← txt_cs b, h]
theorem ok_cs {t : Str} (h : ∀ c ∈ cs t, c < 0x110000) : PyData.strOk t = true := by
  unfold PyData.strOk
  rw [← Array.all_toList, List.all_eq_true]
  intro c hc
  simpa using h c hc
theorem cs_ok {t : Str} (h : PyData.strOk t = true) : ∀ c ∈ cs t, c < 0x110000 := by
  unfold PyData.strOk at h
  rw [← Array.all_toList, List.all_eq_true] at h
  intro c hc
  simpa using h c hc
@[simp] theorem stL_1 (b : Ob) (l : List D) (tl : Sto) : stL (b :: .lst l :: tl) 1 = some l := rfl
@[simp] theorem dref_1 (b : Ob) (l : List D) (tl : Sto) : dref (b :: .lst l :: tl) (.obj 1) = .lst l := rfl
end DL
namespace DL
open PySem PySem.Spec PyProof.Rows L2
def wipeR (ρ : Rho) : List Nat → Rho
  | [] => ρ
  | v :: vs => (wipeR ρ vs).set v .no
theorem wipe_get (σ : L2.St) : ∀ (vs : List Nat) (i : Nat), (wipe σ vs)[i]? = if i ∈ vs then (σ[i]?).map (fun _ => none) else σ[i]?
  | [], i => by simp [wipe]
  | v :: vs, i => by
    unfold wipe
    by_cases h : v = i
    · subst h
      have e := wipe_get σ vs v
      by_cases hl : v < σ.length
      · rw [List.getElem?_set_self (by rw [wipe_length]; exact hl), if_pos List.mem_cons_self, List.getElem?_eq_getElem hl]; rfl
      · rw [List.getElem?_eq_none (by rw [List.length_set, wipe_length]; omega), if_pos List.mem_cons_self, List.getElem?_eq_none (by omega)]; rfl
    · rw [List.getElem?_set_ne h, wipe_get σ vs i]
      have h2 : i ≠ v := fun z => h z.symm
      simp [h2]
theorem wipe_idem (σ : L2.St) (vs : List Nat) : wipe (wipe σ vs) vs = wipe σ vs := by
  apply List.ext_getElem?
  intro i
  rw [wipe_get, wipe_get]
  by_cases h : i ∈ vs
  · rw [if_pos h, if_pos h]; cases σ[i]? <;> rfl
  · rw [if_neg h, if_neg h]
theorem wipe_set {σ : L2.St} {vs : List Nat} {i : Nat} {x : Option V} (h : i ∈ vs) : wipe (σ.set i x) vs = wipe σ vs := by
  apply List.ext_getElem?
  intro j
  rw [wipe_get, wipe_get]
  by_cases hj : j ∈ vs
  · rw [if_pos hj, if_pos hj]
    by_cases hi : i = j
    · subst hi
      by_cases hl : i < σ.length
      · rw [List.getElem?_set_self hl, List.getElem?_eq_getElem hl]; rfl
      · rw [List.getElem?_eq_none (by rw [List.length_set]; omega), List.getElem?_eq_none (by omega)]
    · rw [List.getElem?_set_ne hi]
  · rw [if_neg hj, if_neg hj, List.getElem?_set_ne (fun z : i = j => hj (by rw [← z]; exact h))]
section
variable {K : PySem.W.Frag} {ca : Ca} {H0 : Bs} {H H' H1 : Hp} {W W' W1 : Wd} {σ : L2.St} {ρ : Rho} {S S' : Sto} {a : Addr} {o : HO}
theorem Rep.wipe (R : Rep K ca H0 W H σ ρ S) : ∀ vs : List Nat, Rep K ca H0 W H (L2.wipe σ vs) (wipeR ρ vs) S
  | [] => R
  | v :: vs => (Rep.wipe R vs).setO trivial
theorem Rep.ofFut (R : Rep K ca H0 W H σ ρ S) (F : Fut W H W' H') (w : WOk W' H') (s : RepS K ca W' H' S') : Rep K ca H0 W' H' σ ρ S' where
  w := w
  s := s
  len := R.len
  sl := fun i x e => by
    obtain ⟨v, h1, h2⟩ := R.sl i x e
    refine ⟨v, h1, h2.mono F.hf F.ad fun b o hb hc => F.keep b o hb ?_⟩
    rcases hc with hc | hc | ⟨hc, _⟩
    · rw [hc]; rfl
    · rw [hc]; rfl
    · exact calmS_O hc
  h0 := fun a o e => by
    obtain ⟨o', h⟩ := R.h0 a o e
    exact F.dom a o' h
theorem Rep.mutFree (R : Rep K ca H0 W H σ ρ S) (h00 : H0 a = none) (h1 : W.hf a = none) (h2 : W.ow a = none) (h3 : ∃ o, H a = some o) (ht : ∀ xs, o ≠ .tup xs) : Rep K ca H0 W (upd H a o) σ ρ S := by
  have ne : ∀ b, b ≠ a → upd H a o b = H b := fun b h => upd_ne h
  refine ⟨⟨fun b x e => ?_, fun b xs e => ?_, R.w.dis, fun b q e => ?_⟩, ⟨fun n ob e => ?_, R.s.fin⟩, R.len, fun i x e => ?_, fun b x e => ?_⟩
  · have hb : b ≠ a := fun z => by subst z; rw [h1] at e; cases e
    rw [ne b hb]; exact R.w.sub b x e
  · by_cases h : b = a
    · subst h; rw [upd_same] at e; cases e; exact absurd rfl (ht xs)
    · rw [ne b h] at e; exact R.w.tup b xs e
  · by_cases h : b = a
    · subst h; exact ⟨o, upd_same⟩
    · obtain ⟨o', h'⟩ := R.w.dom b q e; exact ⟨o', by rw [ne b h]; exact h'⟩
  · obtain ⟨b, k1, k2, k3⟩ := R.s.at_ n ob e
    have hb : b ≠ a := fun z => by subst z; rw [h2] at k2; cases k2
    exact ⟨b, k1, k2, k3.mono (fun u h => by rw [ne b hb]; exact h) (Same.refl _) fun _ _ h => h⟩
  · obtain ⟨v, k1, k2⟩ := R.sl i x e
    refine ⟨v, k1, k2.mono (Same.refl _) (fun _ _ h => h) fun b u hb hc => ⟨?_, rfl⟩⟩
    have hb' : b ≠ a := fun z => by
      subst z
      rcases hc with hc | hc | ⟨_, o2, hc⟩
      · rw [h2] at hc; cases hc
      · rw [h2] at hc; cases hc
      · rw [h00] at hc; cases hc
    rw [ne b hb']; exact hb
  · obtain ⟨o', h⟩ := R.h0 b x e
    by_cases hb : b = a
    · subst hb; exact ⟨o, upd_same⟩
    · exact ⟨o', by rw [ne b hb]; exact h⟩
theorem Fut.mutNew (F : Fut W1 H1 W H) (h : H1 a = none) : Fut W1 H1 W (upd H a o) where
  hf := F.hf
  ad := F.ad
  keep := fun b u hb hc => by
    have hb' : b ≠ a := fun z => by subst z; rw [h] at hb; cases hb
    obtain ⟨k1, k2⟩ := F.keep b u hb hc
    exact ⟨by rw [upd_ne hb']; exact k1, k2⟩
  new := FutG.new F
  dom := fun b u hb => by
    obtain ⟨o', h'⟩ := F.dom b u hb
    by_cases hx : b = a
    · subst hx; exact ⟨o, upd_same⟩
    · exact ⟨o', by rw [upd_ne hx]; exact h'⟩
theorem Fut.free (F : Fut W H W' H') (h1 : W.hf a = none) (h2 : W.ow a = none) (h3 : H a = some o) : H' a = some o ∧ W'.ow a = none ∧ W'.hf a = none := by
  obtain ⟨k1, k2⟩ := F.keep a o h3 (by rw [h2]; rfl)
  refine ⟨k1, k2.trans h2, ?_⟩
  cases e : W'.hf a with
  | none => rfl
  | some u =>
    have := FutG.new F a u e h1
    rw [h3] at this; cases this
end
def mq {α : Type} (x : M α) : M α := fun S => match x S with
  | some (.ok a, S') => some (.ok a, S')
  | _ => none
def sYes : ST := fun _ => mp true
def lcD (tgt : D → Rho → Option Rho) (ft : ST) (fe : SE) (ρ : Rho) : List D → List D → M D
  | out, [] => mp (.lst out)
  | out, d :: r => match tgt d ρ with
    | none => mf
    | some ρ1 => mb (mq (ft ρ1)) fun b => if b = true then mb (mq (fe ρ1)) fun y => if out.length < sizeLine then lcD tgt ft fe ρ (out ++ [y]) r else mf else lcD tgt ft fe ρ out r
def sLc (vs : List Nat) (src : SA) (tgt : D → Rho → Option Rho) (ft : ST) (fe : SE) : SE := fun ρ => mb (src ρ) fun ds => lcD tgt ft fe (wipeR ρ vs) [] ds
section
variable (K : PySem.W.Frag) (ca : Ca) (H0 : Bs)
def tGw (vs : List Nat) (tgt : D → Rho → Option Rho) : TG := fun v σ H Q => ∃ W ρ S d ρ', Rep K ca H0 W H σ ρ S ∧ DV K ca W.hf W.ad v d ∧ tgt d ρ = some ρ' ∧ ∀ σ', L2.wipe σ' vs = L2.wipe σ vs → Rep K ca H0 W H σ' ρ' S → Q σ' H
def tGws (vs : List Nat) (tgt : List D → Rho → Option Rho) : TGs := fun us σ H Q => ∃ W ρ S ds ρ', Rep K ca H0 W H σ ρ S ∧ DVs K ca W.hf W.ad us ds ∧ tgt ds ρ = some ρ' ∧ ∀ σ', L2.wipe σ' vs = L2.wipe σ vs → Rep K ca H0 W H σ' ρ' S → Q σ' H
end
abbrev DGw (X : Cx) (ca : Ca) (H0 : Bs) (vs : List Nat) (tg : Expr) (f : D → Rho → Option Rho) : Prop := PG X tg (tGw X.K ca H0 vs f)
abbrev DGws (X : Cx) (ca : Ca) (H0 : Bs) (vs : List Nat) (tg : List Expr) (f : List D → Rho → Option Rho) : Prop := PGs X tg (tGws X.K ca H0 vs f)
section
variable {X : Cx} {ca : Ca} {H0 : Bs} {Wx : WX} {mr m : Md} {vs : List Nat}
theorem dgw_name {i : Nat} {x : Str} {pos : Pos} (hN : X.N.Nodup) (hi : X.N[i]? = some x) (hx : Loc X.env.scope x) (hv : i ∈ vs) (hf : X.fn x = true ∨ X.env.scope.names.lookup x = some .local := by first | exact .inl rfl | exact .inr rfl | assumption) : DGw X ca H0 vs (.Name x pos) (tgName i) :=
  PG.imp (pg_name hN hi hx hf) fun v σ H Q ⟨W, ρ, S, d, ρ', R, q, e, k⟩ => by
    unfold tgName at e
    by_cases hu : unlk ρ[i]? = true
    · rw [if_pos hu] at e; cases e
      exact k _ (wipe_set hv) (R.set ⟨v, rfl, q⟩)
    · rw [if_neg hu] at e; cases e
theorem dgws_nil : DGws X ca H0 vs [] tgNil := PGs.imp pgs_nil fun us σ H Q ⟨W, ρ, S, ds, ρ', R, q, e, k⟩ => by
  cases q with
  | nil => cases e; exact ⟨rfl, k σ rfl R⟩
  | cons _ _ => cases e
theorem dgws_cons {e : Expr} {es : List Expr} {t : D → Rho → Option Rho} {u : List D → Rho → Option Rho} (h1 : DGw X ca H0 vs e t) (h2 : DGws X ca H0 vs es u)
    (hs : (assignEach (e :: es) X.env).map (·.2) = assign e X.env :: (assignEach es X.env).map (·.2) := by rfl) : DGws X ca H0 vs (e :: es) (tgCons t u) :=
  PGs.imp (pgs_cons h1 h2 hs) fun us σ H Q ⟨W, ρ, S, ds, ρ', R, q, e, k⟩ => by
    cases q with
    | nil => cases e
    | cons q r =>
      obtain ⟨ρ1, e1, e2⟩ := Option.bind_eq_some_iff.mp e
      exact ⟨_, _, rfl, W, ρ, S, _, ρ1, R, q, e1, fun σ1 z1 R1 => ⟨W, ρ1, S, _, ρ', R1, r, e2, fun σ2 z2 R2 => k σ2 (z2.trans z1) R2⟩⟩
theorem dgw_tup {es : List Expr} {k n : Nat} {u : List D → Rho → Option Rho} {pos : Pos} (hc : X.calm = true) (h : DGws X ca H0 vs es u)
    (hn : (assignEach es X.env).length = n := by rfl) (hst : (assignEach es X.env).findIdx? (·.1) = none := by rfl) : DGw X ca H0 vs (.Tuple es k pos) (tgTup n u) :=
  PG.imp (PG.or (pg_tup hc h hn hst) (pg_lst hc h hn hst)) fun v σ H Q ⟨W, ρ, S, d, ρ', R, q, e, k⟩ => by
    cases d with
    | tup l =>
      have e : (if l.length = n then u l ρ else none) = some ρ' := e
      obtain ⟨a, us, rfl, h1, h2⟩ := DV.ofTup q
      by_cases hl : l.length = n
      · rw [if_pos hl] at e
        exact .inl ⟨a, us, rfl, R.w.tupOf h1, by rw [h2.length]; exact hl, W, ρ, S, l, ρ', R, h2, e, k⟩
      · rw [if_neg hl] at e; cases e
    | lst l =>
      have e : (if l.length = n then u l ρ else none) = some ρ' := e
      obtain ⟨a, us, rfl, h1, h2⟩ := DV.ofLst q
      by_cases hl : l.length = n
      · rw [if_pos hl] at e
        exact .inr ⟨a, us, rfl, .inl (.inl (R.w.sub _ _ h1)), by rw [h2.length]; exact hl, W, ρ, S, l, ρ', R, h2, e, k⟩
      · rw [if_neg hl] at e; cases e
    | _ => cases e
theorem PTs.imp {X : Cx} {e : List Expr} {t t' : TT} (h : PTs X e t) (i : ∀ σ H Q, t' σ H Q → t σ H Q) : PTs X e t' := ⟨fun pins s σ H Q I q => h.run pins s σ H Q I (i σ H Q q)⟩
theorem dts_nil : PTs X [] (tT X.K ca H0 Wx sYes) := PTs.imp pts_nil fun σ H Q ⟨W, ρ, S, R, o⟩ => o W H (FutG.refl _ _) R
theorem dts_one {c : Expr} {f : ST} (h : DT X ca H0 Wx c f) : PTs X [c] (tT X.K ca H0 Wx f) := pts_one h
abbrev Wn : WX := fun _ _ _ _ => False
theorem lc_of {K : PySem.W.Frag} {src : SA} {tgt : D → Rho → Option Rho} {ft : ST} {fe : SE} {σ : L2.St} {H : Hp} {Q : VK} (h : tE K ca H0 Wx m (sLc vs src tgt ft fe) σ H Q) :
    tLc (tI K ca H0 Wx src) (tGw K ca H0 vs tgt) (tT K ca H0 Wn ft) (tE K ca H0 Wn .frz fe) vs σ H Q := by
  obtain ⟨W, ρ, S, R, h⟩ := h
  refine ⟨W, ρ, S, R, (OutM.bind h).imp fun ds S1 W1 H1 F1 R1 h1 J y D hD => ?_⟩
  refine ⟨fun i mm H' => mm = ds.length - i ∧ ∃ W' S' acc out, Fut W1 H1 W' H' ∧ Rep K ca H0 W' H' σ ρ S' ∧ W'.hf D = none ∧ W'.ow D = none ∧ H' D = some (.lst acc) ∧ DVs K ca W'.hf W'.ad acc out ∧
    OutM K ca H0 Wx W1 ρ σ H1 (lcD tgt ft fe (wipeR ρ vs) out (ds.drop i) S') (fun d _ W'' H'' => ∀ v, DR K ca m H W'' H'' v d → Q v H''), ?_, ?_⟩
  · obtain ⟨f1, f2⟩ := R1.w.free hD
    exact ⟨ds.length, by simp, W1, S1, [], [], Fut.laid R1.w hD, R1.laid hD (fun _ z => by cases z), f1, f2, upd_same, .nil, by rw [List.drop_zero]; exact h1⟩
  rintro i m' H2 ⟨rfl, W2, S2, acc, out, F2, R2, d1, d2, d3, q, h2⟩
  have h00 : H0 D = none := none_of_dom R1.h0 hD
  obtain ⟨y1, y2⟩ := y i W2 H2 (Fut.s F2 R1.h0) R2.w
  by_cases hi : i < ds.length
  · have e1 : ds[i]? = some ds[i] := by simp [hi]
    obtain ⟨go, y3⟩ := y1 _ e1
    rw [List.drop_eq_getElem_cons hi] at h2
    refine .inr ⟨go, fun H' => ∃ W' S' acc out, Fut W1 H1 W' H' ∧ Rep K ca H0 W' H' σ ρ S' ∧ W'.hf D = none ∧ W'.ow D = none ∧ H' D = some (.lst acc) ∧ DVs K ca W'.hf W'.ad acc out ∧
      OutM K ca H0 Wx W1 ρ σ H1 (lcD tgt ft fe (wipeR ρ vs) out (ds.drop (i + 1)) S') (fun d _ W'' H'' => ∀ v, DR K ca m H W'' H'' v d → Q v H''), fun H' n => ⟨_, by omega, rfl, n⟩, fun x H3 yl => ?_⟩
    obtain ⟨W3, F3, R3, qx⟩ := y3 x H3 yl σ ρ S2 R2
    obtain ⟨g1, g2, g3⟩ := Fut.free F3 d1 d2 d3
    have F13 := Fut.trans' F2 F3
    unfold lcD at h2
    cases et : tgt ds[i] (wipeR ρ vs) with
    | none => simp only [et] at h2; exact False.elim h2
    | some ρ1 =>
      simp only [et] at h2
      refine ⟨W3, wipeR ρ vs, S2, _, ρ1, R3.wipe vs, qx, et, fun σ2 z2 RR => ⟨by rw [z2, wipe_idem], W3, ρ1, S2, RR, ?_⟩⟩
      have q3 := q.mono F3.hf F3.ad
      unfold mb mq at h2
      cases e2 : ft ρ1 S2 with
      | none => simp only [e2] at h2; exact False.elim h2
      | some r =>
        obtain ⟨r, S3⟩ := r
        cases r with
        | error z => simp only [e2] at h2; exact False.elim h2
        | ok b =>
          simp only [e2] at h2
          intro W4 H4 F4 R4
          obtain ⟨k1, k2, k3⟩ := Fut.free F4 g3 g2 g1
          have F14 := Fut.trans' F13 F4
          have R4' := R3.ofFut F4 R4.w R4.s
          have q4 := q3.mono F4.hf F4.ad
          cases b with
          | false => exact ⟨W4, S3, acc, out, F14, R4', k3, k2, k1, q4, h2⟩
          | true =>
            refine ⟨W4, ρ1, S3, R4, ?_⟩
            simp only [if_true] at h2
            cases e3 : fe ρ1 S3 with
            | none => simp only [e3] at h2; exact False.elim h2
            | some r =>
              obtain ⟨r, S4⟩ := r
              cases r with
              | error z => simp only [e3] at h2; exact False.elim h2
              | ok y =>
                simp only [e3] at h2
                intro W5 H5 F5 R5 v Dv
                obtain ⟨j1, j2, j3⟩ := Fut.free F5 k3 k2 k1
                by_cases hz : out.length < sizeLine
                · rw [if_pos hz] at h2
                  have q5 := q4.mono F5.hf F5.ad
                  refine ⟨acc, j1, by rw [q5.length]; exact hz, W5, S4, acc ++ [v], out ++ [y], Fut.mutNew (Fut.trans' F14 F5) hD, (R4'.ofFut F5 R5.w R5.s).mutFree h00 j3 j2 ⟨_, j1⟩ (fun _ z => by cases z), j3, j2, upd_same, q5.app (.cons Dv .nil), h2⟩
                · rw [if_neg hz] at h2; exact False.elim h2
  · rw [List.drop_eq_nil_of_le (by omega)] at h2
    refine .inl ⟨y2 (by omega), ?_⟩
    have h3 : ∀ W' H', Fut W1 H1 W' H' → Rep K ca H0 W' H' σ ρ S2 → ∀ v, DR K ca m H W' H' v (.lst out) → Q v H' := h2
    have hH : H D = none := none_of_dom F1.dom hD
    cases m with
    | frz => exact h3 (W2.fz D (.lst acc)) H2 ((F2.trans (FutG.fz d1 hD))) (R2.fz d3 d1 d2) (.ref D) (DV.lst upd_same (q.mono (same_upd d1) fun _ _ h => h))
    | bor => exact h3 W2 H2 F2 R2 (.ref D) ⟨D, acc, rfl, d3, by rw [d2]; rfl, q⟩
    | sta => exact h3 W2 H2 F2 R2 (.ref D) ⟨D, acc, rfl, d3, by rw [d2]; rfl, q⟩
    | fre => exact h3 W2 H2 F2 R2 (.ref D) ⟨D, acc, rfl, hH, d1, d2, d3, q⟩
theorem de_lc {elt tg iter : Expr} {ifs : List Expr} {scope : Scope} {own : List (Str × Nat)} {pos : Pos} {src : SA} {tgt : D → Rho → Option Rho} {ft : ST} {fe : SE} (hc : X.calm = true) (hN : X.N.Nodup) (hi : DI X ca H0 Wx tg iter src) (ok : BlkOk X.N X.env.scope scope own)
    (hg : ∀ (s : Shared) (H : Hp) (C : Addr) (cl : List (Str × Addr)) (fp : List Addr), DGw (X.blk s H scope (compEnvC scope cl C X.env) fp) ca H0 (own.map (·.2)) tg tgt) (ht : ∀ (s : Shared) (H : Hp) (C : Addr) (cl : List (Str × Addr)) (fp : List Addr), PTs (X.blk s H scope (compEnvC scope cl C X.env) fp) ifs (tT X.K ca H0 Wn ft))
    (he : ∀ (s : Shared) (H : Hp) (C : Addr) (cl : List (Str × Addr)) (fp : List Addr), DE (X.blk s H scope (compEnvC scope cl C X.env) fp) ca H0 Wn .frz elt fe) (hs : ∀ x, foldedSetIterable iter X.env x = pure x := by intro _; rfl) :
    DE X ca H0 Wx m (.ListComp elt [⟨tg, iter, ifs, 0⟩] scope pos) (sLc (own.map (·.2)) src tgt ft fe) :=
  PE.imp (pe_lc hc hN hi ok hg ht he hs) fun σ H Q h => lc_of h
def isTy : D → Option String
  | .non => some "NoneType"
  | .bl _ => some "bool"
  | .int _ => some "int"
  | .str _ => some "str"
  | .tup _ => some "tuple"
  | .lst _ => some "list"
  | _ => none
def sIsB (T : String) (fe : SE) : SE := fun ρ => mb (fe ρ) fun d S => mo ((isTy (dref S d)).bind fun t => (kitB t T).map D.bl) S
end
@[simp] theorem mq_ok {α : Type} (x : M α) (S : Sto) : mq x S = (match x S with | some (.ok a, S') => some (.ok a, S') | _ => none) := rfl
@[simp] theorem sYes_e (ρ : Rho) (S : Sto) : sYes ρ S = some (.ok true, S) := rfl
@[simp] theorem lcD_nil (t : D → Rho → Option Rho) (ft : ST) (fe : SE) (ρ : Rho) (out : List D) (S : Sto) : lcD t ft fe ρ out [] S = some (.ok (.lst out), S) := rfl
theorem lcD_cons (t : D → Rho → Option Rho) (ft : ST) (fe : SE) (ρ : Rho) (out : List D) (d : D) (r : List D) (S : Sto) : lcD t ft fe ρ out (d :: r) S = (match t d ρ with
    | none => none
    | some ρ1 => mb (mq (ft ρ1)) (fun b => if b = true then mb (mq (fe ρ1)) fun y => if out.length < sizeLine then lcD t ft fe ρ (out ++ [y]) r else mf else lcD t ft fe ρ out r) S) := by
  rw [lcD]; cases t d ρ <;> rfl
@[simp] theorem sLc_e (vs : List Nat) (src : SA) (t : D → Rho → Option Rho) (ft : ST) (fe : SE) (ρ : Rho) (S : Sto) : sLc vs src t ft fe ρ S = mb (src ρ) (fun ds => lcD t ft fe (wipeR ρ vs) [] ds) S := rfl
@[simp] theorem sIsB_e (T : String) (fe : SE) (ρ : Rho) (S : Sto) : sIsB T fe ρ S = mb (fe ρ) (fun d S => mo ((isTy (dref S d)).bind fun t => (kitB t T).map D.bl) S) S := rfl
@[simp] theorem wipeR_n (ρ : Rho) : wipeR ρ [] = ρ := rfl
@[simp] theorem wipeR_c (ρ : Rho) (v : Nat) (vs : List Nat) : wipeR ρ (v :: vs) = (wipeR ρ vs).set v .no := rfl
theorem lcD_map {t : D → Rho → Option Rho} {ft : ST} {fe : SE} {ρ : Rho} {S : Sto} (g : D → D) : ∀ (L out : List D), out.length + L.length ≤ sizeLine → (∀ d ∈ L, ∃ ρ1, t d ρ = some ρ1 ∧ ft ρ1 S = some (.ok true, S) ∧ fe ρ1 S = some (.ok (g d), S)) →
    lcD t ft fe ρ out L S = some (.ok (.lst (out ++ L.map g)), S)
  | [], out, _, _ => by simp
  | d :: L, out, hl, h => by
    obtain ⟨ρ1, e1, e2, e3⟩ := h d List.mem_cons_self
    rw [List.length_cons] at hl
    have z := lcD_map (ρ := ρ) (S := S) g L (out ++ [g d]) (by rw [List.length_append, List.length_singleton]; omega) (fun x hx => h x (List.mem_cons_of_mem _ hx))
    rw [lcD_cons, e1]
    simp only [mb_e, mq_ok, e2, e3, if_true]
    rw [if_pos (by omega), z, List.append_assoc]; rfl
theorem lcD_filter {t : D → Rho → Option Rho} {ft : ST} {fe : SE} {ρ : Rho} {S : Sto} (p : D → Bool) (g : D → D) : ∀ (L out : List D), out.length + L.length ≤ sizeLine → (∀ d ∈ L, ∃ ρ1, t d ρ = some ρ1 ∧ ft ρ1 S = some (.ok (p d), S) ∧ (p d = true → fe ρ1 S = some (.ok (g d), S))) →
    lcD t ft fe ρ out L S = some (.ok (.lst (out ++ (L.filter p).map g)), S)
  | [], out, _, _ => by simp
  | d :: L, out, hl, h => by
    obtain ⟨ρ1, e1, e2, e3⟩ := h d List.mem_cons_self
    rw [List.length_cons] at hl
    rw [lcD_cons, e1]
    cases hp : p d with
    | true =>
      have z := lcD_filter (ρ := ρ) (S := S) p g L (out ++ [g d]) (by rw [List.length_append, List.length_singleton]; omega) (fun x hx => h x (List.mem_cons_of_mem _ hx))
      rw [hp] at e2
      simp only [mb_e, mq_ok, e2, e3 hp, if_true]
      rw [if_pos (by omega), z, List.append_assoc, List.filter_cons_of_pos hp]; rfl
    | false =>
      have z := lcD_filter (ρ := ρ) (S := S) p g L out (by omega) (fun x hx => h x (List.mem_cons_of_mem _ hx))
      rw [hp] at e2
      simp only [mb_e, mq_ok, e2, Bool.false_eq_true, if_false]
      rw [z, List.filter_cons_of_neg (by rw [hp]; exact Bool.false_ne_true)]
end DL
namespace DL
open PySem PySem.Spec PyProof.Rows L2
theorem vals_at {ns : List Int} : ∀ {its : List Value} {i : Nat} {v : Value}, Vals (ns.map V.int) its → its[i]? = some v → ∃ n t, ns[i]? = some n ∧ v = .int n t := by
  induction ns with
  | nil =>
    intro its i v h e
    rw [List.map_nil] at h
    cases h
    simp at e
  | cons n r ih =>
    intro its i v h e
    rw [List.map_cons] at h
    cases h with
    | cons q qr =>
      cases i with
      | zero =>
        obtain ⟨t, ht⟩ := q
        exact ⟨n, t, rfl, by simp at e; rw [← e]; exact ht⟩
      | succ i =>
        obtain ⟨k, t, h1, h2⟩ := ih qr (by simpa using e)
        exact ⟨k, t, by simpa using h1, h2⟩
theorem truth_ints {prog : Program} {w : World} {A : Around} {ns : List Int} {its : List Value} (h : Vals (ns.map V.int) its) :
    TruthOf prog w A (fun i v => its.toArray[i]? = some v) (fun i => (ns.map (· != 0)).getD i false) := fun i v s Q E hv hq => by
  obtain ⟨n, t, e1, rfl⟩ := vals_at h (by simpa using hv)
  have hg : (ns.map (· != 0)).getD i false = (n != 0) := by rw [List.getD_eq_getElem?_getD, List.getElem?_map, e1]; rfl
  have hq' : Q ((ns.map (· != 0)).getD i false) s := hq
  rw [hg] at hq'
  exact PyProof.Rows.truthy_int hq'
section
variable {X : Cx}
theorem cr_allI (hc : X.calm = true) : CallR X (.builtin "all") (fun vs H Q => ∃ (a : Addr) (ns : List Int), vs = [V.ref a] ∧ SqL X.K H a (ns.map V.int) ∧ Q (.bl ((ns.map (· != 0)).all id)) H) := by
  intro pins s σ H vs us Q I r h
  obtain ⟨a, ns, rfl, hs, q⟩ := h
  obtain ⟨its, rv, hl, _⟩ := I.list hs
  rw [Vals.ref1 r]
  have hlen : its.length = (ns.map (· != 0)).length := by rw [List.length_map, ← rv.length, List.length_map]
  refine call_all_walk (iter_any hl.isList fun s₂ e2 st hne => ?_)
  subst e2
  refine ⟨_, _, _, _, _, _, _, rfl, Walks.list (A := X.A.in1) (I.ok.hd hc) _ a hne its.toArray, st, truth_ints rv, fun h' tk hk => ?_⟩
  refine ⟨.bl _, H, I.kept fun b o eo => hk b o (fun hmem => ?_) (Heap.get?_push_of_some _ eo), ?_, q⟩
  · rcases List.mem_cons.mp hmem with e1 | hmem
    · exact absurd (e1 ▸ Heap.lt_size eo) (Nat.lt_irrefl _)
    · cases hmem
  · show Value.bool _ = Value.bool _
    rw [← L2.all_range, List.size_toArray, hlen]
end
section
variable {X : Cx} {ca : Ca} {H0 : Bs} {Wx : WX} {m : Md}
theorem dvs_ints {K : PySem.W.Frag} {h : Hp} {ad : Nat → Option Addr} : ∀ {ns : List Int} {vs : List V}, DVs K ca h ad vs (ns.map D.int) → vs = ns.map V.int
  | [], _, .nil => rfl
  | n :: r, _, .cons q qr => by rw [dvs_ints qr, DV.ofInt q]; rfl
def oAnyI : List D → Option D
  | [.lst l] => (dInts l).map fun ns => .bl ((ns.map (· != 0)).any id)
  | _ => none
def oAllI : List D → Option D
  | [.lst l] => (dInts l).map fun ns => .bl ((ns.map (· != 0)).all id)
  | _ => none
theorem cd_allI (hc : X.calm = true) : CallD X ca H0 m (.builtin "all") oAllI := ⟨_, cr_allI hc, fun W H S xs ds d Q w s c e F => by
  match ds, c, e with
  | [.lst l], c, e =>
    obtain ⟨v, rfl, a, vs, rfl, h1, r⟩ := c.one
    obtain ⟨ns, e1, e2⟩ := Option.map_eq_some_iff.mp (show (dInts l).map (fun ns => D.bl ((ns.map (· != 0)).all id)) = some d from e)
    subst e2
    rw [dInts_eq e1] at r
    rw [dvs_ints r] at h1
    exact ⟨a, ns, rfl, SqL.of h1, F.scal rfl (.bl _)⟩⟩
def oAny2 (ds : List D) : Option D := match oAny ds with
  | some d => some d
  | none => oAnyI ds
def oAll2 (ds : List D) : Option D := match oAll ds with
  | some d => some d
  | none => oAllI ds
theorem cd_all2 (hc : X.calm = true) : CallD X ca H0 m (.builtin "all") oAll2 := CallD.or (cd_all hc) (cd_allI hc) fun x d e => by
  unfold oAll2 at e
  cases h : oAll x with
  | some y => rw [h] at e; exact .inl e
  | none => rw [h] at e; exact .inr e
end
end DL
namespace DL
open PySem PySem.Spec PyProof.Rows L2
def putD (f : Str) (d : D) : List (Str × D) → List (Str × D)
  | [] => [(f, d)]
  | (g, x) :: r => if g = f then (g, d) :: r else (g, x) :: putD f d r
section
variable {K : PySem.W.Frag} {ca : Ca} {h : Hp} {ad : Nat → Option Addr}
theorem DFs.put {f : Str} {v : V} {d : D} (q : DV K ca h ad v d) : ∀ {vfs : List (Str × V)} {fs : List (Str × D)}, DFs K ca h ad vfs fs → DFs K ca h ad (putF f v vfs) (putD f d fs)
  | _, _, .nil => .cons q .nil
  | _, _, .cons (k := g) p r => by
    unfold putF putD
    by_cases e : g = f
    · rw [if_pos e, if_pos e]; exact .cons q r
    · rw [if_neg e, if_neg e]; exact .cons p (DFs.put q r)
theorem DFs.len : ∀ {vfs : List (Str × V)} {fs : List (Str × D)}, DFs K ca h ad vfs fs → vfs.length = fs.length
  | _, _, .nil => rfl
  | _, _, .cons _ r => congrArg (· + 1) (DFs.len r)
theorem DFs.none {n : Str} : ∀ {vfs : List (Str × V)} {fs : List (Str × D)}, DFs K ca h ad vfs fs → fs.lookup n = none → vfs.lookup n = none
  | _, _, .nil, _ => rfl
  | _, _, .cons (k := k) q r, e => by
    rw [List.lookup_cons] at e ⊢
    cases hk : n == k with
    | true => rw [hk] at e; cases e
    | false => rw [hk] at e; exact DFs.none r e
end
def stI (S : Sto) (n : Nat) : Option (Str × List (Str × D)) := match S[n]? with
  | some (.ins c fs) => some (c, fs)
  | _ => none
theorem stI_eq {S : Sto} {n : Nat} {z : Str × List (Str × D)} (h : stI S n = some z) : S[n]? = some (.ins z.1 z.2) := by
  unfold stI at h
  split at h
  next c fs e => cases h; exact e
  next => cases h
def AttF (K : PySem.W.Frag) (ca : Ca) (tb : List Str) (f : Str) : Prop := ∀ c ∈ tb, Cls K (ca c) ∧ NoAttr K (ca c) f
section
variable {X : Cx} {ca : Ca} {H0 : Bs} {Wx : WX} {mr m : Md}
def eFld (tb : List Str) (f : Str) (fo : SE) : SE := fun ρ => mb (fo ρ) fun o S => match asObj o with
  | none => none
  | some n => match stI S n with
    | none => none
    | some z => if tb.contains z.1 = true then mo (z.2.lookup f) S else none
theorem DR.ofDV {K : PySem.W.Frag} {H W H' v d} (hm : m ≠ .fre) (w : WOk W H') (q : DV K ca W.hf W.ad v d) : DR K ca m H W H' v d := by
  cases m with
  | frz => exact q
  | bor => exact DR.toBor (m := .frz) (H := H) w q
  | sta => exact DR.toSta (m := .frz) (H := H) (by decide) w q
  | fre => exact absurd rfl hm
theorem de_fld {tb : List Str} {f : Str} {e : Expr} {fo : SE} {pos : Pos} (hm : m ≠ .fre) (T : AttF X.K ca tb f) (he : DE X ca H0 Wx .frz e fo) (hb : attributeBase e f X.env (eval e X.env) = eval e X.env := by rfl) :
    DE X ca H0 Wx m (.Attribute e f pos) (eFld tb f fo) :=
  PE.imp (pe_fld he hb) fun σ H Q ⟨W, ρ, S, R, o⟩ => ⟨W, ρ, S, R, (OutM.bind o).imp fun d S1 W1 H1 F1 R1 h1 x D1 => by
    cases e0 : asObj d with
    | none => simp only [e0] at h1; exact False.elim h1
    | some n =>
      simp only [e0] at h1
      rw [asObj_eq e0] at D1
      obtain ⟨a, rfl, ha⟩ := DV.ofObj D1
      cases e1 : stI S1 n with
      | none => simp only [e1] at h1; exact False.elim h1
      | some z =>
        simp only [e1] at h1
        obtain ⟨b, k1, k2, dx, vfs, k3, k4⟩ := R1.s.at_ n _ (stI_eq e1)
        have hb : b = a := by rw [ha] at k1; exact (Option.some.inj k1).symm
        subst hb
        by_cases hc : tb.contains z.1 = true
        · rw [if_pos hc] at h1
          obtain ⟨t1, t2⟩ := T z.1 (List.contains_iff_mem.mp hc)
          cases e2 : z.2.lookup f with
          | none => rw [e2] at h1; exact False.elim h1
          | some y =>
            rw [e2] at h1
            obtain ⟨v, j1, j2⟩ := k4.look e2
            exact ⟨b, _, dx, vfs, v, rfl, k3, t1, t2, j1, h1 W1 H1 (FutG.refl _ _) R1 v (DR.ofDV hm R1.w j2)⟩
        · rw [if_neg hc] at h1; exact False.elim h1⟩
def bFld (tb : List Str) (f : Str) (fo fe : SE) : SS := fun ρ => sb (fe ρ) ρ fun d => sb (fo ρ) ρ fun o S => match asObj o with
  | none => none
  | some n => match stI S n with
    | none => none
    | some z => if tb.contains z.1 = true ∧ z.2.length < 1000 then some (.nx ρ, S.set n (.ins z.1 (putD f d z.2))) else none
theorem ds_fld {tb : List Str} {f : Str} {o value : Expr} {fo fe : SE} {pos pos' : Pos} (T : AttF X.K ca tb f) (ho : DE X ca H0 Wx .frz o fo) (hv : DE X ca H0 Wx .frz value fe) (hs : swapsWith value (some (.Attribute o f pos')) pos.line X.env = pure false := by rfl) :
    DS X ca H0 Wx mr (.Assign [.Attribute o f pos'] value pos) (bFld tb f fo fe) :=
  PS.imp (ps_fld ho hv hs) fun D σ H ⟨W, ρ, S, R, o⟩ => ⟨W, ρ, S, R, (OutS.bind R o).imp fun d S1 W1 H1 F1 R1 h v Dv => ⟨W1, ρ, S1, R1, (OutS.bind R1 h).imp fun x S2 W2 H2 F2 R2 h2 u Du => by
    cases e0 : asObj x with
    | none => simp only [e0] at h2; exact False.elim h2
    | some n =>
      simp only [e0] at h2
      rw [asObj_eq e0] at Du
      obtain ⟨a, rfl, ha⟩ := DV.ofObj Du
      cases e1 : stI S2 n with
      | none => simp only [e1] at h2; exact False.elim h2
      | some z =>
        simp only [e1] at h2
        obtain ⟨b, k1, k2, dx, vfs, k3, k4⟩ := R2.s.at_ n _ (stI_eq e1)
        have hb : b = a := by rw [ha] at k1; exact (Option.some.inj k1).symm
        subst hb
        by_cases hc : tb.contains z.1 = true ∧ z.2.length < 1000
        · rw [if_pos hc] at h2
          obtain ⟨t1, t2⟩ := T z.1 (List.contains_iff_mem.mp hc.1)
          refine ⟨b, _, dx, vfs, rfl, k3, t1, t2, by rw [k4.len]; exact hc.2, ?_⟩
          exact h2 W2 _ _ (FutG.mut (by rw [k2]; rfl)) (R2.mutObj (List.getElem?_eq_some_iff.mp (stI_eq e1)).1 k1 k2 (fun _ z => by cases z) ⟨dx, _, upd_same, DFs.put (DV.mono F2.hf F2.ad Dv) k4⟩)
        · rw [if_neg hc] at h2; exact False.elim h2⟩⟩
def eAlt (f g : SE) : SE := fun ρ S => match f ρ S with
  | some r => some r
  | none => g ρ S
structure MetF (P : Program) (w : World) (K : PySem.W.Frag) (mg : Str → Option Value) (base : Heap) (ca : Ca) (c m : Str) (k : Nat) (ms : List Bool) (mr : Md) (sem : Sem1) (dds : List D) : Prop where
  ex : ∃ (a : Addr) (fd : FuncData) (ps : List Str), Cls K (ca c) ∧ Meth K (ca c) m a ∧ FnG P w K mg base k a fd ps (spD K ca ms mr sem) ∧
    (∀ j, j ≤ dds.length → ∃ dvs ds, Vals dvs ds ∧ Binds K fd ps ds ∧ DVs K ca (fun _ => none) (fun _ => none) dvs (dds.drop j))
  sc : dds.all isScal = true
def eMeth (c m : Str) (sem : Sem1) (dds : List D) (fo : SE) (fa : SA) : SE := fun ρ => mb (fo ρ) fun o S => match asObj o with
  | none => none
  | some n => match stI S n with
    | none => none
    | some z => if z.1 = c ∧ z.2.lookup m = none then mb (fa ρ) (fun ds S => sem (o :: ds ++ dds) S) S else none
def tMethG (C : Addr) (m : Str) (sp : Sp) (dvs : List V) (E : L2.St → XK) (ta : TE) (t : TA) : TE := fun σ H Q => ta σ H fun x H1 => ∃ a dx fs, x = .ref a ∧ H1 a = some (.ins C dx fs) ∧ fs.lookup m = none ∧
  t σ H1 fun vs H2 => sp (x :: (vs ++ dvs)) H2 Q (E σ)
theorem pe_methG {pl : Sem Bool} {k : Nat} {C g : Addr} {fd : FuncData} {ps : List Str} {sp : Sp} {dvs : List V} {ds : List Value} {E : L2.St → XK} {o e : Expr} {es : List Expr} {m : Str} {apos pos : Pos} {ta : TE} {t : TA}
    (he : PE X o ta) (c : Cls X.K C) (hm : Meth X.K C m g) (F : FnG X.prog X.w X.K X.mg X.base k g fd ps sp) (hG : X.A.guards = some []) (hr : Room k X.A) (hb : Binds X.K fd ps ds) (hd : Vals dvs ds) (hx : ∀ σ, PassesAt (CXP X.prog X.w) X σ (E σ)) (ha : PA X (e :: es) t)
    (hst : starEach (e :: es) X.env = (false, eval e X.env) :: starEach es X.env) (hpl : (backTo pos (starEach es X.env)).any (·.1) = false)
    (ht : eval (.Call (.Attribute o m apos) (e :: es) [] pos) X.env = (do
      let ov ← eval o X.env
      standAt apos.atName
      let (f, first) ← holding [ov] (getMethod ov m pl)
      callWith pos f first (backTo pos (starEach (e :: es) X.env)) (backToKw pos (keywordEach [] X.env)))) :
    PE X (.Call (.Attribute o m apos) (e :: es) [] pos) (tMethG C m sp dvs E ta t) :=
  ⟨fun pins s σ H Q I h => PySem.W.methodCall_KW (pl := pl) (thn (he.run pins s σ H _ I h) fun u s1 ⟨x, H1, I1, rx, b, dx, fs, ex, eb, l, q⟩ => by
    subst ex
    obtain rfl : u = Value.ref b := rx
    exact getmeth_ok I1 eb c hm l (PySem.W.callWith_K (first := [.ref b]) (h₀ := X.base) I.ok.mod.kin hm.kp (thn (ha.run pos pins s1 σ H1 _ I1 q) fun us s2 ⟨vs, H2, I2, r, q2⟩ =>
      ⟨I2.kIn, run_G (us := .ref b :: us) (vs := .ref b :: vs) F hG hr hb hd (hx σ) I2 (.cons rfl r) q2⟩) hst hpl)) ht⟩
theorem pe_methG0 {pl : Sem Bool} {k : Nat} {C g : Addr} {fd : FuncData} {ps : List Str} {sp : Sp} {dvs : List V} {ds : List Value} {E : L2.St → XK} {o : Expr} {m : Str} {apos pos : Pos} {ta : TE}
    (he : PE X o ta) (c : Cls X.K C) (hm : Meth X.K C m g) (F : FnG X.prog X.w X.K X.mg X.base k g fd ps sp) (hG : X.A.guards = some []) (hr : Room k X.A) (hb : Binds X.K fd ps ds) (hd : Vals dvs ds) (hx : ∀ σ, PassesAt (CXP X.prog X.w) X σ (E σ))
    (ht : eval (.Call (.Attribute o m apos) [] [] pos) X.env = (do
      let ov ← eval o X.env
      standAt apos.atName
      let (f, first) ← holding [ov] (getMethod ov m pl)
      callWith pos f first (backTo pos (starEach [] X.env)) (backToKw pos (keywordEach [] X.env)))) :
    PE X (.Call (.Attribute o m apos) [] [] pos) (tMethG C m sp dvs E ta tNil) :=
  ⟨fun pins s σ H Q I h => PySem.W.methodCall_KW (pl := pl) (thn (he.run pins s σ H _ I h) fun u s1 ⟨x, H1, I1, rx, b, dx, fs, ex, eb, l, q⟩ => by
    subst ex
    obtain rfl : u = Value.ref b := rx
    exact getmeth_ok I1 eb c hm l (PySem.W.callWith_K0 (first := [.ref b]) I1.kIn hm.kp (run_G (us := [.ref b]) (vs := [.ref b]) F hG hr hb hd (hx σ) I1 (.cons rfl .nil) q))) ht⟩
theorem cal_ow {W1 : Wd} : ∀ a p, W1.cal.ow a = some p → calmO (some p) = false := fun a p h => by
  by_cases c : calmO (W1.ow a) = true
  · rw [cal_calm c] at h; cases h
  · rw [cal_ob (by simpa using c)] at h
    rw [← h]; simpa using c
theorem meth_of {c m : Str} {ms ns : List Bool} {sem : Sem1} {dds : List D} {dvs : List V} {fo : SE} {fa : SA} {σ : L2.St} {H : Hp} {Q : VK} (hmr : mr = .frz ∨ mr = .fre) (hq : DVs X.K ca (fun _ => none) (fun _ => none) dvs dds) (hs : dds.all isScal = true) (hn : ns.length = dds.length)
    (h : tE X.K ca H0 Wx mr (eMeth c m sem dds fo fa) σ H Q) :
    tMethG (ca c) m (spD X.K ca (true :: (ms ++ ns)) mr sem) dvs (WE Wx) (tE X.K ca H0 Wx .frz fo) (tAm X.K ca H0 Wx (ms.map pmd) fa) σ H Q := by
  obtain ⟨W, ρ, S, R, o⟩ := h
  refine ⟨W, ρ, S, R, (OutM.bind o).imp fun d S1 W1 H1 F1 R1 h1 x D1 => ?_⟩
  cases e0 : asObj d with
  | none => simp only [e0] at h1; exact False.elim h1
  | some n =>
    simp only [e0] at h1
    obtain rfl := asObj_eq e0
    obtain ⟨a, rfl, ha⟩ := DV.ofObj D1
    cases e1 : stI S1 n with
    | none => simp only [e1] at h1; exact False.elim h1
    | some z =>
      simp only [e1] at h1
      obtain ⟨b, k1, k2, dx, vfs, k3, k4⟩ := R1.s.at_ n _ (stI_eq e1)
      have hb : b = a := by rw [ha] at k1; exact (Option.some.inj k1).symm
      subst hb
      by_cases hc : z.1 = c ∧ z.2.lookup m = none
      · rw [if_pos hc] at h1
        obtain ⟨hc1, hc2⟩ := hc
        refine ⟨b, dx, vfs, rfl, by rw [← hc1]; exact k3, k4.none hc2, W1, ρ, S1, R1, ?_⟩
        have o1 := OutM.bind h1
        cases e2 : fa ρ S1 with
        | none => rw [e2] at o1; exact o1.elim
        | some pr =>
          obtain ⟨ex, S2⟩ := pr
          rw [e2] at o1
          cases ex with
          | error z => exact o1
          | ok as =>
            refine fun W2 H2 F2 R2 vs D2 => ⟨W2.cal, _ :: (as ++ dds), S2, R2.w.cal, R2.s.cal, cal_ow, .kept (DV.obj (F2.ad _ _ ha)) ((Bos.args R2.w D2).app (Bos.cons_ ns hn hq hs)), ?_⟩
            exact outF_of (Hr := H1) hmr R2 ((o1 W2 H2 F2 R2).imp fun d S3 W3 H3 F3 R3 q v r => q v (DR.older (fun a o ho => F1.dom a o ho |>.elim fun o' ho' => F2.dom a o' ho') r))
      · rw [if_neg hc] at h1; exact False.elim h1
theorem de_meth {pl : Sem Bool} {k : Nat} {c m : Str} {ms : List Bool} {sem : Sem1} {dds : List D} {o e : Expr} {es : List Expr} {apos pos : Pos} {fo : SE} {fa : SA} (n j : Nat) (C : MetF X.prog X.w X.K X.mg X.base ca c m k (true :: ms) mr sem dds) (hG : X.A.guards = some []) (hr : Room k X.A) (tk : Takes X Wx)
    (ho : DE X ca H0 Wx .frz o fo) (ha : DAm X ca H0 Wx ((ms.take n).map pmd) (e :: es) fa) (hj : j ≤ dds.length := by decide) (hn : (ms.drop n).length = (dds.drop j).length := by rfl)
    (hmr : mr = .frz ∨ mr = .fre := by first | exact .inl rfl | exact .inr rfl)
    (hst : starEach (e :: es) X.env = (false, eval e X.env) :: starEach es X.env := by rfl) (hpl : (backTo pos (starEach es X.env)).any (·.1) = false := by rfl)
    (ht : eval (.Call (.Attribute o m apos) (e :: es) [] pos) X.env = (do
      let ov ← eval o X.env
      standAt apos.atName
      let (f, first) ← holding [ov] (getMethod ov m pl)
      callWith pos f first (backTo pos (starEach (e :: es) X.env)) (backToKw pos (keywordEach [] X.env))) := by rfl) :
    DE X ca H0 Wx mr (.Call (.Attribute o m apos) (e :: es) [] pos) (eMeth c m sem (dds.drop j) fo fa) := by
  obtain ⟨⟨a, fd, ps, h1, h2, h3, h4⟩, h5⟩ := C
  obtain ⟨dvs, ds, k1, k2, k3⟩ := h4 j hj
  rw [← List.take_append_drop n ms] at h3
  exact PE.imp (pe_methG ho h1 h2 h3 hG hr k2 k1 (fun σ => passAt tk σ) ha hst hpl ht) fun σ H Q h => meth_of hmr k3 (all_drop h5 j) hn h
theorem de_meth0 {pl : Sem Bool} {k : Nat} {c m : Str} {ms : List Bool} {sem : Sem1} {dds : List D} {o : Expr} {apos pos : Pos} {fo : SE} (C : MetF X.prog X.w X.K X.mg X.base ca c m k (true :: ms) mr sem dds) (hG : X.A.guards = some []) (hr : Room k X.A) (tk : Takes X Wx)
    (ho : DE X ca H0 Wx .frz o fo) (hn : ms.length = dds.length := by rfl)
    (hmr : mr = .frz ∨ mr = .fre := by first | exact .inl rfl | exact .inr rfl)
    (ht : eval (.Call (.Attribute o m apos) [] [] pos) X.env = (do
      let ov ← eval o X.env
      standAt apos.atName
      let (f, first) ← holding [ov] (getMethod ov m pl)
      callWith pos f first (backTo pos (starEach [] X.env)) (backToKw pos (keywordEach [] X.env))) := by rfl) :
    DE X ca H0 Wx mr (.Call (.Attribute o m apos) [] [] pos) (eMeth c m sem dds fo sNil) := by
  obtain ⟨⟨a, fd, ps, h1, h2, h3, h4⟩, h5⟩ := C
  obtain ⟨dvs, ds, k1, k2, k3⟩ := h4 0 (Nat.zero_le _)
  rw [List.drop_zero] at k3
  refine PE.imp (pe_methG0 ho h1 h2 h3 hG hr k2 k1 (fun σ => passAt tk σ) ht) fun σ H Q h => ?_
  have z := meth_of (ms := []) (ns := ms) hmr k3 h5 hn h
  obtain ⟨W, ρ, S, R, z⟩ := z
  refine ⟨W, ρ, S, R, z.imp fun d S1 W1 H1 F1 R1 q x D1 => ?_⟩
  obtain ⟨a', dx, fs, y1, y2, y3, W2, ρ2, S2, R2, y4⟩ := q x D1
  exact ⟨a', dx, fs, y1, y2, y3, y4 W2 H1 (FutG.refl _ _) R2 [] .nil⟩
end
end DL
namespace DL
open PySem PySem.Spec PyProof.Rows L2
structure MakF (P : Program) (w : World) (K : PySem.W.Frag) (mg : Str → Option Value) (base : Heap) (ca : Ca) (c : Str) (k : Nat) (ms : List Bool) (sem : Sem1) (dds : List D) : Prop where
  ex : ∃ (f : Addr) (fd : FuncData) (ps : List Str), mg c = some (.ref (ca c)) ∧ Mk K (ca c) f ∧ FnG P w K mg base k f fd ps (spD K ca ms .frz sem) ∧
    (∀ j, j ≤ dds.length → ∃ dvs ds, Vals dvs ds ∧ Binds K fd ps ds ∧ DVs K ca (fun _ => none) (fun _ => none) dvs (dds.drop j))
  sc : dds.all isScal = true
def mkR (n : Nat) : Option (Except Xc D × Sto) → Option (Except Xc D × Sto)
  | some (.ok .non, S) => some (.ok (.obj n), S)
  | some (.error x, S) => some (.error x, S)
  | _ => none
def eMake (c : Str) (sem : Sem1) (dds : List D) (fa : SA) : SE := fun ρ => mb (fa ρ) fun ds S => mkR S.length (sem (.obj S.length :: ds ++ dds) (S ++ [.ins c []]))
section
variable {X : Cx} {ca : Ca} {H0 : Bs} {Wx : WX} {mr m : Md}
def tMakeG (C : Addr) (sp : Sp) (dvs : List V) (E : L2.St → XK) (t : TA) : TE := fun σ H Q => t σ H fun vs H1 => ∀ x dx, H1 x = none → H1 dx = none → dx ≠ x →
  sp (.ref x :: (vs ++ dvs)) (upd (upd H1 dx (.own x)) x (.ins C dx [])) (fun v H2 => v = .non ∧ Q (.ref x) H2) (E σ)
theorem run_makeG {k : Nat} {C f : Addr} {fd : FuncData} {ps : List Str} {sp : Sp} {dvs : List V} {ds : List Value} {E : L2.St → XK} {pins : List (Addr × Obj)} {σ : L2.St} {H : Hp} {s : Shared} {Q : VK} {us : List Value} {vs : List V}
    (M : Mk X.K C f) (F : FnG X.prog X.w X.K X.mg X.base k f fd ps sp) (hG : X.A.guards = some []) (hr : Room (k + 1) X.A) (hb : Binds X.K fd ps ds) (hd : Vals dvs ds) (hx : ∀ σ, PassesAt (CXP X.prog X.w) X σ (E σ)) (I : Inv X pins σ H s) (r : Vals vs us)
    (h : ∀ x dx, H x = none → H dx = none → dx ≠ x → sp (.ref x :: (vs ++ dvs)) (upd (upd H dx (.own x)) x (.ins C dx [])) (fun v H2 => v = .non ∧ Q (.ref x) H2) (E σ)) :
    wpAny (model X.prog X.w) X.A (call (.ref C) us) (EP X pins σ Q) X.xe s := by
  have p := h _ _ (I.hok.fresh (Nat.le_succ s.heap.objs.size)) (I.hok.fresh (Nat.le_refl _)) (Nat.ne_of_lt (Nat.lt_succ_self _))
  have J := Inv.made (C := C) I
  have rr : Vals (V.ref (s.heap.objs.size + 1) :: (vs ++ dvs)) (Value.ref (s.heap.objs.size + 1) :: (us ++ ds)) := .cons rfl (r.append hd)
  have hl : (Value.ref (s.heap.objs.size + 1) :: us ++ ds).length = ps.length := rr.length.symm.trans (F.len _ _ _ _ p)
  have go := F.go _ X.stack _ _ ⟨Value.ref (s.heap.objs.size + 1) :: us, []⟩ (Value.ref (s.heap.objs.size + 1) :: (us ++ ds)) _ _ (E σ) (show (X.A.under (.builtin "type.__call__" ⟨.ref C :: us, []⟩)).guards = some [] from hG)
    (hr.make C us []) (J.env0.make C us []) (hb _ (Value.ref (s.heap.objs.size + 1) :: us) J.kIn hl) rr p
  refine wpAny_call (make_map (f := f) I.kIn M.makes M.init (beq_iff_eq.mp M.fn) (codeAny_mono go ?_))
  intro res s' hq
  match res, hq with
  | .error e, hq => exact hx σ pins _ _ e s' J hq
  | .ok (.ret u), hq =>
    obtain ⟨v, H', J2, rv, ev, q⟩ := J.after hq
    subst ev
    exact ⟨rv, ⟨V.ref (s.heap.objs.size + 1), H', J2, rfl, q⟩⟩
theorem pe_makeG0 {k : Nat} {C f : Addr} {fd : FuncData} {ps : List Str} {sp : Sp} {dvs : List V} {ds : List Value} {E : L2.St → XK} {x : Str} {p pos : Pos}
    (M : Mk X.K C f) (F : FnG X.prog X.w X.K X.mg X.base k f fd ps sp) (hG : X.A.guards = some []) (hr : Room (k + 1) X.A) (hg : Gl X x) (hm : X.mg x = some (.ref C)) (hb : Binds X.K fd ps ds) (hd : Vals dvs ds) (hx : ∀ σ, PassesAt (CXP X.prog X.w) X σ (E σ))
    (hdb : (x == ("__debug__" : Str)) = false) : PE X (.Call (.Name x p) [] [] pos) (tMakeG C sp dvs E tNil) :=
  ⟨fun pins s σ H Q I h => wpAny_Call_Name_kw (ld_glob I hg hm (PySem.W.callWith_K0 I.kIn M.kp (run_makeG (us := []) M F hG hr hb hd hx I .nil h)) hdb)⟩
theorem DRm.later_ {K : PySem.W.Frag} {H H1 H2 : Hp} {W1 W2 : Wd} (f : Fut W1 H1 W2 H2) : ∀ {ms : List Bool} {vs : List V} {ds : List D}, DRm K ca H W1 H1 (ms.map pmd) vs ds → DRm K ca H W2 H2 (ms.map pmd) vs ds
  | [], _, _, .nil => .nil
  | b :: _, _, _, .cons q r => .cons (DR.later (by cases b <;> decide) f q) (DRm.later_ f r)
theorem make_of {c : Str} {ms ns : List Bool} {sem : Sem1} {dds : List D} {dvs : List V} {fa : SA} {σ : L2.St} {H : Hp} {Q : VK} (hq : DVs X.K ca (fun _ => none) (fun _ => none) dvs dds) (hs : dds.all isScal = true) (hn : ns.length = dds.length)
    (h : tE X.K ca H0 Wx m (eMake c sem dds fa) σ H Q) : tMakeG (ca c) (spD X.K ca (true :: (ms ++ ns)) .frz sem) dvs (WE Wx) (tAm X.K ca H0 Wx (ms.map pmd) fa) σ H Q := by
  obtain ⟨W, ρ, S, R, o⟩ := h
  refine ⟨W, ρ, S, R, ?_⟩
  have o1 := OutM.bind o
  cases e1 : fa ρ S with
  | none => rw [e1] at o1; exact o1.elim
  | some pr =>
    obtain ⟨ex, S1⟩ := pr
    rw [e1] at o1
    cases ex with
    | error z => exact o1
    | ok as =>
      refine fun W1 H1 F1 R1 vs D1 x dx hx hdx hne => ?_
      have h1 : OutM X.K ca H0 Wx W1 ρ σ H1 (mkR S1.length (sem (.obj S1.length :: (as ++ dds)) (S1 ++ [.ins c []]))) _ := o1 W1 H1 F1 R1
      have hx2 : upd H1 dx (.own x) x = none := by rw [upd_ne hne.symm]; exact hx
      obtain ⟨f1, f2⟩ := R1.w.free hx
      have Fl := Fut.trans' (Fut.laid (o := .own x) R1.w hdx) (Fut.laid (o := .ins (ca c) dx []) (R1.laid (o := .own x) hdx (fun _ z => by cases z)).w hx2)
      have Rl := (R1.laid (o := .own x) hdx (fun _ z => by cases z)).laid (o := .ins (ca c) dx []) hx2 (fun _ z => by cases z)
      have Rm := Rl.more (ob := .ins c []) (none_of_dom R1.h0 hx) f1 f2 upd_same ⟨dx, [], upd_same, .nil⟩
      have Fm := Fut.moreNew (S := S1) Rl.s Fl hx
      have adn : (W1.more S1.length x).ad S1.length = some x := if_pos rfl
      have args := (Bos.args R1.w D1).app (Bos.cons_ (K := X.K) (ca := ca) (W := W1.cal) (H := H1) ns hn hq hs)
      refine ⟨(W1.more S1.length x).cal, .obj S1.length :: (as ++ dds), S1 ++ [.ins c []], Rm.w.cal, Rm.s.cal, cal_ow, .kept (DV.obj adn) ?_, ?_⟩
      · have D2 : DRm X.K ca H (W1.more S1.length x) (upd (upd H1 dx (.own x)) x (.ins (ca c) dx [])) (ms.map pmd) vs as := DRm.later_ Fm D1
        exact (Bos.args Rm.w D2).app (Bos.cons_ ns hn hq hs)
      · cases e2 : sem (.obj S1.length :: (as ++ dds)) (S1 ++ [.ins c []]) with
        | none => rw [e2] at h1; exact False.elim h1
        | some r =>
          rw [e2] at h1
          obtain ⟨r, S2⟩ := r
          cases r with
          | error z =>
            exact fun W2 H2 cls od F2 w2 s2 xv => h1 _ H2 cls od (Fut.trans' Fm (Fut.back F2 Rm.w)) ((R1.ofFut Fm Rm.w Rm.s).back F2 w2 s2) xv
          | ok d =>
            cases d with
            | non => exact fun W2 H2 v F2 w2 s2 q => ⟨DV.ofNon q, h1 _ H2 (Fut.trans' Fm (Fut.back F2 Rm.w)) ((R1.ofFut Fm Rm.w Rm.s).back F2 w2 s2) _ (DR.scal rfl (.obj (F2.ad _ _ adn)))⟩
            | _ => exact False.elim h1
theorem de_make0 {k : Nat} {c : Str} {ms : List Bool} {sem : Sem1} {dds : List D} {p pos : Pos} (C : MakF X.prog X.w X.K X.mg X.base ca c k (true :: ms) sem dds) (hG : X.A.guards = some []) (hr : Room (k + 1) X.A) (hg : Gl X c) (tk : Takes X Wx) (hn : ms.length = dds.length := by rfl)
    (hdb : (c == ("__debug__" : Str)) = false := by decide) : DE X ca H0 Wx m (.Call (.Name c p) [] [] pos) (eMake c sem dds sNil) := by
  obtain ⟨⟨f, fd, ps, h1, h2, h3, h4⟩, h5⟩ := C
  obtain ⟨dvs, ds, k1, k2, k3⟩ := h4 0 (Nat.zero_le _)
  rw [List.drop_zero] at k3
  refine PE.imp (pe_makeG0 h2 h3 hG hr hg h1 k2 k1 (fun σ => passAt tk σ) hdb) fun σ H Q h => ?_
  obtain ⟨W, ρ, S, R, z⟩ := make_of (ms := []) (ns := ms) k3 h5 hn h
  exact z W H (FutG.refl _ _) R [] .nil
def foD (it : Nat → D → D) (n : Nat) (tgt : D → Rho → Option Rho) (body : SS) : Nat → Nat → SS
  | 0, _, _, _ => none
  | k + 1, i, ρ, S => match stL S n with
    | none => none
    | some l => match l[i]? with
      | none => some (.nx ρ, S)
      | some d => match tgt (it i d) ρ with
        | none => none
        | some ρ1 => match body ρ1 S with
          | some (.nx ρ', S') => foD it n tgt body k (i + 1) ρ' S'
          | some (.cnt ρ', S') => foD it n tgt body k (i + 1) ρ' S'
          | some (.brk ρ', S') => some (.nx ρ', S')
          | z => z
open Classical in
noncomputable def foR (it : Nat → D → D) (n : Nat) (tgt : D → Rho → Option Rho) (body : SS) : SS := fun ρ S => if h : ∃ k r, foD it n tgt body k 0 ρ S = some r then foD it n tgt body h.choose 0 ρ S else none
noncomputable def bForO (it : Nat → D → D) (fo : SE) (tgt : D → Rho → Option Rho) (body : SS) : SS := fun ρ => sb (fo ρ) ρ fun o S => match asObj o with
  | none => none
  | some n => foR it n tgt body ρ S
def itId : Nat → D → D := fun _ d => d
def YlO (K : PySem.W.Frag) (ca : Ca) (H0 : Bs) (J : It) (a : Addr) (it : Nat → D → D) : Prop := ∀ (i : Nat) (H : Hp) (vs : List V), H a = some (.lst vs) →
  (∀ v, vs[i]? = some v → J.go i H ∧ ∀ x H', J.yld i H x H' → ∀ W σ ρ S d, Rep K ca H0 W H σ ρ S → DV K ca W.hf W.ad v d → ∃ W', Fut W H W' H' ∧ Rep K ca H0 W' H' σ ρ S ∧ DV K ca W'.hf W'.ad x (it i d)) ∧ (vs.length ≤ i → J.stop i H)
def tIO (K : PySem.W.Frag) (ca : Ca) (H0 : Bs) (Wx : WX) (it : Nat → D → D) (fo : SE) : TI := fun σ H R => ∃ W ρ S, Rep K ca H0 W H σ ρ S ∧ OutM K ca H0 Wx W ρ σ H (fo ρ S) fun o S' W' H' => ∃ n a l, asObj o = some n ∧ stL S' n = some l ∧ W'.ad n = some a ∧ ∀ J, YlO K ca H0 J a it → R J H'
theorem ylo_l {K : PySem.W.Frag} {a : Addr} : YlO K ca H0 (Itl K a) a itId := fun i H vs h =>
  ⟨fun v e => ⟨⟨vs, v, SqL.of h, e⟩, fun x H' ⟨eH, y⟩ W σ ρ S d R q => by
    subst eH
    have e2 := y vs (SqL.of h)
    rw [e] at e2; cases e2
    exact ⟨W, FutG.refl _ _, R, q⟩⟩, fun hl => ⟨vs, SqL.of h, hl⟩⟩
theorem di_listO {tg e : Expr} {f : SE} (h : DE X ca H0 Wx .frz e f) : PI X tg e (tIO X.K ca H0 Wx itId f) :=
  PI.imp (pi_list h) fun σ H R ⟨W, ρ, S, Rp, o⟩ => ⟨W, ρ, S, Rp, o.imp fun o S' W' H' F R' ⟨n, a, l, e0, e1, ha, k⟩ v q => by
    rw [asObj_eq e0] at q
    obtain ⟨b, rfl, hb⟩ := DV.ofObj q
    rw [ha] at hb; cases hb
    obtain ⟨c, k1, _, vs, k3, _⟩ := R'.s.at_ n _ (stL_eq e1)
    rw [ha] at k1; cases k1
    exact ⟨_, rfl, ⟨vs, SqL.of k3⟩, k _ ylo_l⟩⟩
end
end DL
namespace DL
open PySem PySem.Spec PyProof.Rows L2
@[simp] theorem eFld_e (tb : List Str) (f : Str) (fo : SE) (ρ : Rho) (S : Sto) : eFld tb f fo ρ S = mb (fo ρ) (fun o S => match asObj o with | none => none | some n => match stI S n with | none => none | some z => if tb.contains z.1 = true then mo (z.2.lookup f) S else none) S := rfl
@[simp] theorem bFld_e (tb : List Str) (f : Str) (fo fe : SE) (ρ : Rho) (S : Sto) : bFld tb f fo fe ρ S = sb (fe ρ) ρ (fun d => sb (fo ρ) ρ fun o S => match asObj o with | none => none | some n => match stI S n with | none => none | some z => if tb.contains z.1 = true ∧ z.2.length < 1000 then some (.nx ρ, S.set n (.ins z.1 (putD f d z.2))) else none) S := rfl
@[simp] theorem eMeth_e (c m : Str) (sem : Sem1) (dds : List D) (fo : SE) (fa : SA) (ρ : Rho) (S : Sto) : eMeth c m sem dds fo fa ρ S = mb (fo ρ) (fun o S => match asObj o with | none => none | some n => match stI S n with | none => none | some z => if z.1 = c ∧ z.2.lookup m = none then mb (fa ρ) (fun ds S => sem (o :: ds ++ dds) S) S else none) S := rfl
@[simp] theorem eMake_e (c : Str) (sem : Sem1) (dds : List D) (fa : SA) (ρ : Rho) (S : Sto) : eMake c sem dds fa ρ S = mb (fa ρ) (fun ds S => mkR S.length (sem (.obj S.length :: ds ++ dds) (S ++ [.ins c []]))) S := rfl
@[simp] theorem eAlt_e (f g : SE) (ρ : Rho) (S : Sto) : eAlt f g ρ S = (match f ρ S with | some r => some r | none => g ρ S) := rfl
@[simp] theorem mkR_ok (n : Nat) (S : Sto) : mkR n (some (.ok .non, S)) = some (.ok (.obj n), S) := rfl
@[simp] theorem mkR_err (n : Nat) (x : Xc) (S : Sto) : mkR n (some (.error x, S)) = some (.error x, S) := rfl
@[simp] theorem bForO_e (it : Nat → D → D) (fo : SE) (t : D → Rho → Option Rho) (b : SS) (ρ : Rho) (S : Sto) : bForO it fo t b ρ S = sb (fo ρ) ρ (fun o S => match asObj o with | none => none | some n => foR it n t b ρ S) S := rfl
theorem dref_at {S : Sto} {n : Nat} {l : List D} (h : S[n]? = some (.lst l)) : dref S (.obj n) = .lst l := by
  show (match S[n]? with | some (.lst l) => D.lst l | some (.dK l) => .dK l | some (.dT l) => .dT l | some (.ins c fs) => .ins c fs | none => .obj n) = _
  rw [h]
theorem stL_at {S : Sto} {n : Nat} {l : List D} (h : S[n]? = some (.lst l)) : stL S n = some l := by
  unfold stL; rw [h]
theorem stI_at {S : Sto} {n : Nat} {c : Str} {fs : List (Str × D)} (h : S[n]? = some (.ins c fs)) : stI S n = some (c, fs) := by
  unfold stI; rw [h]
end DL
namespace DL
open PySem PySem.Spec PyProof.Rows L2
section
variable {P : Program} {w : World} {K : PySem.W.Frag} {mg : Str → Option Value} {base : Heap} {ca : Ca} {c m : Str} {a f : Addr} {fd : FuncData} {ps : List Str} {k : Nat} {ms : List Bool} {mr : Md} {sem : Sem1}
theorem metF0 (h1 : Cls K (ca c)) (h2 : Meth K (ca c) m a) (F : FnG P w K mg base k a fd ps (spD K ca ms mr sem)) (hb : Binds K fd ps []) : MetF P w K mg base ca c m k ms mr sem [] :=
  ⟨⟨a, fd, ps, h1, h2, F, fun j _ => ⟨[], [], .nil, hb, by rw [List.drop_nil]; exact .nil⟩⟩, rfl⟩
theorem makF0 (h1 : mg c = some (.ref (ca c))) (h2 : Mk K (ca c) f) (F : FnG P w K mg base k f fd ps (spD K ca ms .frz sem)) (hb : Binds K fd ps []) : MakF P w K mg base ca c k ms sem [] :=
  ⟨⟨f, fd, ps, h1, h2, F, fun j _ => ⟨[], [], .nil, hb, by rw [List.drop_nil]; exact .nil⟩⟩, rfl⟩
end
end DL
namespace DL
open PySem PySem.Spec PyProof.Rows L2
section
variable {X : Cx} {ca : Ca} {H0 : Bs} {Wx : WX}
theorem dt_isN {a : Expr} {fa : SE} {pos : Pos} {j pos'} (ha : DE X ca H0 Wx .bor a fa) : DT X ca H0 Wx (.Compare a [.Is] [.Constant .none j pos'] pos) (sBl (sIsN false fa)) :=
  PT.imp (pt_cmp (pc_isN ha)) fun σ H Q h => by
    obtain ⟨W, ρ, S, R, h⟩ := h
    have h := OutM.bind h
    exact ⟨W, ρ, S, R, (OutM.bind h).imp fun d S1 W1 H1 F1 R1 h1 x D1 => ⟨decide (x = .non), rfl, by
      rw [bor_non D1]
      have h2 : OutM X.K ca H0 Wx W1 ρ σ H1 (mp (isN d) S1) fun b _ _ H' => Q b H' := OutM.re R1 h1
      exact OutM.re R1 h2⟩⟩
end
end DL
namespace DL
open PySem PySem.Spec PyProof.Rows L2
abbrev Cls := List (Value × Option Nat × (Addr → Value → Option Addr → TS))
def dropA (i : Nat) (D : Ends) : Ends := { nx := fun σ' H' => D.nx (σ'.set i none) H', rt := D.rt, bk := fun σ' H' => D.bk (σ'.set i none) H', ct := fun σ' H' => D.ct (σ'.set i none) H' }
def wMix (K : PySem.W.Frag) (Wout : WX) (D : Ends) : Cls → WX
  | [] => Wout
  | (c, none, ts) :: r => fun cls d σ H => ∃ b, PySem.W.exmOne K cls c = some b ∧ (b = true → ∀ a, H a = none → ts a cls d D σ H) ∧ (b = false → wMix K Wout D r cls d σ H)
  | (c, some i, ts) :: r => fun cls d σ H => ∃ b, PySem.W.exmOne K cls c = some b ∧ (b = true → ∀ a, H a = none → ts a cls d (dropA i D) (σ.set i (some (.ref a))) H) ∧ (b = false → wMix K Wout D r cls d σ H)
inductive MixOk (X : Cx) : List ExceptHandler → Cls → Prop
  | nil : MixOk X [] []
  | plain {x : Str} {c : Value} {ts : Addr → Value → Option Addr → TS} {b₀ : Stmt} {suite : List Stmt} {np pos' : Pos} {hds : List ExceptHandler} {l : Cls} (hc : Names X x c)
      (hsu : ∀ (a : Addr) (oe : Obj) (cls : Value) (d : Option Addr) (pn : List (Addr × Obj)), Zc cls d oe → (∃ vs, oe.data = .fields vs) → PSs (X.suite a ((a, oe) :: pn)) (b₀ :: suite) (ts a cls d)) (r : MixOk X hds l) :
      MixOk X (.ExceptHandler (some (.Name x np)) none (b₀ :: suite) pos' :: hds) ((c, none, ts) :: l)
  | named {x n : Str} {i : Nat} {c : Value} {ts : Addr → Value → Option Addr → TS} {b₀ : Stmt} {suite : List Stmt} {np pos' : Pos} {hds : List ExceptHandler} {l : Cls} (hc : Names X x c) (hi : X.N[i]? = some n) (hln : X.env.kindOf n = some .local)
      (hsu : ∀ (a : Addr) (oe : Obj) (cls : Value) (d : Option Addr) (pn : List (Addr × Obj)), Zc cls d oe → (∃ vs, oe.data = .fields vs) → PSs (X.suite a ((a, oe) :: pn)) (b₀ :: suite) (ts a cls d)) (r : MixOk X hds l) :
      MixOk X (.ExceptHandler (some (.Name x np)) (some n) (b₀ :: suite) pos' :: hds) ((c, some i, ts) :: l)
section
variable {X : Cx} {body : List Stmt} {h₀ : ExceptHandler} {hds : List ExceptHandler} {l : Cls} {pos : Pos} {tb : WX → TS} {Wout : WX}
theorem ps_try_mix (hs : X.stack = X.env :: X.outer) (hf : X.env.frame = some X.env.locals) (hN : X.N.Nodup) (tk : Takes X Wout)
    (hb : ∀ (W : WX) (pn : List (Addr × Obj)) (xe : Value → Shared → Prop), Takes (X.tr pn xe) W → PassesOwn (model X.prog X.w) X.A X.env xe → PSs (X.tr pn xe) body (tb W))
    (hh : MixOk X (h₀ :: hds) l) : PS X (.Try body (h₀ :: hds) [] [] pos) (fun D σ H => tb (wMix X.K Wout D l) D σ H) := by
  refine ⟨fun pins s σ H D I h => ?_⟩
  have ok := I.ok
  have hfr : X.A.frames = some (X.env :: X.outer) := by rw [ok.frames, hs]
  refine wpAny_Try_except ?_
  refine wpAny_mono ((hb (wMix X.K Wout D l) (X.pn ++ pins) (fun e s₁ => wpAny (model X.prog X.w) X.A (noteFrame e X.env) (fun _ s₂ => wpAny (model X.prog X.w) X.A (setFlight e none) (fun _ s₃ =>
    wpAny (model X.prog X.w) X.A (handleBy e X.env (h₀ :: hds)) (SP X pins D) X.xe s₃) X.xe s₂) X.xe s₁) (fun u s' xx => ?_) PassesOwn.looking).run [] s σ H D (I.toTry _) h) (fun f s1 hsp => ?_) (fun e s1 he => he)
  · obtain ⟨a, B, sI, pins', σ', H', cls, d, rfl, J', nb, up, sky, na, os, ag, w⟩ := xx
    have J : Inv X pins σ' H' sI := J'.ofTry ok
    have sky' : Sky B (X.env :: X.outer) a (Zc cls d) X.env.locals s'.heap := by rw [← hs]; exact sky
    show wpAny (model X.prog X.w) X.A (noteFrame (.ref a) X.env) _ _ _
    refine Sky.land Zc.steady hfr hf sky' fun h3 fl3 up3 => ?_
    have J3 : Inv X pins σ' H' { s' with heap := h3 } := J.landed nb fl3.1 (up.trans up3) os ag
    obtain ⟨oe3, vs3, he3, hz3, hd3⟩ := fl3.there
    have nfr : a ∉ frs (X.env :: X.outer) := fun hm => by
      obtain ⟨_, o', e', hnf⟩ := fl3.2.2.1.mem hm
      rw [he3] at e'; cases e'
      exact hnf _ hd3
    have nL : a ≠ X.env.locals := fun z => nfr (List.mem_filterMap.mpr ⟨X.env, List.mem_cons_self, by rw [hf, z]⟩)
    have nF : a ∉ X.fs := fun hm => by
      obtain ⟨e, he, q⟩ := List.mem_filterMap.mp hm
      exact nfr (List.mem_filterMap.mpr ⟨e, List.mem_cons_of_mem _ he, q⟩)
    have S3 := J3.suite he3 hd3 na nL nF
    have LT : PySem.W.Looks (model X.prog X.w) h3 (typeOf (.ref a)) cls := fun A Q E s k q => wpAny_typeOf_ref (k _ _ he3) (by rw [hz3.1]; exact q)
    have test : ∀ {x : Str} {c : Value} {np : Pos} {Q : Value → Shared → Prop} {E : Value → Shared → Prop}, Names X x c → Q c { s' with heap := h3 } → wpAny (model X.prog X.w) (X.A.mark (some (.ref a))) (eval (.Name x np) X.env) Q E { s' with heap := h3 } := fun {x c np Q E} hc q => by
      obtain ⟨hg, hdbg, hm | ⟨hm, hv, hnn⟩⟩ := hc
      · exact ld_glob (X := X.suite a ((a, oe3) :: (X.pn ++ pins))) S3 hg hm q hdbg
      · exact ld_blt (X := X.suite a ((a, oe3) :: (X.pn ++ pins))) S3 hg hm hv q hnn hdbg
    have go : ∀ {hds' : List ExceptHandler} {l' : Cls}, MixOk X hds' l' → wMix X.K Wout D l' cls d σ' H' →
        wpAny (model X.prog X.w) X.A (handleBy (.ref a) X.env hds') (SP X pins D) X.xe { s' with heap := h3 } := by
      intro hds' l' hk
      induction hk with
      | nil =>
        intro w
        refine wpAny_handleBy_nil ?_
        obtain ⟨k1, k2, k3, oe, vs, T, oT, ts', he, hz, hd, h1, hr⟩ := id fl3
        unfold PySem.passOn
        refine wpAny_bind (wpAny_field he hd h1 ?_)
        rw [if_neg (show ¬ ((Value.ref T == Value.none) = true) from by simp)]
        have fin : wpAny (model X.prog X.w) X.A (setFlight (.ref a) X.env.frame) (fun _ s4 => wpAny (model X.prog X.w) X.A (throw (.ref a) : Sem Flow) (SP X pins D) X.xe s4) X.xe { s' with heap := h3 } := by
          rw [hf]
          refine HandSPX.setFlight_upZ fl3 fun h4 hh4 up4 => wpAny_throw (tk _ _ ?_)
          exact ⟨a, B, sI, pins, σ', H', cls, d, rfl, J, nb, (up.trans up3).trans up4, .inr (.inr (by rw [hs]; exact hh4)), na, os, ag, w⟩
        first
          | exact wpAny_bind (wpAny_pure (wpAny_bind fin))
          | exact wpAny_bind fin
      | @plain x c ts b₀ suite np pos' hds2 l2 hc hsu r ih =>
        intro w
        obtain ⟨b, hb1, hyes, hno⟩ := w
        refine wpAny_handleBy_cons (codeAny_handlers_test ?_) (by intro q; cases q)
        refine test hc ((PySem.W.exm_one (M := model X.prog X.w) (J3.kIn) LT hb1).here ?_)
        cases b with
        | true =>
          refine codeAny_handlers_suite ?_
          refine HandSPX.lands_againZ fl3 fun h4 fl4 up4 => ?_
          have J4 : Inv X pins σ' H' { s' with heap := h4 } := J.landed nb fl4.1 ((up.trans up3).trans up4) os ag
          obtain ⟨oe4, vs4, he4, hz4, hd4⟩ := fl4.there
          refine wpAny_mono ((hsu a oe4 cls d (X.pn ++ pins) hz4 ⟨_, hd4⟩).run [] _ _ H' _ (J4.suite he4 hd4 na nL nF) (hyes rfl a na)) (fun f s6 hsp => ?_) (fun _ _ z => False.elim z)
          cases f <;> first
            | (obtain ⟨σ6, H6, S6, q6⟩ := hsp; exact ⟨_, _, S6.unsuite ok, q6⟩)
            | (obtain ⟨v6, σ6, H6, S6, r6, q6⟩ := hsp; exact ⟨_, _, _, S6.unsuite ok, r6, q6⟩)
        | false => exact ih (hno rfl)
      | @named x n i c ts b₀ suite np pos' hds2 l2 hc hi hln hsu r ih =>
        intro w
        have hloc : Loc X.env.scope n := .inl hln
        obtain ⟨b, hb1, hyes, hno⟩ := w
        refine wpAny_handleBy_cons (codeAny_handlers_test ?_) (by intro q; cases q)
        refine test hc ((PySem.W.exm_one (M := model X.prog X.w) (J3.kIn) LT hb1).here ?_)
        cases b with
        | true =>
          refine codeAny_handlers_suite_as ?_
          refine HandSPX.lands_againZ fl3 fun h4 fl4 up4 => ?_
          have J4 : Inv X pins σ' H' { s' with heap := h4 } := J.landed nb fl4.1 ((up.trans up3).trans up4) os ag
          obtain ⟨oe4, vs4, he4, hz4, hd4⟩ := fl4.there
          refine store_ok (X := X.suite a ((a, oe4) :: (X.pn ++ pins))) (v := .ref a) (J4.suite he4 hd4 na nL nF) hN hi hloc rfl (fun s5 S5 => ?_) (.inr hln)
          refine wpAny_mono ((hsu a oe4 cls d (X.pn ++ pins) hz4 ⟨_, hd4⟩).run [] s5 _ H' _ S5 (hyes rfl a na)) (fun f s6 hsp => ?_) (fun _ _ z => False.elim z)
          have end_ : ∀ {σ6 : L2.St} {H6 : Hp} {Q : Shared → Prop}, Inv (X.suite a ((a, oe4) :: (X.pn ++ pins))) [] σ6 H6 s6 → (∀ s7, Inv X pins (σ6.set i none) H6 s7 → Q s7) →
              wpAny (model X.prog X.w) X.A (do bindName X.env n .none; unbindBehindTheSuite X.env n pos') (fun _ s7 => Q s7) X.xe s6 := fun {σ6 H6 Q} S6 hq => gone_ok (S6.unsuite ok) hN hi hln hq
          cases f <;> first
            | (obtain ⟨σ6, H6, S6, q6⟩ := hsp; exact end_ S6 fun s7 J7 => ⟨_, _, J7, q6⟩)
            | (obtain ⟨v6, σ6, H6, S6, r6, q6⟩ := hsp; exact end_ S6 fun s7 J7 => ⟨_, _, _, J7, r6, q6⟩)
        | false => exact ih (hno rfl)
    exact go hh w
  · cases f with
    | next =>
      obtain ⟨σ', H', J', q⟩ := hsp
      exact wpAny_execs_nil ⟨σ', H', J'.ofTry ok, q⟩
    | brk =>
      obtain ⟨σ', H', J', q⟩ := hsp
      exact ⟨σ', H', J'.ofTry ok, q⟩
    | cont =>
      obtain ⟨σ', H', J', q⟩ := hsp
      exact ⟨σ', H', J'.ofTry ok, q⟩
    | ret u =>
      obtain ⟨v, σ', H', J', r, q⟩ := hsp
      exact ⟨v, σ', H', J'.ofTry ok, r, q⟩
end
abbrev Cl := (Str → Option Bool) × Option Nat × SS
def trM : List Cl → Xc → Rho → Sto → Option (SOut × Sto)
  | [], x, ρ, S => some (.exc ρ x, S)
  | (mx, none, fs) :: r, x, ρ, S => match mx x.c with
    | none => none
    | some false => trM r x ρ S
    | some true => match fs ρ S with
      | some (.exc _ _, _) => none
      | z => z
  | (mx, some i, fs) :: r, x, ρ, S => match mx x.c with
    | none => none
    | some false => trM r x ρ S
    | some true => suA i (fs (ρ.set i (.ex x)) S)
def bTryM (l : List Cl) (fb : SS) : SS := fun ρ S => match fb ρ S with
  | some (.exc ρ' x, S') => trM l x ρ' S'
  | r => r
inductive MxD (X : Cx) (ca : Ca) (H0 : Bs) (mr : Md) : List ExceptHandler → Cls → List Cl → Prop
  | nil : MxD X ca H0 mr [] [] []
  | plain {x : Str} {c : Value} {mx : Str → Option Bool} {b₀ : Stmt} {suite : List Stmt} {np pos' : Pos} {fs : SS} {hds : List ExceptHandler} {l : Cls} {cl : List Cl} (hc : Names X x c) (hmx : ∀ d b, mx d = some b → PySem.W.exmOne X.K (.ref (ca d)) c = some b)
      (hsu : ∀ (a : Addr) (oe : Obj) (cls : Value) (d : Option Addr) (pn : List (Addr × Obj)), Zc cls d oe → (∃ vs, oe.data = .fields vs) → DSs (X.suite a ((a, oe) :: pn)) ca H0 (fun _ _ _ _ => False) mr (b₀ :: suite) fs)
      (r : MxD X ca H0 mr hds l cl) : MxD X ca H0 mr (.ExceptHandler (some (.Name x np)) none (b₀ :: suite) pos' :: hds) ((c, none, fun a cls d => tS X.K ca H0 (fun _ _ _ _ => False) mr fs) :: l) ((mx, none, fs) :: cl)
  | named {x n : Str} {i : Nat} {c : Value} {mx : Str → Option Bool} {b₀ : Stmt} {suite : List Stmt} {np pos' : Pos} {fs : SS} {hds : List ExceptHandler} {l : Cls} {cl : List Cl} (hi : X.N[i]? = some n) (hln : X.env.kindOf n = some .local) (hc : Names X x c) (hmx : ∀ d b, mx d = some b → PySem.W.exmOne X.K (.ref (ca d)) c = some b)
      (hsu : ∀ (a : Addr) (oe : Obj) (cls : Value) (d : Option Addr) (pn : List (Addr × Obj)), Zc cls d oe → (∃ vs, oe.data = .fields vs) → DSs (X.suite a ((a, oe) :: pn)) ca ⟨H0.h, some (a, cls, d)⟩ (fun _ _ _ _ => False) mr (b₀ :: suite) fs)
      (r : MxD X ca H0 mr hds l cl) : MxD X ca H0 mr (.ExceptHandler (some (.Name x np)) (some n) (b₀ :: suite) pos' :: hds) ((c, some i, fun a cls d => tS X.K ca ⟨H0.h, some (a, cls, d)⟩ (fun _ _ _ _ => False) mr fs) :: l) ((mx, some i, fs) :: cl)
theorem MxD.ok {X : Cx} {ca : Ca} {H0 : Bs} {mr : Md} {hds : List ExceptHandler} {l : Cls} {cl : List Cl} (h : MxD X ca H0 mr hds l cl) : MixOk X hds l := by
  induction h with
  | nil => exact .nil
  | plain hc hmx hsu r ih => exact .plain hc hsu ih
  | named hi hln hc hmx hsu r ih => exact .named hc hi hln hsu ih
theorem MxD.mix {X : Cx} {ca : Ca} {H0 : Bs} {Wx : WX} {mr : Md} {hds : List ExceptHandler} {l : Cls} {cl : List Cl} (hH : H0.ex = none) (h : MxD X ca H0 mr hds l cl) {W : Wd} {H : Hp} {D : Ends} {x : Xc} {ρ' : Rho} {S' : Sto}
    (o : OutS X.K ca H0 Wx mr W H D (trM cl x ρ' S')) : OutS X.K ca H0 (wMix X.K Wx D l) mr W H D (some (.exc ρ' x, S')) := by
  induction h with
  | nil => exact o
  | @plain y c mx b₀ suite np pos' fs hds l cl hc hmx hsu r ih =>
    unfold trM at o
    refine fun W' H' σ' cls od F R' xv => ?_
    cases e1 : mx x.c with
    | none => simp only [e1] at o; exact False.elim o
    | some b =>
      have eb := hmx _ _ e1
      refine ⟨b, by rw [xv.1]; exact eb, fun hb a ha => ?_, fun hb => ?_⟩
      · subst hb
        simp only [e1] at o
        refine ⟨W', ρ', S', R', ?_⟩
        match e2 : fs ρ' S' with
        | none => simp only [e2] at o; exact False.elim o
        | some (.nx ρ2, S2) => simp only [e2] at o; exact fun W2 H2 σ2 F2 R2 => o W2 H2 σ2 (F.trans F2) R2
        | some (.brk ρ2, S2) => simp only [e2] at o; exact fun W2 H2 σ2 F2 R2 => o W2 H2 σ2 (F.trans F2) R2
        | some (.cnt ρ2, S2) => simp only [e2] at o; exact fun W2 H2 σ2 F2 R2 => o W2 H2 σ2 (F.trans F2) R2
        | some (.ret d, S2) => simp only [e2] at o; exact fun W2 H2 v F2 w s q => o W2 H2 v (F.trans F2) w s q
        | some (.exc ρ2 z, S2) => simp only [e2] at o; exact False.elim o
      · subst hb
        simp only [e1] at o
        exact ih o W' H' σ' cls od F R' xv
  | @named y n i c mx b₀ suite np pos' fs hds l cl hi hln hc hmx hsu r ih =>
    unfold trM at o
    refine fun W' H' σ' cls od F R' xv => ?_
    cases e1 : mx x.c with
    | none => simp only [e1] at o; exact False.elim o
    | some b =>
      have eb := hmx _ _ e1
      refine ⟨b, by rw [xv.1]; exact eb, fun hb a ha => ?_, fun hb => ?_⟩
      · subst hb
        simp only [e1] at o
        refine ⟨W', ρ'.set i (.ex x), S', (R'.toEx (e := some (a, cls, od)) hH).setO ⟨a, od, cls, rfl, rfl, xv⟩, ?_⟩
        have cl : ∀ {k : Rho → SOut} {P : L2.St → Hp → Prop} {ρ2 : Rho} {S2 : Sto}, OutS X.K ca H0 Wx mr W H D (clr i ρ2 S2 k) →
            (∀ ρ3, OutS X.K ca H0 Wx mr W H D (some (k ρ3, S2)) → ∀ W2 H2 σ2, FutS H0 W H W2 H2 → Rep X.K ca H0 W2 H2 σ2 ρ3 S2 → P σ2 H2) →
            ∀ W2 H2 σ2, FutS H0 W' H' W2 H2 → Rep X.K ca ⟨H0.h, some (a, cls, od)⟩ W2 H2 σ2 ρ2 S2 → P (σ2.set i none) H2 := fun {k P ρ2 S2} h g W2 H2 σ2 F2 R2 => by
          unfold clr at h
          by_cases hz : (ρ2.set i .no).all notEx = true
          · rw [if_pos hz] at h
            exact g _ h W2 H2 _ (F.trans F2) (Rep.ofEx (R2.setO (v := none) (x := .no) trivial) hz)
          · rw [if_neg hz] at h; exact False.elim h
        match e2 : fs (ρ'.set i (.ex x)) S' with
        | none => simp only [e2, suA] at o; exact False.elim o
        | some (.nx ρ2, S2) => simp only [e2, suA] at o; exact cl o fun ρ3 h => h
        | some (.brk ρ2, S2) => simp only [e2, suA] at o; exact cl o fun ρ3 h => h
        | some (.cnt ρ2, S2) => simp only [e2, suA] at o; exact cl o fun ρ3 h => h
        | some (.ret d, S2) => simp only [e2, suA] at o; exact fun W2 H2 v F2 w s q => o W2 H2 v (F.trans F2) w s q
        | some (.exc ρ2 z, S2) => simp only [e2, suA] at o; exact False.elim o
      · subst hb
        simp only [e1] at o
        exact ih o W' H' σ' cls od F R' xv
section
variable {X : Cx} {ca : Ca} {H0 : Bs} {Wx : WX} {mr : Md}
theorem ds_tryM {body : List Stmt} {h₀ : ExceptHandler} {hds : List ExceptHandler} {l : Cls} {cl : List Cl} {pos : Pos} {fb : SS} (hN : X.N.Nodup) (tk : Takes X Wx)
    (hb : ∀ (W : WX) (pn : List (Addr × Obj)) (xe : Value → Shared → Prop), Takes (X.tr pn xe) W → PassesOwn (model X.prog X.w) X.A X.env xe → DSs (X.tr pn xe) ca H0 W mr body fb) (hM : MxD X ca H0 mr (h₀ :: hds) l cl)
    (hH : H0.ex = none := by rfl) (hs : X.stack = X.env :: X.outer := by rfl) (hf : X.env.frame = some X.env.locals := by rfl) : DS X ca H0 Wx mr (.Try body (h₀ :: hds) [] [] pos) (bTryM cl fb) := by
  refine PS.imp (ps_try_mix (tb := fun W => tS X.K ca H0 W mr fb) hs hf hN tk hb hM.ok) fun D σ H ⟨W, ρ, S, R, o⟩ => ⟨W, ρ, S, R, ?_⟩
  unfold bTryM at o
  match e : fb ρ S with
  | none => simp only [e] at o; exact o
  | some (.nx ρ', S') => simp only [e] at o; exact o
  | some (.brk ρ', S') => simp only [e] at o; exact o
  | some (.cnt ρ', S') => simp only [e] at o; exact o
  | some (.ret d, S') => simp only [e] at o; exact o
  | some (.exc ρ' x, S') =>
    simp only [e] at o
    exact hM.mix hH o
theorem mx_plain {x : Str} {tb : List (Str × Bool)} {b₀ : Stmt} {suite : List Stmt} {np pos' : Pos} {fs : SS} {hds : List ExceptHandler} {cl : List Cl} (T : TrF X.K X.mg ca x tb)
    (hsu : ∀ (a : Addr) (oe : Obj) (cls : Value) (d : Option Addr) (pn : List (Addr × Obj)), Zc cls d oe → (∃ vs, oe.data = .fields vs) → DSs (X.suite a ((a, oe) :: pn)) ca H0 (fun _ _ _ _ => False) mr (b₀ :: suite) fs)
    (r : ∃ l, MxD X ca H0 mr hds l cl) (hg : Gl X x := by rfl) (hd : (x == ("__debug__" : Str)) = false := by decide) : ∃ l, MxD X ca H0 mr (.ExceptHandler (some (.Name x np)) none (b₀ :: suite) pos' :: hds) l ((fun c => tb.lookup c, none, fs) :: cl) := by
  obtain ⟨C, h1, h2⟩ := T
  obtain ⟨l, r⟩ := r
  exact ⟨_, .plain ⟨hg, hd, .inl h1⟩ (fun d b e => h2 _ (mem_of_lookup e)) hsu r⟩
theorem mx_nil : ∃ l, MxD X ca H0 mr [] l [] := ⟨_, .nil⟩
theorem ds_tryMF {body : List Stmt} {h₀ : ExceptHandler} {hds : List ExceptHandler} {cl : List Cl} {pos : Pos} {fb : SS} (hN : X.N.Nodup) (tk : Takes X Wx)
    (hb : ∀ (W : WX) (pn : List (Addr × Obj)) (xe : Value → Shared → Prop), Takes (X.tr pn xe) W → PassesOwn (model X.prog X.w) X.A X.env xe → DSs (X.tr pn xe) ca H0 W mr body fb) (hM : ∃ l, MxD X ca H0 mr (h₀ :: hds) l cl)
    (hH : H0.ex = none := by rfl) (hs : X.stack = X.env :: X.outer := by rfl) (hf : X.env.frame = some X.env.locals := by rfl) : DS X ca H0 Wx mr (.Try body (h₀ :: hds) [] [] pos) (bTryM cl fb) := by
  obtain ⟨l, hM⟩ := hM
  exact ds_tryM hN tk hb hM hH hs hf
end
@[simp] theorem bTryM_e (l : List Cl) (fb : SS) (ρ : Rho) (S : Sto) : bTryM l fb ρ S = (match fb ρ S with | some (.exc ρ1 x, S1) => trM l x ρ1 S1 | z => z) := rfl
@[simp] theorem trM_n (x : Xc) (ρ : Rho) (S : Sto) : trM [] x ρ S = some (.exc ρ x, S) := rfl
@[simp] theorem trM_p (mx : Str → Option Bool) (fs : SS) (r : List Cl) (x : Xc) (ρ : Rho) (S : Sto) : trM ((mx, none, fs) :: r) x ρ S = (match mx x.c with | none => none | some false => trM r x ρ S | some true => match fs ρ S with | some (.exc _ _, _) => none | z => z) := rfl
@[simp] theorem trM_a (mx : Str → Option Bool) (i : Nat) (fs : SS) (r : List Cl) (x : Xc) (ρ : Rho) (S : Sto) : trM ((mx, some i, fs) :: r) x ρ S = (match mx x.c with | none => none | some false => trM r x ρ S | some true => suA i (fs (ρ.set i (.ex x)) S)) := rfl
end DL
namespace PySem.W
open PySem PySem.Calls PyProof.Rows
def KeyPairs (ds : List PyData) : Prop := ∀ d, d ∈ ds → ∃ r x, d = .tuple [.int r, x] ∧ (∀ t, x ≠ .tuple t) ∧ x ≠ .none ∧ ∀ x', PyData.tuple [.int r, x'] ∈ ds → alike x x' = true
section
variable {prog : Program} {w : World} {A : Around} {s : Shared}
end
end PySem.W
namespace DL
open PySem PySem.Spec PyProof.Rows L2
def sIdxN : List Str → Str → Option Nat
  | [], _ => none
  | y :: r, z => if y = z then some 0 else (sIdxN r z).map (· + 1)
theorem sIdxN_at : ∀ {ys : List Str} {z : Str} {j : Nat}, sIdxN ys z = some j → ys[j]? = some z ∧ ∀ m, m < j → ys[m]? ≠ some z
  | [], _, _, e => by cases e
  | y :: r, z, j, e => by
    unfold sIdxN at e
    by_cases h : y = z
    · rw [if_pos h] at e
      cases e
      exact ⟨by rw [h]; rfl, fun m hm => absurd hm (Nat.not_lt_zero m)⟩
    · rw [if_neg h] at e
      obtain ⟨k, h1, h2⟩ := Option.map_eq_some_iff.mp e
      subst h2
      obtain ⟨h3, h4⟩ := sIdxN_at h1
      refine ⟨by simpa using h3, fun m hm => ?_⟩
      cases m with
      | zero => simpa using h
      | succ m => simpa using h4 m (by omega)
def oIdx (d : D) (y : D) : Option D := match d, y with
  | .lst l, .str z => match dStrs l with
    | some ys => (sIdxN ys z).map fun j => .int (j : Nat)
    | none => none
  | _, _ => none
def sLix (fo : SE) (fa : SA) : SE := fun ρ => mb (fo ρ) fun x S => match dref S x with
  | .lst _ => mb (fa ρ) (fun ds S => match ds with
    | [y] => mo (oIdx (dref S x) (dref S y)) S
    | _ => none) S
  | _ => none
section
variable {X : Cx} {ca : Ca} {H0 : Bs} {Wx : WX} {m : Md}
def TupS (K : PySem.W.Frag) (mg : Str → Option Value) (x : Str) (l : List Str) : Prop :=
  ∃ (p : Addr) (o : Obj), mg x = some (.ref p) ∧ K.lookup p = some o ∧ o.cls = .type "tuple" ∧ o.dict = none ∧ SqT K (fun _ => none) p (l.map V.str)
theorem mkTupS {K : PySem.W.Frag} {mg : Str → Option Value} {x : Str} {l : List Str} {A : Addr} {its : List Value} {n : Nat} {sl : Array (Option Value)} (hm : mg x = some (.ref A)) (hl : K.lookup A = some ⟨.type "tuple", none, .seq its.toArray n, sl⟩) (hs : its.length ≤ sizeLine) (hv : Vals (l.map V.str) its) : TupS K mg x l :=
  ⟨A, _, hm, hl, rfl, rfl, .inr ⟨_, its.toArray, n, hl, rfl, rfl, by rw [List.size_toArray]; exact hs, by simpa using hv⟩⟩
def sTix (l : List Str) (fa : SA) : SE := fun ρ => mb (fa ρ) fun ds S => match ds with
  | [y] => mo (oIdx (.lst (l.map D.str)) (dref S y)) S
  | _ => none
theorem sqt_up {K : PySem.W.Frag} {H : Hp} {p : Addr} {xs : List V} (h : SqT K (fun _ => none) p xs) : SqT K H p xs := by
  rcases h with h | h
  · rcases h with h | ⟨_, h⟩ <;> cases h
  · exact .inr h
theorem de_tix {x : Str} {l : List Str} {b : Expr} {np apos cpos : Pos} {fa : SA} (T : TupS X.K X.mg x l) (hb : DA X ca H0 Wx .bor [b] fa) (hg : Gl X x := by rfl) (hd : (x == ("__debug__" : Str)) = false := by decide)
    (hbase : attributeBase (.Name x np) "index" X.env (eval (.Name x np) X.env) = eval (.Name x np) X.env := by rfl)
    (hfew : ((backTo cpos (starEach [b] X.env)).all (fun x => !x.1) && (backToKw cpos (keywordEach [] X.env)).all (fun x => x.1.isSome)
      && decide ([b].length + ([] : List Keyword).length + (if ([] : List Keyword).isEmpty then 0 else 1) < 30)) = true := by rfl)
    (hline : (apos.endLine == cpos.line) = true := by rfl) (hs : starEach [b] X.env = (false, eval b X.env) :: starEach [] X.env := by rfl) (hplain : (backTo cpos (starEach [] X.env)).any (·.1) = false := by rfl) :
    DE X ca H0 Wx m (.Call (.Attribute (.Name x np) "index" apos) [b] [] cpos) (sTix l fa) := by
  obtain ⟨p, o, hm, hk, hc, hdd, hq⟩ := T
  refine PE.imp (pe_bm PySem.F.plainAttrs_tuple PySem.F.slot_tuple_index PySem.F.type_tuple_index mt_tup_index (pe_glob (x := x) (v := .ref p) hg hm rfl hd) hb hbase hfew hline hs hplain) fun σ H Q ⟨W, ρ, S, R, o'⟩ => ?_
  refine ⟨.inr (.inl ⟨rfl, o, hk, hc, hdd⟩), W, ρ, S, R, (OutM.bind o').imp fun ds S2 W2 H2 F2 R2 h2 us q => ?_⟩
  have cy := DRs.view R2.w R2.s q
  match ds, h2, cy with
  | [], h2, _ => exact False.elim h2
  | _ :: _ :: _, h2, _ => exact False.elim h2
  | [y], h2, cy =>
    have h2 : OutM X.K ca H0 Wx W2 ρ σ H2 (mo (oIdx (.lst (l.map D.str)) (dref S2 y)) S2) _ := h2
    obtain ⟨v, rfl, cv⟩ := CVs.one cy
    cases e3 : dref S2 y with
    | str z =>
      rw [e3] at h2 cv
      cases e6 : sIdxN l z with
      | none => simp only [oIdx, dStrs_map, e6] at h2; exact False.elim h2
      | some j =>
        simp only [oIdx, dStrs_map, e6] at h2
        obtain ⟨g1, g2⟩ := sIdxN_at e6
        obtain rfl := DV.ofStr cv
        have fin : FinR X.K ca H0 m W2 H2 S2 (.int (j : Nat)) Q := fun W' H' v F k r => h2 W' H' F (k _ _ R2) v (DR.older F2.dom r)
        exact ⟨p, l, z, j, rfl, rfl, sqt_up hq, g1, g2, fin.scal rfl (.int _)⟩
    | _ => rw [e3] at h2; exact False.elim h2
end
@[simp] theorem sLix_e (fo : SE) (fa : SA) (ρ : Rho) (S : Sto) : sLix fo fa ρ S = mb (fo ρ) (fun x S => match dref S x with
  | .lst _ => mb (fa ρ) (fun ds S => match ds with
    | [y] => mo (oIdx (dref S x) (dref S y)) S
    | _ => none) S
  | _ => none) S := rfl
@[simp] theorem sTix_e (l : List Str) (fa : SA) (ρ : Rho) (S : Sto) : sTix l fa ρ S = mb (fa ρ) (fun ds S => match ds with
  | [y] => mo (oIdx (.lst (l.map D.str)) (dref S y)) S
  | _ => none) S := rfl
end DL
namespace DL
open PySem PySem.Spec PyProof.Rows L2
def strLe (a b : Str) : Bool := !ltCps b.cps.toList a.cps.toList
def oSortS : List D → Option D
  | [.lst l] => match dStrs l with
    | some xs => if xs.length < 64 then some (.lst ((xs.mergeSort strLe).map D.str)) else none
    | none => none
  | _ => none
section
variable {X : Cx} {ca : Ca} {H0 : Bs} {m : Md}
end
end DL
namespace PySem.W
open PySem PySem.Calls PyProof.Rows
section
variable {prog : Program} {w : World} {A : Around} {E : Value → Shared → Prop} {s : Shared} {a kS : Addr} {b : Bool} {vs : List Value} {e1 : Nat} {P : PySem.Fin → Shared → Prop}
end
end PySem.W
namespace DL
open PySem PySem.Spec PyProof.Rows L2
theorem each_reads {h : Heap} : ∀ {vs : List Value} {ds : List PyData} {as : List Addr}, ReadsAll h vs ds as → PySem.W.EachIs (fun v d => ∃ as, Reads h v d as) vs ds
  | _, [], _, r => by cases r; exact .nil
  | _, d :: ds, _, r => by
    cases r with
    | cons h1 h2 => exact .cons ⟨_, h1⟩ (each_reads h2)
theorem vals_fst : ∀ {vs : List Value} {l : List (V × PyData)}, PySem.W.EachIs (fun (v : Value) (b : V × PyData) => RelV b.1 v) vs l → Vals (l.map (·.1)) vs
  | _, _, .nil => .nil
  | _, _, .cons h t => .cons h (vals_fst t)
def sortK (xs : List V) (ds : List PyData) : List V := ((xs.zip ds).mergeSort (PySem.W.dataLe false fun b => b.2)).map (·.1)
section
variable {X : Cx} {pins : List (Addr × Obj)} {σ : L2.St} {H : Hp} {s : Shared}
end
end DL
namespace DL
open PySem PySem.Spec PyProof.Rows L2
open Classical in
noncomputable def keyD (sem : Sem1) (S : Sto) (d : D) : Option D := match sem [d] S with
  | some (.ok k, S') => if S' = S then some k else none
  | _ => none
noncomputable def keysD (sem : Sem1) (S : Sto) : List D → Option (List D)
  | [] => some []
  | d :: r => match keyD sem S d with
    | none => none
    | some k => (keysD sem S r).map (k :: ·)
def sortD (l ks : List D) : List D := ((l.zip ks).mergeSort (PySem.W.dataLe false fun b => py b.2)).map (·.1)
open Classical in
noncomputable def oSortK (l ks : List D) : Option D := if pyOks ks = true ∧ PySem.W.KeyPairs (pys ks) ∧ (∀ d, d ∈ pys ks → d.depth ≤ 8) then some (.lst (sortD l ks)) else none
noncomputable def sSortK (sem : Sem1) (fe : SE) : SE := fun ρ => mb (fe ρ) fun x S => match dref S x with
  | .lst l => match keysD sem S l with
    | none => none
    | some ks => mo (oSortK l ks) S
  | _ => none
theorem pys_map : ∀ l : List D, pys l = l.map py
  | [] => rfl
  | d :: r => by rw [List.map_cons, ← pys_map r]; rfl
theorem dvs_trip {K : PySem.W.Frag} {ca : Ca} {h : Hp} {ad : Nat → Option Addr} : ∀ {xs : List V} {l ks : List D}, DVs K ca h ad xs l → l.length = ks.length →
    ∃ L : List ((V × D) × D), L.map (fun t => (t.1.1, py t.2)) = xs.zip (pys ks) ∧ L.map (fun t => (t.1.2, t.2)) = l.zip ks ∧ ∀ t ∈ L, DV K ca h ad t.1.1 t.1.2
  | _, _, [], .nil, _ => ⟨[], rfl, rfl, by simp⟩
  | _, _, k :: ks, .cons (v := v) (d := d) q r, hl => by
    obtain ⟨L, h1, h2, h3⟩ := dvs_trip (ks := ks) r (by simpa using hl)
    refine ⟨((v, d), k) :: L, ?_, by simp [h2], fun t ht => ?_⟩
    · rw [List.map_cons, h1]; rfl
    · rcases List.mem_cons.mp ht with rfl | ht
      · exact q
      · exact h3 t ht
theorem dvs_map {K : PySem.W.Frag} {ca : Ca} {h : Hp} {ad : Nat → Option Addr} : ∀ {L : List ((V × D) × D)}, (∀ t ∈ L, DV K ca h ad t.1.1 t.1.2) → DVs K ca h ad (L.map fun t => t.1.1) (L.map fun t => t.1.2)
  | [], _ => .nil
  | t :: L, h => .cons (h t List.mem_cons_self) (dvs_map fun u hu => h u (List.mem_cons_of_mem _ hu))
theorem sort_dvs {K : PySem.W.Frag} {ca : Ca} {h : Hp} {ad : Nat → Option Addr} {xs : List V} {l ks : List D} (q : DVs K ca h ad xs l) (hl : l.length = ks.length) : DVs K ca h ad (sortK xs (pys ks)) (sortD l ks) := by
  obtain ⟨L, h1, h2, h3⟩ := dvs_trip q hl
  unfold sortK sortD
  rw [← h1, ← h2]
  have e1 := List.map_mergeSort (f := fun t : (V × D) × D => (t.1.1, py t.2)) (r := PySem.W.dataLe false fun t : (V × D) × D => py t.2) (s := PySem.W.dataLe false fun b : V × PyData => b.2) (l := L) (fun a _ b _ => rfl)
  have e2 := List.map_mergeSort (f := fun t : (V × D) × D => (t.1.2, t.2)) (r := PySem.W.dataLe false fun t : (V × D) × D => py t.2) (s := PySem.W.dataLe false fun b : D × D => py b.2) (l := L) (fun a _ b _ => rfl)
  rw [← e1, ← e2, List.map_map, List.map_map]
  exact dvs_map fun t ht => h3 t ((List.mergeSort_perm L _).mem_iff.mp ht)
end DL
namespace DL
open PySem PySem.Spec PyProof.Rows L2
section
variable {X : Cx} {ca : Ca} {H0 : Bs} {Wx : WX} {m : Md}
end
@[simp] theorem sSortK_e (sem : Sem1) (fe : SE) (ρ : Rho) (S : Sto) : sSortK sem fe ρ S = mb (fe ρ) (fun x S => match dref S x with
  | .lst l => match keysD sem S l with
    | none => none
    | some ks => mo (oSortK l ks) S
  | _ => none) S := rfl
end DL
namespace DL
open PySem PySem.Spec PyProof.Rows L2
section
variable {X : Cx} {ca : Ca} {H0 : Bs} {m : Md}
theorem call_reprD (hg : X.A.guards = some []) (hu : X.A.units + 66 < cLine) : CallR X (.builtin "repr") (fun xs H Q => ∃ y d, xs = [y] ∧ Dp X.K H y d ∧ SeqAt.shaped d = true ∧ d.showable = true ∧ d.shown.length ≤ sizeLine ∧ Q (.str d.shown) H) := by
  intro pins s σ H xs us Q I r h
  obtain ⟨y, d, rfl, dp, hs, hw, hz, q⟩ := h
  obtain ⟨u, rfl, ru⟩ := vals1 r
  obtain ⟨as, rd⟩ := Dp.reads I d y u dp ru
  have hs' := hs
  unfold SeqAt.shaped at hs'
  rw [Bool.and_eq_true] at hs'
  have hd : d.depth ≤ 64 := of_decide_eq_true hs'.2
  have nd : d.hasDict = false := PyData.hasDict_of_canLay d hs'.1
  cases rd with
  | none => exact PySem.P.repr_of_none ⟨.str _, H, I.tok _, ⟨_, rfl⟩, q⟩
  | bool b => exact PySem.P.repr_of_bool ⟨.str _, H, I.tok _, ⟨_, rfl⟩, (by cases b <;> exact q)⟩
  | int i t => exact PySem.P.repr_of_int (by simpa [PyData.showable] using hw) ⟨.str _, H, I.tok _, ⟨_, rfl⟩, q⟩
  | str x t => exact PySem.P.repr_of_str ⟨.str _, H, I.tok _, ⟨_, rfl⟩, q⟩ hz
  | list h1 h2 h3 h4 =>
    exact repr_of_reads' (.list h1 h2 h3 h4) hw (PyData.noDict_hsm nd) hg (by omega) (fun _ _ e => e) (fun h' w tk k => ⟨.str _, H, I.kept k, ⟨_, rfl⟩, q⟩) hz
  | tuple h1 h2 h3 h4 =>
    exact repr_of_reads' (.tuple h1 h2 h3 h4) hw (PyData.noDict_hsm nd) hg (by omega) (fun _ _ e => e) (fun h' w tk k => ⟨.str _, H, I.kept k, ⟨_, rfl⟩, q⟩) hz
  | dict h1 h2 h3 h4 h5 => cases hs'.1
noncomputable def shOk (d : D) : Bool := eqOk d && ((py d).showable && cdec ((py d).shown.length ≤ sizeLine))
noncomputable def oReprD : List D → Option D
  | [.bl b] => some (.str (if b then "True" else "False"))
  | [d] => if shOk d = true then some (.str (py d).shown) else none
  | _ => none
end
mutual
def dW : D → Nat
  | .str x => x.length
  | .int _ => 40
  | .tup l => dWs l
  | .lst l => dWs l
  | .rol l => dWs l
  | _ => 0
def dWs : List D → Nat
  | [] => 0
  | d :: r => dW d + 1 + dWs r
end
mutual
def shrt : D → Bool
  | .int i => decide (i.natAbs < 1000000000000)
  | .tup l => shrts l
  | .lst l => shrts l
  | .rol l => shrts l
  | _ => true
def shrts : List D → Bool
  | [] => true
  | d :: r => shrt d && shrts r
end
end DL
namespace PySem.SeqAt
open AutoSeq1 (wpAny_loadPart')
open MeetsSeq MeetsSeq2 MeetsSeq3 SeqRoads2
theorem tup_ltZ (p q : Addr) (xs ys : Array Value) (k k' : Nat) (c c' : Option Addr) (u u' : Array (Option Value)) (eq lt : Nat → Bool) :
    Meets (Builtin.«tuple.__lt__» ⟨[.ref p, .ref q], []⟩)
      (fun B W z => z.heap.get? p = some ⟨.type "tuple", c, .seq xs k, u⟩ ∧ z.heap.get? q = some ⟨.type "tuple", c', .seq ys k', u'⟩ ∧
        (∀ j (g : j < xs.size) (g' : j < ys.size), EqAt B.in1 z xs[j] ys[j] (eq j)) ∧ (∀ j (g : j < xs.size) (g' : j < ys.size), (∀ m, m < j → eq m = true) → eq j = false → RcLt B.in1 z xs[j] ys[j] (lt j)) ∧
        W (.ok (.ret (.bool (firstLt eq lt (decide (xs.size < ys.size)) (List.range (min xs.size ys.size)))))) z) :=
  .of_wp fun prog w B W z hh => by
    obtain ⟨hp, gn, dr, tk, osx⟩ := z
    obtain ⟨px, qx, eqs, lts, goal⟩ := hh
    have sub := AutoSeq1.sub_tuple_tuple
    have zl : (xs.toList.zip ys.toList).length = min xs.size ys.size := by simp
    wp_walk using wpAny_loadPart' px, wpAny_loadPart' qx, wpAny_forIn_list _ (fun L b y => b.1 = none ∧ y = ⟨hp, gn, dr, tk, osx⟩ ∧ ∃ i, L = (xs.toList.zip ys.toList).drop i ∧ (∀ m, m < i → eq m = true) ∧
      W (.ok (.ret (.bool (firstLt eq lt (decide (xs.size < ys.size)) ((List.range (min xs.size ys.size)).drop i))))) ⟨hp, gn, dr, tk, osx⟩) _
    case turn =>
      rintro ⟨y1, x1⟩ L b y ⟨b0, rfl, i, e0, low, fin⟩
      have il : i < (xs.toList.zip ys.toList).length := Nat.lt_of_not_le fun n => by
        rw [List.drop_of_length_le n] at e0; cases e0
      have im : i < min xs.size ys.size := zl ▸ il
      have i1 : i < xs.size := Nat.lt_of_lt_of_le im (Nat.min_le_left _ _)
      have i2 : i < ys.size := Nat.lt_of_lt_of_le im (Nat.min_le_right _ _)
      rw [List.drop_eq_getElem_cons il] at e0
      injection e0 with e1 e2
      obtain rfl : y1 = xs[i] := by have z := congrArg Prod.fst e1; simpa using z
      obtain rfl : x1 = ys[i] := by have z := congrArg Prod.snd e1; simpa using z
      rw [show (List.range (min xs.size ys.size)).drop i = i :: (List.range (min xs.size ys.size)).drop (i + 1) by simp [List.drop_eq_getElem_cons, im]] at fin
      refine wpAny_bind (eqs i i1 i2 prog w _ _ ?_)
      cases ei : eq i with
      | true =>
        rw [firstLt_yes ei] at fin
        wp_walk
        refine ⟨rfl, rfl, i + 1, e2, fun m hm => ?_, fin⟩
        rcases Nat.lt_or_ge m i with h | h
        · exact low m h
        · rw [show m = i by omega]; exact ei
      | false =>
        rw [firstLt_no ei] at fin
        have l0 := lts i i1 i2 low ei
        unfold RcLt at l0
        generalize richCompare CmpOp.Lt xs[i] ys[i] = rc at l0 ⊢
        wp_walk
        refine l0 prog w _ _ ?_
        wp_walk
        exact ⟨_, rfl, fin⟩
    case fin =>
      rintro ⟨b1, b2⟩ y ⟨b0, rfl, i, e0, low, fin⟩
      simp only at b0
      subst b0
      have ge : min xs.size ys.size ≤ i := Nat.le_of_not_lt fun n => by
        rw [List.drop_eq_getElem_cons (zl ▸ n)] at e0; cases e0
      rw [List.drop_of_length_le (by simpa using ge)] at fin
      wp_walk
      exact ⟨_, rfl, by simpa [Builtin.Tuple.tupleCompareSizes, firstLt] using fin⟩
    case h =>
      exact ⟨rfl, rfl, 0, rfl, fun m hm => absurd hm (Nat.not_lt_zero m), by simpa using goal⟩
theorem RcLt.lazy {A : Around} {s : Shared} {p q : Addr} {xs ys : Array Value} {eq lt : Nat → Bool} (hp : s.heap.IsTuple p xs) (hq : s.heap.IsTuple q ys) (hu : A.units < cLine)
    (eqs : ∀ j (g : j < xs.size) (g' : j < ys.size), EqAt A.in1 s xs[j] ys[j] (eq j)) (lts : ∀ j (g : j < xs.size) (g' : j < ys.size), (∀ m, m < j → eq m = true) → eq j = false → RcLt A.in1 s xs[j] ys[j] (lt j)) :
    RcLt A s (.ref p) (.ref q) (firstLt eq lt (decide (xs.size < ys.size)) (List.range (min xs.size ys.size))) := fun prog w E Q h => by
  obtain ⟨⟨cl, c, dt, u⟩, o1, o2, k, o3⟩ := id hp
  obtain ⟨⟨cl', c', dt', u'⟩, n1, n2, k', n3⟩ := id hq
  simp only at o2 o3 n2 n3
  subst o2 o3 n2 n3
  exact richCompare_meets_room (op := .Lt) ⟨_, o1, rfl⟩ ⟨_, n1, rfl⟩ F.slot_tuple_lt F.entry_tuple_lt (F.args_tuple_lt_2 _ _) (tup_ltZ p q xs ys k k' c c' u u' eq lt)
    ⟨o1, n1, eqs, lts, And.intro (a := Value.bool _ ≠ Value.notImplemented) (b := Q (.bool _) s) (fun x => nomatch x) h⟩ hu
end PySem.SeqAt
namespace PySem.SeqAt
open PySem.W
def nnD : PyData → Bool
  | .none => false
  | _ => true
theorem nnD_ne {x : PyData} (h : nnD x = true) : x ≠ .none := fun e => by rw [e] at h; cases h
def pLt : List PyData → List PyData → Option Bool
  | [], [] => some false
  | [], _ :: _ => some true
  | _ :: _, [] => some false
  | x :: xs, y :: ys => if PyData.eqv x y = true then pLt xs ys else if (alike x y && nnD x) = true then some (dataLt x y) else none
theorem firstLt_map {e r : Nat → Bool} {b : Bool} (f : Nat → Nat) : ∀ l : List Nat, firstLt e r b (l.map f) = firstLt (fun j => e (f j)) (fun j => r (f j)) b l
  | [] => rfl
  | j :: t => by
    show (if e (f j) = true then firstLt e r b (t.map f) else r (f j)) = _
    rw [firstLt_map f t]; rfl
theorem pLt_first : ∀ {xs ys : List PyData} {b : Bool}, pLt xs ys = some b →
    firstLt (fun j => PyData.eqv (xs.getD j .none) (ys.getD j .none)) (fun j => dataLt (xs.getD j .none) (ys.getD j .none)) (decide (xs.length < ys.length)) (List.range (min xs.length ys.length)) = b
  | [], [], b, h => by cases h; rfl
  | [], _ :: _, b, h => by cases h; simp [firstLt]
  | _ :: _, [], b, h => by cases h; simp [firstLt]
  | x :: xs, y :: ys, b, h => by
    have e1 : min (x :: xs).length (y :: ys).length = min xs.length ys.length + 1 := by simp only [List.length_cons]; omega
    rw [e1, List.range_succ_eq_map]
    unfold pLt at h
    by_cases c : PyData.eqv x y = true
    · rw [if_pos c] at h
      rw [firstLt_yes (by simpa using c), firstLt_map]
      have z := pLt_first h
      simpa using z
    · rw [if_neg c] at h
      rw [firstLt_no (by simpa using c)]
      by_cases c2 : (alike x y && nnD x) = true
      · rw [if_pos c2] at h; cases h; rfl
      · rw [if_neg c2] at h; cases h
theorem pLt_alike : ∀ {xs ys : List PyData} {b : Bool}, pLt xs ys = some b → ∀ j, j < xs.length → j < ys.length → (∀ m, m < j → PyData.eqv (xs.getD m .none) (ys.getD m .none) = true) → PyData.eqv (xs.getD j .none) (ys.getD j .none) = false →
    alike (xs.getD j .none) (ys.getD j .none) = true ∧ xs.getD j .none ≠ .none
  | [], _, _, _, j, h1, _, _, _ => absurd h1 (Nat.not_lt_zero j)
  | _ :: _, [], _, _, j, _, h2, _, _ => absurd h2 (Nat.not_lt_zero j)
  | x :: xs, y :: ys, b, h, j, h1, h2, h3, h4 => by
    unfold pLt at h
    by_cases c : PyData.eqv x y = true
    · rw [if_pos c] at h
      cases j with
      | zero => have h4' : PyData.eqv x y = false := h4; rw [c] at h4'; cases h4'
      | succ j => exact pLt_alike h j (Nat.lt_of_succ_lt_succ h1) (Nat.lt_of_succ_lt_succ h2) (fun m hm => by simpa using h3 (m + 1) (by omega)) (by simpa using h4)
    · rw [if_neg c] at h
      cases j with
      | zero =>
        by_cases c2 : (alike x y && nnD x) = true
        · rw [Bool.and_eq_true] at c2; exact ⟨c2.1, nnD_ne c2.2⟩
        · rw [if_neg c2] at h; cases h
      | succ j => exact absurd (by simpa using h3 0 (Nat.succ_pos j)) c
theorem readsAll_at {h : Heap} : ∀ {vs : List Value} {xs : List PyData} {as : List Addr}, ReadsAll h vs xs as → ∀ j (g : j < vs.length), ∃ as', Reads h vs[j] (xs.getD j .none) as'
  | _, [], _, r, j, g => by cases r; exact absurd g (Nat.not_lt_zero j)
  | _, x :: xs, _, r, j, g => by
    cases r with
    | cons r1 r2 =>
      cases j with
      | zero => exact ⟨_, r1⟩
      | succ j => simpa using readsAll_at r2 j (Nat.lt_of_succ_lt_succ g)
theorem canLay_at : ∀ {xs : List PyData} (j : Nat), PyData.canLayAll0 xs = true → (xs.getD j .none).canLay0 = true
  | [], j, _ => by simp [PyData.canLay0]
  | x :: xs, 0, h => by rw [PyData.canLayAll0, Bool.and_eq_true] at h; exact h.1
  | x :: xs, j + 1, h => by rw [PyData.canLayAll0, Bool.and_eq_true] at h; simpa using canLay_at j h.2
theorem depth_at : ∀ {xs : List PyData} (j : Nat), (xs.getD j .none).depth ≤ PyData.depthAll xs
  | [], j => by simp [PyData.depth]
  | x :: xs, 0 => by simp only [PyData.depthAll]; exact Nat.le_max_left _ _
  | x :: xs, j + 1 => by simp only [PyData.depthAll]; exact Nat.le_trans (by simpa using depth_at (xs := xs) j) (Nat.le_max_right _ _)
theorem rcLt_rows {xs ys : List PyData} {b : Bool} {A : Around} {s : Shared} {u v : Value} {as bs : List Addr} (r1 : Reads s.heap u (.tuple xs) as) (r2 : Reads s.heap v (.tuple ys) bs) (c1 : PyData.canLayAll0 xs = true) (c2 : PyData.canLayAll0 ys = true)
    (h : pLt xs ys = some b) (hu : A.units + 1 + PyData.depthAll xs < cLine) : RcLt A s u v b := by
  cases r1 with
  | @tuple l o vs n _ _ h1 h2 h3 h4 =>
    cases r2 with
    | @tuple l' o' vs' n' _ _ k1 k2 k3 k4 =>
      have n1 : vs.size = xs.length := by simpa using ReadsAll.length _ _ _ h4
      have n2 : vs'.size = ys.length := by simpa using ReadsAll.length _ _ _ k4
      rw [← pLt_first h, ← n1, ← n2]
      refine RcLt.lazy ⟨_, h1, h2, _, h3⟩ ⟨_, k1, k2, _, k3⟩ (by omega) (fun j g g' => ?_) fun j g g' low no => ?_
      · obtain ⟨a1, q1⟩ := readsAll_at h4 j (by simpa using g)
        obtain ⟨a2, q2⟩ := readsAll_at k4 j (by simpa using g')
        have d1 := depth_at (xs := xs) j
        have z := eqAt_reads _ _ A.in1 s _ _ _ _ q1 q2 (canLay_at j c1) (canLay_at j c2) (by show A.units + 1 + min _ _ < cLine; omega)
        simpa using z
      · obtain ⟨a1, q1⟩ := readsAll_at h4 j (by simpa using g)
        obtain ⟨a2, q2⟩ := readsAll_at k4 j (by simpa using g')
        obtain ⟨al, nn⟩ := pLt_alike h j (by omega) (by omega) low no
        have d1 := depth_at (xs := xs) j
        have z := rcLt_alike _ _ A.in1 s _ _ _ _ q1 q2 al nn (by show A.units + 1 + min _ _ < cLine; omega)
        simpa using z
end PySem.SeqAt
namespace DL
open PySem PySem.Spec PyProof.Rows L2
section
variable {X : Cx} {ca : Ca} {H0 : Bs} {m : Md}
def ltD : PyData → PyData → Option Bool
  | .tuple xs, .tuple ys => SeqAt.pLt xs ys
  | d, e => if (PySem.W.alike d e && SeqAt.nnD d) = true then some (PySem.W.dataLt d e) else none
theorem op_ltD (hu : X.A.units + 66 < cLine) : OpR X (compareOp .Lt) (fun x y H Q => ∃ d e b, Dp X.K H x d ∧ Dp X.K H y e ∧ SeqAt.shaped d = true ∧ SeqAt.shaped e = true ∧ ltD d e = some b ∧ Q (.bl b) H) := by
  intro pins s σ H x y v u Q I rx ry h
  obtain ⟨d, e, b, hd, he, sd, se, hb, q⟩ := h
  obtain ⟨as, r1⟩ := Dp.reads I d x v hd rx
  obtain ⟨bs, r2⟩ := Dp.reads I e y u he ry
  have kd := sd
  have ke := se
  unfold SeqAt.shaped at kd ke
  rw [Bool.and_eq_true] at kd ke
  have dd : d.depth ≤ 64 := of_decide_eq_true kd.2
  have fin : wpAny (model X.prog X.w) X.A (richCompare .Lt v u) (EP X pins σ Q) X.xe s := by
    unfold ltD at hb
    split at hb
    next xs ys =>
      have c1 : PyData.canLayAll0 xs = true := by simpa [PyData.canLay0] using kd.1
      have c2 : PyData.canLayAll0 ys = true := by simpa [PyData.canLay0] using ke.1
      have dp : (PyData.tuple xs).depth = PyData.depthAll xs + 1 := by simp only [PyData.depth]
      exact SeqAt.rcLt_rows r1 r2 c1 c2 hb (by omega) X.prog X.w _ _ ⟨.bl _, H, I, rfl, q⟩
    next hno =>
      by_cases c : (PySem.W.alike d e && SeqAt.nnD d) = true
      · rw [if_pos c] at hb
        rw [Bool.and_eq_true] at c
        cases hb
        exact PySem.W.rcLt_alike d e X.A s v u as bs r1 r2 c.1 (SeqAt.nnD_ne c.2) (by omega) X.prog X.w _ _ ⟨.bl _, H, I, rfl, q⟩
      · rw [if_neg c] at hb; cases hb
  exact fin
def oLtD (a b : D) : Option D := if (eqOk a && eqOk b) = true then (ltD (py a) (py b)).map .bl else none
def oLtX (a b : D) : Option D := match oLt a b with
  | some d => some d
  | none => oLtD a b
theorem od_ltX (hu : X.A.units + 66 < cLine) : OpD X ca H0 m (compareOp .Lt) oLtX := OpD.or od_lt (OpD.bl (op_ltD hu) fun W H S x y dx dy d Q w s cx cy e => by
    have e : (if (eqOk dx && eqOk dy) = true then (ltD (py dx) (py dy)).map D.bl else none) = some d := e
    by_cases c : (eqOk dx && eqOk dy) = true
    · rw [if_pos c] at e
      obtain ⟨b, h1, rfl⟩ := Option.map_eq_some_iff.mp e
      rw [Bool.and_eq_true] at c
      have c1 := c.1
      have c2 := c.2
      unfold eqOk at c1 c2
      rw [Bool.and_eq_true] at c1 c2
      exact ⟨b, rfl, fun q => ⟨py dx, py dy, b, CV.dp w cx c1.1, CV.dp w cy c2.1, c1.2, c2.2, h1, q⟩⟩
    · rw [if_neg c] at e; cases e) fun x y d e => by
  unfold oLtX at e
  cases h : oLt x y with
  | some z => rw [h] at e; exact .inl e
  | none => rw [h] at e; exact .inr e
end
@[simp] theorem oLtX_i (i j : Int) : oLtX (.int i) (.int j) = some (.bl (decide (i < j))) := rfl
@[simp] theorem oLtX_s (i j : Str) : oLtX (.str i) (.str j) = some (.bl (decide (i.cps.toList < j.cps.toList))) := rfl
@[simp] theorem oLtX_b (i j : Bool) : oLtX (.bl i) (.bl j) = some (.bl (!i && j)) := by cases i <;> cases j <;> rfl
theorem Room.u66 {k : Nat} {A : Around} (r : Room k A) : A.units + 66 < cLine := by have := r.un; omega
end DL
namespace DL
open PySem PySem.Spec PyProof.Rows L2
section
variable {K : PySem.W.Frag} {ca : Ca} {H0 : Bs} {W : Wd} {H : Hp}
theorem Yl.zipT {a b : Addr} {vs ws : List V} {ds es : List D} (h : ∀ W' H', FutS H0 W H W' H' → WOk W' H' → SqT K H' a vs) (h2 : ∀ W' H', FutS H0 W H W' H' → WOk W' H' → SqT K H' b ws)
    (q : DVs K ca W.hf W.ad vs ds) (q2 : DVs K ca W.hf W.ad ws es) : Yl K ca H0 (RZ.ItzT K a b) W H (dZip ds es) := by
  intro i W1 H1 F w
  have s := h W1 H1 F w
  have s2 := h2 W1 H1 F w
  refine ⟨fun d e => ?_, fun hl => ⟨vs, ws, s, s2, by rw [q.length, q2.length]; exact dZip_len _ _ _ hl⟩⟩
  obtain ⟨x, y, e1, e2, rfl⟩ := dZip_get ds es i d e
  obtain ⟨v, e3, qv⟩ := q.get e1
  obtain ⟨u, e4, qu⟩ := q2.get e2
  refine ⟨⟨vs, ws, v, u, s, s2, e3, e4⟩, fun z H' ⟨T, v', u', ez, hT, eH, k1, k2⟩ σ ρ S R => ?_⟩
  subst ez; subst eH
  have e5 := k1 vs s
  rw [e3] at e5
  cases e5
  have e6 := k2 ws s2
  rw [e4] at e6
  cases e6
  exact pair_new hT w R.h0 (qv.mono F.hf F.ad) (qu.mono F.hf F.ad) R
end
def oEnumA (ds : List D) : Option (List D) := match ds with
  | [.tup l] => some (dEnum 0 l)
  | ds => oEnum ds
def oZipA (ds : List D) : Option (List D) := match ds with
  | [.tup l, .tup m] => some (dZip l m)
  | ds => oZip ds
def sEnumA (fa : SA) : SA := fun ρ => mb (fa ρ) fun ds => mo (oEnumA ds)
def sZipA (fa : SA) : SA := fun ρ => mb (fa ρ) fun ds => mo (oZipA ds)
@[simp] theorem sEnumA_e (fa : SA) (ρ : Rho) (S : Sto) : sEnumA fa ρ S = mb (fa ρ) (fun ds => mo (oEnumA ds)) S := rfl
@[simp] theorem sZipA_e (fa : SA) (ρ : Rho) (S : Sto) : sZipA fa ρ S = mb (fa ρ) (fun ds => mo (oZipA ds)) S := rfl
@[simp] theorem oEnumA_t (l : List D) : oEnumA [.tup l] = some (dEnum 0 l) := rfl
@[simp] theorem oEnumA_l (l : List D) : oEnumA [.lst l] = some (dEnum 0 l) := rfl
@[simp] theorem oZipA_t (l m : List D) : oZipA [.tup l, .tup m] = some (dZip l m) := rfl
@[simp] theorem oZipA_l (l m : List D) : oZipA [.lst l, .lst m] = some (dZip l m) := rfl
section
variable {X : Cx} {ca : Ca} {H0 : Bs} {Wx : WX} {m : Md}
theorem sta_tup {K : PySem.W.Frag} {Hb : Hp} {W : Wd} {H : Hp} {v : V} {l : List D} (w : WOk W H) (r : DR K ca .sta Hb W H v (.tup l)) : ∃ a vs, v = .ref a ∧ (∀ W' H', FutS H0 W H W' H' → WOk W' H' → SqT K H' a vs) ∧ SqT K H a vs ∧ DVs K ca W.hf W.ad vs l := by
  obtain ⟨a, vs, e, h, q⟩ := DV.ofTup (show DV K ca W.hf W.ad v (.tup l) from r)
  exact ⟨a, vs, e, fun W' H' F w' => (Same.tupQ (F.hf.trans w'.sub) h).sq, (Same.tupQ w.sub h).sq, q⟩
theorem di_zipA {e e2 : Expr} {fa : SA} {p pos tpos : Pos} {elts : List Expr} {kk : Nat} (hg : Gl X "zip") (hm : X.mg "zip" = none) (ha : DA X ca H0 Wx .sta [e, e2] fa)
    (hs : starEach [e, e2] X.env = (false, eval e X.env) :: starEach [e2] X.env := by rfl) (hpl : (backTo pos (starEach [e2] X.env)).any (·.1) = false := by rfl) :
    DI X ca H0 Wx (.Tuple elts kk tpos) (.Call (.Name "zip" p) [e, e2] [] pos) (sZipA fa) :=
  PI.imp (RZ.pi_zipA hg hm ha hs hpl) fun σ H R ⟨W, ρ, S, Rp, o⟩ => ⟨W, ρ, S, Rp, (OutM.bind o).imp fun ds S' W' H' F R' k vs q => by
    match ds, q, k with
    | [], q, k => exact False.elim k
    | [x], q, k =>
      have z : oZipA [x] = none := by cases x <;> rfl
      rw [z] at k
      exact False.elim k
    | x :: y :: z :: r, q, k =>
      have z : oZipA (x :: y :: z :: r) = none := by cases x <;> first | rfl | (cases y <;> rfl)
      rw [z] at k
      exact False.elim k
    | [d, d2], .cons q (.cons q2 .nil), k =>
      cases d with
      | tup l =>
        cases d2 with
        | tup l2 =>
          obtain ⟨a, vs, ev, k1, k0, g⟩ := sta_tup (H0 := H0) R'.w q
          obtain ⟨b, ws, ew, k3, k4, g2⟩ := sta_tup (H0 := H0) R'.w q2
          subst ev; subst ew
          exact ⟨a, b, vs, ws, rfl, .inr ⟨k0, k4, k W' H' (FutG.refl _ _) R' _ (Yl.zipT k1 k3 g g2)⟩⟩
        | _ => exact False.elim k
      | lst l =>
        cases d2 with
        | lst l2 =>
          obtain ⟨a, vs, ev, k1, k0, g⟩ := sta_l (H0 := H0) rfl R'.w q
          obtain ⟨b, ws, ew, k3, k4, g2⟩ := sta_l (H0 := H0) rfl R'.w q2
          subst ev; subst ew
          exact ⟨a, b, vs, ws, rfl, .inl ⟨k0, k4, k W' H' (FutG.refl _ _) R' _ (Yl.zip k1 k3 g g2)⟩⟩
        | rol l2 =>
          obtain ⟨a, vs, ev, k1, k0, g⟩ := sta_l (H0 := H0) rfl R'.w q
          obtain ⟨b, ws, ew, k3, k4, g2⟩ := sta_l (H0 := H0) rfl R'.w q2
          subst ev; subst ew
          exact ⟨a, b, vs, ws, rfl, .inl ⟨k0, k4, k W' H' (FutG.refl _ _) R' _ (Yl.zip k1 k3 g g2)⟩⟩
        | _ => exact False.elim k
      | rol l =>
        cases d2 with
        | lst l2 =>
          obtain ⟨a, vs, ev, k1, k0, g⟩ := sta_l (H0 := H0) rfl R'.w q
          obtain ⟨b, ws, ew, k3, k4, g2⟩ := sta_l (H0 := H0) rfl R'.w q2
          subst ev; subst ew
          exact ⟨a, b, vs, ws, rfl, .inl ⟨k0, k4, k W' H' (FutG.refl _ _) R' _ (Yl.zip k1 k3 g g2)⟩⟩
        | rol l2 =>
          obtain ⟨a, vs, ev, k1, k0, g⟩ := sta_l (H0 := H0) rfl R'.w q
          obtain ⟨b, ws, ew, k3, k4, g2⟩ := sta_l (H0 := H0) rfl R'.w q2
          subst ev; subst ew
          exact ⟨a, b, vs, ws, rfl, .inl ⟨k0, k4, k W' H' (FutG.refl _ _) R' _ (Yl.zip k1 k3 g g2)⟩⟩
        | _ => exact False.elim k
      | _ => exact False.elim k⟩
theorem op_inT (hu : X.A.units + 65 < cLine) : OpR X (compareOp .In) (fun x y H Q => ∃ d ds, Dp X.K H x d ∧ Dp X.K H y (.tuple ds) ∧ SeqAt.shaped d = true ∧ SeqAt.shaped (.tuple ds) = true ∧ Q (.bl (ds.any fun z => PyData.eqv z d)) H) := by
  intro pins s σ H x y v u Q I rx ry ⟨d, ds, hd, he, sd, se, q⟩
  obtain ⟨as, r1⟩ := Dp.reads I d x v hd rx
  obtain ⟨bs, r2⟩ := Dp.reads I (.tuple ds) y u he ry
  exact SeqAt.in_tuple_reads r2 r1 (SeqAt.canLay_of_shaped (d := .tuple ds) se) (SeqAt.canLay_of_shaped sd) (room_in_shaped sd hu) ⟨.bl _, H, I, rfl, q⟩
def oInT (neg : Bool) (x y : D) : Option D := match y with
  | .tup l => if (eqOk x && eqOk (.tup l)) = true then some (.bl (if neg then !(l.any fun e => eqD e x) else l.any fun e => eqD e x)) else none
  | _ => none
theorem od_inT {op : CmpOp} {neg : Bool} (h : OpR X (compareOp op) (fun x y H Q => ∃ d ds, Dp X.K H x d ∧ Dp X.K H y (.tuple ds) ∧ SeqAt.shaped d = true ∧ SeqAt.shaped (.tuple ds) = true ∧ Q (.bl (if neg then !ds.any fun z => PyData.eqv z d else ds.any fun z => PyData.eqv z d)) H)) : OpD X ca H0 m (compareOp op) (oInT neg) :=
  OpD.bl h fun W H S x y dx dy d Q w s cx cy e => by
    cases dy with
    | tup l =>
      have e' : (if (eqOk dx && eqOk (.tup l)) = true then some (D.bl (if neg then !(l.any fun e => eqD e dx) else l.any fun e => eqD e dx)) else none) = some d := e
      by_cases hf : (eqOk dx && eqOk (.tup l)) = true
      · rw [if_pos hf] at e'; cases e'
        obtain ⟨h1, h2⟩ := Bool.and_eq_true_iff.mp hf
        obtain ⟨p1, p2⟩ := Bool.and_eq_true_iff.mp h1
        obtain ⟨q1, q2⟩ := Bool.and_eq_true_iff.mp h2
        refine ⟨_, rfl, fun q => ⟨py dx, pys l, cx.dp w p1, cy.dp w q1, p2, q2, ?_⟩⟩
        rw [pys_any]; exact q
      · rw [if_neg hf] at e'; cases e'
    | _ => cases e
def oInX (neg : Bool) (x y : D) : Option D := match oIn neg x y with
  | some d => some d
  | none => match oInD neg x y with
    | some d => some d
    | none => oInT neg x y
theorem oInX_or {neg : Bool} {x y d : D} (e : oInX neg x y = some d) : (oIn neg x y = some d ∨ oInD neg x y = some d) ∨ oInT neg x y = some d := by
  unfold oInX at e
  cases h : oIn neg x y with
  | some z => rw [h] at e; exact .inl (.inl e)
  | none =>
    rw [h] at e
    cases h2 : oInD neg x y with
    | some z => rw [h2] at e; exact .inl (.inr e)
    | none => rw [h2] at e; exact .inr e
theorem oInX_of {neg : Bool} {x y d : D} (e : oIn neg x y = some d) : oInX neg x y = some d := by unfold oInX; rw [e]
def oInDX (neg : Bool) (x y : D) : Option D := match oIn neg x y with
  | some d => some d
  | none => oInD neg x y
theorem od_inX (hu : X.A.units + 65 < cLine) : OpD X ca H0 m (compareOp .In) (oInX false) :=
  OpD.or (OpD.or (o'' := oInDX false) (od_in hu) (od_inD (neg := false) (op_inD hu)) fun x y d e => by
    unfold oInDX at e
    cases h : oIn false x y with
    | some z => rw [h] at e; exact .inl e
    | none => rw [h] at e; exact .inr e) (od_inT (neg := false) (op_inT hu)) fun x y d e => by
  rcases oInX_or e with (h | h) | h
  · left; unfold oInDX; rw [h]
  · left; unfold oInDX
    cases h2 : oIn false x y with
    | none => exact h
    | some z =>
      unfold oInX at e
      rw [h2] at e
      exact e
  · exact .inr h
end
end DL
namespace DL
open PySem PySem.Spec PyProof.Rows L2
def mx (a : Int) : List Int → Int
  | [] => a
  | b :: r => mx (if a < b then b else a) r
section
variable {X : Cx} {ca : Ca} {H0 : Bs} {m : Md}
end
@[simp] theorem oMax_i (i j : Int) : oMax [.int i, .int j] = some (.int (if i < j then j else i)) := rfl
end DL
namespace RT
open PySem PySem.Spec PyProof.Rows L2
section
variable {prog : Program} {w : World} {A : Around} {E : Value → Shared → Prop} {s : Shared} {it l : Addr} {items : Array Value}
end
section
variable {X : Cx}
end
end RT
namespace DL
open PySem PySem.Spec PyProof.Rows L2
theorem DVs.rev {K : PySem.W.Frag} {ca : Ca} {h : Hp} {ad : Nat → Option Addr} : ∀ {vs : List V} {l : List D}, DVs K ca h ad vs l → DVs K ca h ad vs.reverse l.reverse
  | _, _, .nil => .nil
  | _, _, .cons (v := v) (d := d) q r => by
    rw [List.reverse_cons, List.reverse_cons]
    exact DVs.app (DVs.rev r) (.cons q .nil)
def sListRev (fe : SE) : SE := fun ρ => mb (fe ρ) fun x S => match dref S x with
  | .lst l => mo (some (.lst l.reverse)) S
  | _ => none
@[simp] theorem sListRev_e (fe : SE) (ρ : Rho) (S : Sto) : sListRev fe ρ S = mb (fe ρ) (fun x S => match dref S x with
  | .lst l => mo (some (.lst l.reverse)) S
  | _ => none) S := rfl
section
variable {X : Cx} {ca : Ca} {H0 : Bs} {Wx : WX} {m : Md}
end
end DL
namespace DL
open PySem PySem.Spec PyProof.Rows L2
section
variable {κ : Type} [DecidableEq κ] {α : Type}
def gK (l : List (κ × α)) (k : κ) : Option α := (l.find? fun kv => decide (kv.1 = k)).map (·.2)
def pK (l : List (κ × α)) (k : κ) (v : α) : List (κ × α) := if (l.any fun kv => decide (kv.1 = k)) = true then l.map (fun kv => if kv.1 = k then (kv.1, v) else kv) else l ++ [(k, v)]
def xK (l : List (κ × α)) (k : κ) : List (κ × α) := l.filter fun kv => decide (kv.1 ≠ k)
theorem gK_pos {p : κ × α} {r : List (κ × α)} {k : κ} (e : p.1 = k) : gK (p :: r) k = some p.2 := by simp [gK, List.find?_cons, e]
theorem gK_neg {p : κ × α} {r : List (κ × α)} {k : κ} (e : ¬ p.1 = k) : gK (p :: r) k = gK r k := by simp [gK, List.find?_cons, e]
theorem gK_any (k : κ) : ∀ l : List (κ × α), (l.any fun kv => decide (kv.1 = k)) = (gK l k).isSome
  | [] => rfl
  | p :: r => by
    rw [List.any_cons]
    by_cases e : p.1 = k
    · simp only [gK_pos e, decide_eq_true e, Bool.true_or, Option.isSome_some]
    · rw [gK_neg e, decide_eq_false e, Bool.false_or]; exact gK_any k r
end
def kyD : D → Option Key
  | .int i => some (.inl i)
  | .str x => some (.inr x)
  | _ => none
section
variable {K : PySem.W.Frag} {ca : Ca} {h : Hp} {ad : Nat → Option Addr}
theorem kyD_v {v : V} {d : D} {k : Key} (e : kyD d = some k) (c : DV K ca h ad v d) : v = kV k := by
  cases d with
  | int i => cases e; exact DV.ofInt c
  | str x => cases e; exact DV.ofStr c
  | _ => cases e
theorem DKs.len : ∀ {kvs : List (Key × V)} {es : List (Key × D)}, DKs K ca h ad kvs es → kvs.length = es.length
  | _, _, .nil => rfl
  | _, _, .cons _ r => congrArg (· + 1) (DKs.len r)
theorem DKs.keys : ∀ {kvs : List (Key × V)} {es : List (Key × D)}, DKs K ca h ad kvs es → kvs.map (·.1) = es.map (·.1)
  | _, _, .nil => rfl
  | _, _, .cons _ r => by rw [List.map_cons, List.map_cons, DKs.keys r]
theorem DKs.get {k : Key} {d : D} : ∀ {kvs : List (Key × V)} {es : List (Key × D)}, DKs K ca h ad kvs es → gK es k = some d → ∃ v, valV kvs k = some v ∧ DV K ca h ad v d
  | _, _, .nil, e => by cases e
  | _, _, .cons (k := j) (v := v) (d := d') q r, e => by
    by_cases c : j = k
    · rw [gK_pos (p := (j, d')) c] at e; cases e
      exact ⟨v, valV_pos (p := (j, v)) c, q⟩
    · rw [gK_neg (p := (j, d')) c] at e
      obtain ⟨v, h1, h2⟩ := DKs.get r e
      exact ⟨v, by rw [valV_neg (p := (j, _)) c]; exact h1, h2⟩
theorem DKs.none_ {k : Key} : ∀ {kvs : List (Key × V)} {es : List (Key × D)}, DKs K ca h ad kvs es → gK es k = none → valV kvs k = none
  | _, _, .nil, e => rfl
  | _, _, .cons (k := j) (v := v) (d := d') q r, e => by
    by_cases c : j = k
    · rw [gK_pos (p := (j, d')) c] at e; cases e
    · rw [gK_neg (p := (j, d')) c] at e
      rw [valV_neg (p := (j, _)) c]; exact DKs.none_ r e
theorem DKs.isSome {k : Key} {kvs : List (Key × V)} {es : List (Key × D)} (r : DKs K ca h ad kvs es) : (valV kvs k).isSome = (gK es k).isSome := by
  cases e : gK es k with
  | none => rw [r.none_ e]; rfl
  | some d => obtain ⟨v, h1, _⟩ := r.get e; rw [h1]; rfl
theorem DKs.repl {k : Key} {v : V} {d : D} (q : DV K ca h ad v d) : ∀ {kvs : List (Key × V)} {es : List (Key × D)}, DKs K ca h ad kvs es → DKs K ca h ad (kvs.map fun kv => if kv.1 = k then (kv.1, v) else kv) (es.map fun kv => if kv.1 = k then (kv.1, d) else kv)
  | _, _, .nil => .nil
  | _, _, .cons (k := j) p r => by
    rw [List.map_cons, List.map_cons]
    by_cases c : j = k
    · rw [if_pos c, if_pos c]; exact .cons q (DKs.repl q r)
    · rw [if_neg c, if_neg c]; exact .cons p (DKs.repl q r)
theorem DKs.app : ∀ {kvs lvs : List (Key × V)} {es fs : List (Key × D)}, DKs K ca h ad kvs es → DKs K ca h ad lvs fs → DKs K ca h ad (kvs ++ lvs) (es ++ fs)
  | _, _, _, _, .nil, s => s
  | _, _, _, _, .cons q r, s => .cons q (DKs.app r s)
theorem DKs.put {k : Key} {v : V} {d : D} (q : DV K ca h ad v d) {kvs : List (Key × V)} {es : List (Key × D)} (r : DKs K ca h ad kvs es) : DKs K ca h ad (putK kvs k v) (pK es k d) := by
  unfold putK pK
  rw [valV_any, gK_any, r.isSome]
  by_cases c : (gK es k).isSome = true
  · rw [if_pos c, if_pos c]; exact r.repl q
  · rw [if_neg c, if_neg c]; exact r.app (.cons q .nil)
theorem DKs.drop {k : Key} : ∀ {kvs : List (Key × V)} {es : List (Key × D)}, DKs K ca h ad kvs es → DKs K ca h ad (dropK kvs k) (xK es k)
  | _, _, .nil => .nil
  | _, _, .cons (k := j) (v := v) (d := d) q r => by
    have ih := DKs.drop (k := k) r
    unfold dropK xK at ih ⊢
    rw [List.filter_cons, List.filter_cons]
    by_cases c : decide (j ≠ k) = true
    · rw [if_pos c, if_pos c]; exact .cons q ih
    · rw [if_neg c, if_neg c]; exact ih
end
def oDIx : D → D → Option D
  | .dK es, k => (kyD k).bind (gK es)
  | _, _ => none
def oDIn (neg : Bool) : D → D → Option D
  | k, .dK es => (kyD k).map fun k => .bl (if neg then !(gK es k).isSome else (gK es k).isSome)
  | _, _ => none
def oDGet (o k z : D) : Option D := match o with
  | .dK es => (kyD k).map fun k => (gK es k).getD z
  | _ => none
def isDk : D → Bool
  | .dK _ => true
  | _ => false
def sDGet1 (fo fi : SE) : SE := fun ρ => mb (fo ρ) fun o S1 => if isDk (dref S1 o) = true then mb (fi ρ) (fun k S => mo (oDGet (dref S o) k .non) S) S1 else none
def sDGet2 (fo fi fz : SE) : SE := fun ρ => mb (fo ρ) fun o S1 => if isDk (dref S1 o) = true then mb (fi ρ) (fun k => mb (fz ρ) fun z S => mo (oDGet (dref S o) k z) S) S1 else none
def oLenD : List D → Option D
  | [.dK l] => some (.int l.length)
  | _ => none
def oDictD : List D → Option D
  | [.dK l] => some (.dK l)
  | _ => none
def keyS : List (Key × D) → Option (List Str)
  | [] => some []
  | (.inr x, _) :: r => (keyS r).map (x :: ·)
  | _ => none
def oSortD : List D → Option D
  | [.dK l] => match keyS l with
    | some xs => if xs.length < 64 then some (.lst ((xs.mergeSort strLe).map D.str)) else none
    | none => none
  | _ => none
section
variable {X : Cx} {ca : Ca} {H0 : Bs} {Wx : WX} {mr m : Md}
end
def stK (S : Sto) (n : Nat) : Option (List (Key × D)) := match S[n]? with
  | some (.dK l) => some l
  | _ => none
def bDPut (fo fi fe : SE) : SS := fun ρ => sb (fe ρ) ρ fun d => sb (fo ρ) ρ fun o S => match asObj o with
  | none => none
  | some n => sb (fi ρ) ρ (fun k S => match stK S n with
    | none => none
    | some l => match kyD k with
      | none => none
      | some kk => if l.length < sizeLine then some (.nx ρ, S.set n (.dK (pK l kk d))) else none) S
def sDPop (fo fi : SE) : SE := fun ρ => mb (fo ρ) fun o S => match asObj o with
  | none => none
  | some n => match stK S n with
    | none => none
    | some _ => mb (fi ρ) (fun k S' => match stK S' n with
      | none => none
      | some l => match kyD k with
        | none => none
        | some kk => match gK l kk with
          | none => none
          | some d => some (.ok d, S'.set n (.dK (xK l kk)))) S
section
variable {X : Cx} {ca : Ca} {H0 : Bs} {Wx : WX} {mr m : Md}
end
end DL
namespace RT
open PySem PySem.Spec PyProof.Rows L2
section
variable {X : Cx}
end
end RT
namespace DL
open PySem PySem.Spec PyProof.Rows L2
def sListVals (fe : SE) : SE := fun ρ => mb (fe ρ) fun x S => match dref S x with
  | .dK l => mo (some (.lst (l.map (·.2)))) S
  | _ => none
def dcD (tgt : D → Rho → Option Rho) (ft : ST) (fk fe : SE) (ρ : Rho) : List (Key × D) → List D → M D
  | out, [] => mp (.dK out)
  | out, d :: r => match tgt d ρ with
    | none => mf
    | some ρ1 => mb (mq (ft ρ1)) fun b => if b = true then mb (mq (fk ρ1)) fun k => mb (mq (fe ρ1)) fun y => match kyD k with
      | none => mf
      | some kk => if out.length < sizeLine then dcD tgt ft fk fe ρ (pK out kk y) r else mf
      else dcD tgt ft fk fe ρ out r
def sDc (vs : List Nat) (src : SA) (tgt : D → Rho → Option Rho) (ft : ST) (fk fe : SE) : SE := fun ρ => mb (src ρ) fun ds => dcD tgt ft fk fe (wipeR ρ vs) [] ds
section
variable {X : Cx} {ca : Ca} {H0 : Bs} {Wx : WX} {mr m : Md} {vs : List Nat}
end
def sNewD : SE := fun _ => mp (.dK [])
@[simp] theorem sNewD_e (ρ : Rho) (S : Sto) : sNewD ρ S = some (.ok (.dK []), S) := rfl
@[simp] theorem sDGet1_e (fo fi : SE) (ρ : Rho) (S : Sto) : sDGet1 fo fi ρ S = mb (fo ρ) (fun o S1 => if isDk (dref S1 o) = true then mb (fi ρ) (fun k S => mo (oDGet (dref S o) k .non) S) S1 else none) S := rfl
@[simp] theorem sDGet2_e (fo fi fz : SE) (ρ : Rho) (S : Sto) : sDGet2 fo fi fz ρ S = mb (fo ρ) (fun o S1 => if isDk (dref S1 o) = true then mb (fi ρ) (fun k => mb (fz ρ) fun z S => mo (oDGet (dref S o) k z) S) S1 else none) S := rfl
@[simp] theorem bDPut_e (fo fi fe : SE) (ρ : Rho) (S : Sto) : bDPut fo fi fe ρ S = sb (fe ρ) ρ (fun d => sb (fo ρ) ρ fun o S => match asObj o with
  | none => none
  | some n => sb (fi ρ) ρ (fun k S => match stK S n with
    | none => none
    | some l => match kyD k with
      | none => none
      | some kk => if l.length < sizeLine then some (.nx ρ, S.set n (.dK (pK l kk d))) else none) S) S := rfl
@[simp] theorem sDPop_e (fo fi : SE) (ρ : Rho) (S : Sto) : sDPop fo fi ρ S = mb (fo ρ) (fun o S => match asObj o with
  | none => none
  | some n => match stK S n with
    | none => none
    | some _ => mb (fi ρ) (fun k S' => match stK S' n with
      | none => none
      | some l => match kyD k with
        | none => none
        | some kk => match gK l kk with
          | none => none
          | some d => some (.ok d, S'.set n (.dK (xK l kk)))) S) S := rfl
@[simp] theorem sListVals_e (fe : SE) (ρ : Rho) (S : Sto) : sListVals fe ρ S = mb (fe ρ) (fun x S => match dref S x with
  | .dK l => mo (some (.lst (l.map (·.2)))) S
  | _ => none) S := rfl
@[simp] theorem sDc_e (vs : List Nat) (src : SA) (tgt : D → Rho → Option Rho) (ft : ST) (fk fe : SE) (ρ : Rho) (S : Sto) : sDc vs src tgt ft fk fe ρ S = mb (src ρ) (fun ds => dcD tgt ft fk fe (wipeR ρ vs) [] ds) S := rfl
@[simp] theorem kyD_s (x : Str) : kyD (.str x) = some (.inr x) := rfl
@[simp] theorem kyD_i (x : Int) : kyD (.int x) = some (.inl x) := rfl
@[simp] theorem isDk_d (l : List (Key × D)) : isDk (.dK l) = true := rfl
@[simp] theorem oDIx_d (l : List (Key × D)) (k : D) : oDIx (.dK l) k = (kyD k).bind (gK l) := rfl
@[simp] theorem oDIn_s (neg : Bool) (l : List (Key × D)) (x : Str) : oDIn neg (.str x) (.dK l) = some (.bl (if neg then !(gK l (.inr x)).isSome else (gK l (.inr x)).isSome)) := rfl
@[simp] theorem oDGet_d (l : List (Key × D)) (k z : D) : oDGet (.dK l) k z = (kyD k).map fun k => (gK l k).getD z := rfl
@[simp] theorem oLenD_d (l : List (Key × D)) : oLenD [.dK l] = some (.int l.length) := rfl
@[simp] theorem oDictD_d (l : List (Key × D)) : oDictD [.dK l] = some (.dK l) := rfl
@[simp] theorem obOf_dK (l : List (Key × D)) : obOf (.dK l) = some (.dK l) := rfl
theorem dref_dKat {S : Sto} {n : Nat} {l : List (Key × D)} (h : S[n]? = some (.dK l)) : dref S (.obj n) = .dK l := by
  show (match S[n]? with | some (.lst l) => D.lst l | some (.dK l) => .dK l | some (.dT l) => .dT l | some (.ins c fs) => .ins c fs | none => .obj n) = _
  rw [h]
theorem stK_at {S : Sto} {n : Nat} {l : List (Key × D)} (h : S[n]? = some (.dK l)) : stK S n = some l := by
  unfold stK; rw [h]
end DL
namespace DL
open PySem PySem.Spec PyProof.Rows L2
def sQ (f : SE) : SE := fun ρ => mq (f ρ)
@[simp] theorem sQ_e (f : SE) (ρ : Rho) (S : Sto) : sQ f ρ S = mq (f ρ) S := rfl
abbrev CXN (P : Program) (w : World) : CXT := L2N.CX P w
structure FnN (P : Program) (w : World) (K : PySem.W.Frag) (mg : Str → Option Value) (base : Heap) (k : Nat) (f : Addr) (fd : FuncData) (ps : List Str) (sp : Sp) : Prop where
  len : ∀ vs H Q E, sp vs H Q E → vs.length = ps.length
  go : ∀ (A : Around) (outer : List Env) (s : Shared) (H : Hp) (args : Args) (us : List Value) (vs : List V) (Q : VK) (E : XK), A.guards = some [] → Room k A →
    Env0 P w K mg base A outer s H → BindsTo s fd args (ps.zip us) → Vals vs us → sp vs H Q E → codeAny (model P w) A (.call (.ref f) args) (CR (CXN P w) outer P w H s Q E) s
section
variable {P : Program} {w : World} {K : PySem.W.Frag} {mg : Str → Option Value} {base : Heap} {x qual : Str} {params : Arguments} {body : List Stmt} {scope : Scope} {dvs : List V} {kws : List (Str × V)} {f : Addr} {fd : FuncData}
end
section
variable {X : Cx} {ca : Ca} {H0 : Bs} {Wx : WX} {mr : Md}
end
structure CalN (P : Program) (w : World) (K : PySem.W.Frag) (mg : Str → Option Value) (base : Heap) (ca : Ca) (x : Str) (k : Nat) (ms : List Bool) (mr : Md) (sem : Sem1) (dds : List D) : Prop where
  ex : ∃ (a : Addr) (fd : FuncData) (ps : List Str), mg x = some (.ref a) ∧ W.keepIn K (.ref a) = true ∧ FnN P w K mg base k a fd ps (spD K ca ms mr sem) ∧
    (∀ j, j ≤ dds.length → ∃ dvs ds, Vals dvs ds ∧ Binds K fd ps ds ∧ DVs K ca (fun _ => none) (fun _ => none) dvs (dds.drop j))
  sc : dds.all isScal = true
section
variable {X : Cx} {ca : Ca} {H0 : Bs} {Wx : WX} {mr m : Md}
end
end DL
namespace L2H
open PySem PySem.Spec PyProof.Rows L2 HotX
end L2H
namespace DL
open PySem PySem.Spec PyProof.Rows L2
section
variable {X : Cx} {ca : Ca} {H0 : Bs} {Wx : WX} {mr : Md}
end
section
variable {P : Program} {w : World} {K : PySem.W.Frag} {mg : Str → Option Value} {base : Heap} {x qual : Str} {params : Arguments} {scope : Scope} {f C : Addr} {fd : FuncData}
end
def bTryF (mx : Str → Option Bool) (c : Str) (fs : List Str) (fb : SS) (fa : SA) : SS := fun ρ S => match fb ρ S with
  | some (.exc ρ' x, S') => match mx x.c with
    | none => none
    | some false => some (.exc ρ' x, S')
    | some true => bRaise c fs fa ρ' S'
  | r => r
@[simp] theorem bTryF_e (mx : Str → Option Bool) (c : Str) (fs : List Str) (fb : SS) (fa : SA) (ρ : Rho) (S : Sto) : bTryF mx c fs fb fa ρ S = (match fb ρ S with
  | some (.exc ρ' x, S') => (match mx x.c with
    | none => none
    | some false => some (.exc ρ' x, S')
    | some true => bRaise c fs fa ρ' S')
  | r => r) := rfl
section
variable {X : Cx} {ca : Ca} {H0 : Bs} {Wx : WX} {mr : Md}
end
end DL
namespace DL
open PySem PySem.Spec PyProof.Rows L2
def oIsB : D → D → Option D
  | .bl a, .bl b => some (.bl (decide (a = b)))
  | _, _ => none
def oNotB : D → D → Option D
  | .bl a, .bl b => some (.bl (!decide (a = b)))
  | _, _ => none
section
variable {X : Cx} {ca : Ca} {H0 : Bs} {m : Md}
theorem od_notB : OpD X ca H0 m (compareOp .IsNot) oNotB := OpD.bl op_notBl fun W H S x y dx dy d Q w s cx cy e => by
  cases dx with
  | bl a =>
    cases dy with
    | bl b => cases e; exact ⟨_, rfl, fun q => ⟨a, b, DV.ofBl cx, DV.ofBl cy, q⟩⟩
    | _ => cases e
  | _ => cases e
end
@[simp] theorem oIsB_b (a b : Bool) : oIsB (.bl a) (.bl b) = some (.bl (decide (a = b))) := rfl
@[simp] theorem oNotB_b (a b : Bool) : oNotB (.bl a) (.bl b) = some (.bl (!decide (a = b))) := rfl
end DL
namespace PySem.W
open PySem PySem.Calls PyProof.Rows
def KeyRows (ds : List PyData) : Prop := ∀ d, d ∈ ds → ∃ x r, d = .tuple (.str x :: r) ∧ ∀ r', PyData.tuple (.str x :: r') ∈ ds → alikeAll r r' = true
theorem kr_first {h : Heap} {v : Value} {x x' : Str} {r r' : List PyData} {as as' : List Addr} (a : Reads h v (.tuple (.str x :: r)) as) (b : Reads h v (.tuple (.str x' :: r')) as') : x = x' := by
  cases a with
  | @tuple l o xs n _ _ h1 h2 h3 h4 =>
    cases b with
    | @tuple l' o' xs' n' _ _ k1 k2 k3 k4 =>
      rw [h1] at k1
      cases k1
      rw [h3] at k3
      injection k3 with e1 e2
      subst e1
      cases q : xs.toList with
      | nil => rw [q] at h4; cases h4
      | cons f fr =>
        rw [q] at h4 k4
        cases h4 with
        | cons m1 m2 =>
          cases k4 with
          | cons n1 n2 =>
            cases m1
            cases n1
            rfl
theorem kr_unique {ds : List PyData} (hp : KeyRows ds) {h : Heap} {v : Value} {d d' : PyData} {as as' : List Addr} (hd : d ∈ ds) (hd' : d' ∈ ds) (a : Reads h v d as) (b : Reads h v d' as') : d = d' := by
  obtain ⟨x, r, rfl, h3⟩ := hp d hd
  obtain ⟨x', r', rfl, _⟩ := hp d' hd'
  obtain rfl := kr_first a b
  exact alike_unique _ _ _ _ _ (by have := h3 r' hd'; simp [alike, alikeAll, this]) a b
theorem kr_some {h : Heap} {ds : List PyData} (hp : KeyRows ds) {v : Value} {d : PyData} {as : List Addr} (hd : d ∈ ds) (r : Reads h v d as) : (dataKind h ds).keyOf v = some (keyToks d) := by
  have q : ∃ d, d ∈ ds ∧ ∃ as, Reads h v d as := ⟨d, hd, as, r⟩
  have e : (dataKind h ds).keyOf v = some (keyToks q.choose) := by
    show (open Classical in if q : ∃ d, d ∈ ds ∧ ∃ as, Reads h v d as then some (keyToks q.choose) else none) = _
    rw [dif_pos q]
  obtain ⟨h1, as', h2⟩ := q.choose_spec
  rw [e, kr_unique hp h1 hd h2 r]
section
variable {prog : Program} {w : World} {A : Around} {s : Shared}
theorem kr_lex {Q : Bool → Shared → Prop} {x x' : Str} {r r' : List PyData} {vs ws : List Value} {as bs : List Addr} (ra : ReadsAll s.heap vs (.str x :: r) as) (rb : ReadsAll s.heap ws (.str x' :: r') bs) (hne : ¬ x = x') {fin : Bool}
    (hq : Q (PyProof.Rows.lexLt itemOrd (keyToksAll (.str x :: r)) (keyToksAll (.str x' :: r'))) s) : KatLex prog w A true fin Q (vs.zip ws) 0 s := by
  have e : PyData.eqv (.str x) (.str x') = false := by simp [PyData.eqv, hne]
  have al : alike (.str x) (.str x') = true := by simp [alike]
  rw [dataLt_all_no al e, dataLt_str] at hq
  cases ra with
  | cons m1 m2 =>
    cases rb with
    | cons n1 n2 =>
      cases m1
      cases n1
      rw [List.zip_cons_cons]
      refine kat_cons (SeqAt.EqAt.str_str _ _ _ _ prog w _ _ ?_)
      refine kat_go (fun e1 => ?_) (fun e1 => kat_no (oneLt_str hq))
      exact absurd (by simpa using e1) hne
theorem sortsAt_rows {vs : List Value} {ds : List PyData} (e : EachIs (fun v d => ∃ as, Reads s.heap v d as) vs ds) (hp : KeyRows ds) (hu : ∀ d, d ∈ ds → A.units + d.depth < cLine) : SortsAt prog w A s (dataKind s.heap ds) vs := by
  have ht : ∀ d, d ∈ ds → ∃ x r, d = .tuple (x :: r) := fun d hd => by
    obtain ⟨x, r, rfl, _⟩ := hp d hd
    exact ⟨_, _, rfl⟩
  refine ⟨fun v hv => ?_, tuples' true, ?_, fun h2 E Q hq => ?_⟩
  · obtain ⟨d, hd, as, r⟩ := e.left v hv
    exact ⟨_, kr_some hp hd r⟩
  · intro E x y a b Q ha hb hq
    obtain ⟨d, as, hd, ra, rfl⟩ := dataKind_inv ha
    obtain ⟨d', as', hd', rb, rfl⟩ := dataKind_inv hb
    have hroom : A.units + min d.depth d'.depth < cLine := Nat.lt_of_le_of_lt (Nat.add_le_add_left (Nat.min_le_left _ _) _) (hu d hd)
    obtain ⟨x1, r1, rfl, g3⟩ := hp d hd
    obtain ⟨x2, r2, rfl, _⟩ := hp d' hd'
    have hq' : Q (dataLt (.tuple (.str x1 :: r1)) (.tuple (.str x2 :: r2))) s := hq
    rw [dataLt_tuple] at hq'
    cases ra with
    | @tuple l o xs n _ _ h1 h2 h3 h4 =>
      cases rb with
      | @tuple l' o' xs' n' _ _ k1 k2 k3 k4 =>
        have n1 : xs.size = (PyData.str x1 :: r1).length := by simpa using SeqAt.ReadsAll.length _ _ _ h4
        have n2 : xs'.size = (PyData.str x2 :: r2).length := by simpa using SeqAt.ReadsAll.length _ _ _ k4
        by_cases hr : x1 = x2
        · subst hr
          refine kat_lt h1 h3 k1 k3 (katLex_alike (.str x1 :: r1) (.str x1 :: r2) 0 _ _ _ _ h4 k4 (by have := g3 r2 hd'; simp [alike, alikeAll, this]) (by have q := SeqAt.room_in hroom; omega) (fun hb _ x r t ex => ?_) (by rw [n1, n2]) hq')
          obtain ⟨rfl, rfl⟩ := List.cons.inj ex
          exact fun z => by cases z
        · refine kat_lt h1 h3 k1 k3 (kr_lex h4 k4 hr hq')
  · obtain ⟨fs, t1, t2, t3⟩ := each_katTups e ht
    refine kat_kind (T := .type "str") t1 (by omega) (fun f hf => ?_) (beq_self_eq_true _) (by
      have e : (Value.type "str" != Value.type "tuple") = true := by first | decide +kernel | rfl | decide
      rw [e]; exact hq)
    obtain ⟨x, r, as, m1, m2⟩ := t3 f hf
    obtain ⟨x1, r1, e1, _⟩ := hp _ m1
    injection e1 with e1
    injection e1 with e1 e2
    subst e1
    exact looks_reads m2
end
end PySem.W
namespace DL
open PySem PySem.Spec PyProof.Rows L2
theorem each_zipR {h : Heap} {all : List PyData} (hp : PySem.W.KeyRows all) : ∀ {xs : List V} {vs ks : List Value} {ds : List PyData}, Vals xs vs → PySem.W.EachIs (fun v d => ∃ as, Reads h v d as) ks ds → (∀ d ∈ ds, d ∈ all) → xs.length = ds.length →
    PySem.W.EachIs (fun (v : Value) (b : V × PyData) => RelV b.1 v) vs (xs.zip ds) ∧ PySem.W.EachIs (fun k (b : V × PyData) => (PySem.W.dataKind h all).keyOf k = some (PySem.W.keyToks b.2)) ks (xs.zip ds)
  | [], _, _, [], .nil, .nil, _, _ => ⟨.nil, .nil⟩
  | x :: xs, _, _, d :: ds, .cons r1 r2, .cons ⟨as, e1⟩ e2, hm, hl => by
    obtain ⟨a, b⟩ := each_zipR hp r2 e2 (fun z hz => hm z (List.mem_cons_of_mem _ hz)) (by simpa using hl)
    exact ⟨.cons r1 a, .cons (PySem.W.kr_some hp (hm d List.mem_cons_self) e1) b⟩
section
variable {X : Cx}
end
def RowsOk (l : List D) : Prop := pyOks l = true ∧ PySem.W.KeyRows (pys l) ∧ (∀ d, d ∈ pys l → d.depth ≤ 8)
section
variable {X : Cx} {ca : Ca} {H0 : Bs} {m : Md}
end
end DL
namespace DL
open PySem PySem.Spec PyProof.Rows L2
structure InF (K : PySem.W.Frag) (mg : Str → Option Value) (ca : Ca) (x : Str) : Prop where
  g : mg x = some (.ref (ca x))
  cl : L2.Cls K (ca x)
  ha : W.findIn K (.ref (ca x)) "__class__" = some (some (.builtin "object.__class__"))
  hn : PySem.W.specialIn K (.builtin "object.__class__") "__get__" = some (some (.builtin "getset_descriptor.__get__"))
  htk : PySem.W.takesIn K (.builtin "object.__class__") = some true
  hm : PySem.W.mroIn K (ca x) (.type "object") = some true
  me : PySem.W.kitOne K (.ref (ca x)) (.ref (ca x)) = some true
  t : PySem.W.kitOne K (.type "tuple") (.ref (ca x)) = some false
def oIsC (x : Str) : D → Option D
  | .ins c _ => if c = x then some (.bl true) else none
  | .tup _ => some (.bl false)
  | _ => none
def sIsC (x : Str) (fe : SE) : SE := fun ρ => mb (fe ρ) fun d S => mo (oIsC x (dref S d)) S
section
variable {X : Cx} {ca : Ca} {H0 : Bs} {Wx : WX} {m : Md}
end
@[simp] theorem sIsC_e (x : Str) (fe : SE) (ρ : Rho) (S : Sto) : sIsC x fe ρ S = mb (fe ρ) (fun d S => mo (oIsC x (dref S d)) S) S := rfl
@[simp] theorem oIsC_i (x c : Str) (fs : List (Str × D)) : oIsC x (.ins c fs) = if c = x then some (.bl true) else none := rfl
@[simp] theorem oIsC_t (x : Str) (l : List D) : oIsC x (.tup l) = some (.bl false) := rfl
end DL
namespace PySem.AutoSeq1
end PySem.AutoSeq1
namespace DL
open PySem PySem.Spec PyProof.Rows L2
section
variable {X : Cx}
end
section
variable {X : Cx} {ca : Ca} {H0 : Bs} {Wx : WX} {mr : Md}
def uExtT : List D → List D → Option (D × List D) := fun l ds => match ds with
  | [.tup m] => if l.length + m.length ≤ sizeLine then some (.non, l ++ m) else none
  | _ => none
end
@[simp] theorem uExtT_t (l m : List D) : uExtT l [.tup m] = if l.length + m.length ≤ sizeLine then some (.non, l ++ m) else none := rfl
end DL
namespace TS
open PySem PySem.Spec PyProof.Rows
section
variable {prog : Program} {w : World} {A : Around} {R : Result → Shared → Prop} {I : Addr} {fp wr : List Addr} {G : Array GenState → Array GenState → Prop} {n : Nat} {P : Nat → Value → Prop} {St : Nat → Shared → Prop}
end
section
variable {prog : Program} {w : World} {A : Around} {E : Value → Shared → Prop} {s : Shared}
end
end TS
namespace L2
open PySem PySem.Spec PyProof.Rows
section
variable {X : Cx}
end
end L2
namespace DL
open PySem PySem.Spec PyProof.Rows L2
def manyS (l : List Str) : Nat := (l.foldl step_dedup []).length
def oLenT : D → Option D
  | .lst l => (dStrs l).bind fun ys => if ys.length < 1000 then some (.int (manyS ys)) else none
  | _ => none
def sLenT (fe : SE) : SE := fun ρ => mb (fe ρ) fun x S => mo (oLenT (dref S x)) S
@[simp] theorem sLenT_e (fe : SE) (ρ : Rho) (S : Sto) : sLenT fe ρ S = mb (fe ρ) (fun x S => mo (oLenT (dref S x)) S) S := rfl
section
variable {X : Cx} {ca : Ca} {H0 : Bs} {Wx : WX} {m : Md}
end
end DL
namespace DL
open PySem PySem.Spec PyProof.Rows L2
def kLook : List (Str × D) → Str → Option D
  | [], _ => none
  | (k, d) :: r, z => if k = z then some d else kLook r z
def scV : D → Option V
  | .int i => some (.int i)
  | .str z => some (.str z)
  | _ => none
inductive DPairs : List (Str × D) → List (Value × Value) → Prop where
  | nil : DPairs [] []
  | cons {k : Str} {d : D} {t : Tok} {u : Value} {v : V} {l : List (Str × D)} {r : List (Value × Value)} (h1 : scV d = some v) (h2 : RelV v u) (h : DPairs l r) : DPairs ((k, d) :: l) ((.str k t, u) :: r)
def KFind (es : Array DictEntry) (l : List (Str × D)) : Prop := ∀ z, match kLook l z with
  | none => findBy Value.isStrOf es z = none
  | some d => ∃ v u, scV d = some v ∧ RelV v u ∧ findBy Value.isStrOf es z = some u
theorem KFind.some_ {es : Array DictEntry} {l : List (Str × D)} (h : KFind es l) {z : Str} {d : D} (e : kLook l z = some d) : ∃ v u, scV d = some v ∧ RelV v u ∧ findBy Value.isStrOf es z = some u := by
  have q := h z
  rw [e] at q
  exact q
theorem KFind.none_ {es : Array DictEntry} {l : List (Str × D)} (h : KFind es l) {z : Str} (e : kLook l z = none) : findBy Value.isStrOf es z = none := by
  have q := h z
  rw [e] at q
  exact q
theorem KFind.isSome {es : Array DictEntry} {l : List (Str × D)} (h : KFind es l) (z : Str) : (findBy Value.isStrOf es z).isSome = (kLook l z).isSome := by
  cases e : kLook l z with
  | none => rw [h.none_ e]; rfl
  | some d => obtain ⟨v, u, _, _, q⟩ := h.some_ e; rw [q]; rfl
section
variable {X : Cx} {p : Addr} {es : Array DictEntry} {n : Nat} {l : List (Str × D)}
end
def oKIn (neg : Bool) (l : List (Str × D)) : D → Option D
  | .str z => some (.bl (if neg then !(kLook l z).isSome else (kLook l z).isSome))
  | _ => none
def oKIx (l : List (Str × D)) : D → Option D
  | .str z => (kLook l z).bind fun d => (scV d).map fun _ => d
  | _ => none
def sKU (o : D → Option D) (fa : SE) : SE := fun ρ => mb (fa ρ) fun x S => mo (o (dref S x)) S
def oKGet (l : List (Str × D)) : D → D → Option D
  | .str z, r => match kLook l z with
    | none => some r
    | some d => (scV d).map fun _ => d
  | _, _ => none
def sKGet2 (l : List (Str × D)) (fa fb : SE) : SE := fun ρ => mb (fa ρ) fun x => mb (fb ρ) fun r S => mo (oKGet l x r) S
section
variable {X : Cx} {ca : Ca} {H0 : Bs} {Wx : WX} {m : Md} {l : List (Str × D)}
end
@[simp] theorem sKU_e (o : D → Option D) (fa : SE) (ρ : Rho) (S : Sto) : sKU o fa ρ S = mb (fa ρ) (fun x S => mo (o (dref S x)) S) S := rfl
@[simp] theorem sKGet2_e (l : List (Str × D)) (fa fb : SE) (ρ : Rho) (S : Sto) : sKGet2 l fa fb ρ S = mb (fa ρ) (fun x => mb (fb ρ) fun r S => mo (oKGet l x r) S) S := rfl
end DL
namespace DL
open PySem PySem.Spec PyProof.Rows L2
def ddr (S : Sto) : D → D
  | .tup l => .tup (l.map (dref S))
  | d => dref S d
section
variable {K : PySem.W.Frag} {ca : Ca} {H : Hp} {W : Wd} {S : Sto}
theorem dps_view (w : WOk W H) (s : RepS K ca W H S) : ∀ {vs : List V} {ds : List D}, DVs K ca W.hf W.ad vs ds → pyOks (ds.map (dref S)) = true → DpAll K H vs (pys (ds.map (dref S)))
  | _, _, .nil, _ => .nil
  | _, _, .cons (v := v) (d := d) q r, e => by
    obtain ⟨e1, e2⟩ := Bool.and_eq_true_iff.mp (show (pyOk (dref S d) && pyOks _) = true from e)
    exact .cons (CV.dp w (DR.view (m := .frz) (H := H) w s q) e1) (dps_view w s r e2)
theorem ddr_dp {H1 : Hp} {v : V} {d : D} (w : WOk W H) (s : RepS K ca W H S) (q : DR K ca .bor H1 W H v d) (e : pyOk (ddr S d) = true) : Dp K H v (py (ddr S d)) := by
  have c := DR.view w s q
  cases d with
  | tup l =>
    have q : DV K ca W.hf W.ad v (.tup l) := q
    match v, q with
    | _, .tup q1 r1 => exact .tup (Same.tupq w.sub q1.sq) (dps_view w s r1 e)
  | lst l => exact CV.dp w c e
  | rol l => exact CV.dp w c e
  | non => exact CV.dp w c e
  | bl b => exact CV.dp w c e
  | int b => exact CV.dp w c e
  | str b => exact CV.dp w c e
  | obj n => exact CV.dp w c e
  | _ => cases e
end
noncomputable def oReprO : List D → Option D
  | [d] => if shOk d = true then some (.str (py d).shown) else none
  | _ => none
noncomputable def sReprO (fa : SA) : SE := fun ρ => mb (fa ρ) fun ds S => mo (oReprO (ds.map (ddr S))) S
section
variable {X : Cx} {ca : Ca} {H0 : Bs} {Wx : WX} {m : Md}
theorem de_reprO {e : Expr} {fa : SA} {p pos : Pos} (hgd : X.A.guards = some []) (hu : X.A.units + 66 < cLine) (hm : X.mg "repr" = none) (ha : DA X ca H0 Wx .bor [e] fa) (hg : Gl X "repr" := by rfl)
    (he : starEach [e] X.env = (false, eval e X.env) :: starEach [] X.env := by rfl) (hpl : (backTo pos (starEach [] X.env)).any (·.1) = false := by rfl) :
    DE X ca H0 Wx m (.Call (.Name "repr" p) [e] [] pos) (sReprO fa) := by
  refine PE.imp (pe_callB (call_reprD hgd hu) hg hm rfl ha (by decide) (by decide) he hpl) fun σ H Q h => ?_
  obtain ⟨W, ρ, S, R, h⟩ := h
  refine ⟨W, ρ, S, R, (OutM.bind h).imp fun ds S1 W1 H1 F1 R1 h1 xs D1 => ?_⟩
  cases D1 with
  | nil => exact False.elim h1
  | cons q r =>
    cases r with
    | cons _ _ => exact False.elim h1
    | nil =>
      rename_i v d
      have h1 : OutM X.K ca H0 Wx W1 ρ σ H1 (mo (oReprO [ddr S1 d]) S1) _ := h1
      by_cases hk : shOk (ddr S1 d) = true
      · have e0 : oReprO [ddr S1 d] = some (.str (py (ddr S1 d)).shown) := by simp only [oReprO, hk, if_true]
        rw [e0] at h1
        unfold shOk eqOk at hk
        simp only [Bool.and_eq_true] at hk
        obtain ⟨⟨k1, k2⟩, k3, k4⟩ := hk
        have fin : FinR X.K ca H0 m W1 H1 S1 (.str (py (ddr S1 d)).shown) Q := fun W' H' v F k r => h1 W' H' F (k _ _ R1) v (DR.older (fun a o ha => F1.dom a o ha) r)
        exact ⟨v, _, rfl, ddr_dp R1.w R1.s q k1, k2, k3, cdec_iff.mp k4, fin.scal rfl (.str _)⟩
      · have e0 : oReprO [ddr S1 d] = none := by simp only [oReprO, hk]; rfl
        rw [e0] at h1
        exact False.elim h1
end
@[simp] theorem sReprO_e (fa : SA) (ρ : Rho) (S : Sto) : sReprO fa ρ S = mb (fa ρ) (fun ds S => mo (oReprO (ds.map (ddr S))) S) S := rfl
theorem oReprO_some {d : D} (h : shOk d = true) : oReprO [d] = some (.str (py d).shown) := by simp only [oReprO, h, if_true]
end DL
namespace DL
open PySem PySem.Spec PyProof.Rows L2
structure CalK (P : Program) (w : World) (K : PySem.W.Frag) (mg : Str → Option Value) (base : Heap) (ca : Ca) (x : Str) (k : Nat) (ms : List Bool) (mr : Md) (sem : Sem1) (dds : List D) (kns : List (List Str)) : Prop where
  ex : ∃ (a : Addr) (fd : FuncData) (ps : List Str), mg x = some (.ref a) ∧ W.keepIn K (.ref a) = true ∧ FnG P w K mg base k a fd ps (spD K ca ms mr sem) ∧
    (∃ dvs ds, Vals dvs ds ∧ Binds K fd ps ds ∧ DVs K ca (fun _ => none) (fun _ => none) dvs dds) ∧
    (∀ ks, ks ∈ kns → KBn K fd ps (ms.length - ks.length) ks (fun us ws => us ++ ws) (fun vs zs => vs ++ zs))
  sc : dds.all isScal = true
section
variable {X : Cx} {ca : Ca} {H0 : Bs} {Wx : WX} {mr m : Md}
end
section
variable {P : Program} {w : World} {K : PySem.W.Frag} {mg : Str → Option Value} {base : Heap} {ca : Ca} {x : Str} {f : Addr} {fd : FuncData} {ps : List Str} {k : Nat} {ms : List Bool} {mr : Md} {sem : Sem1}
end
end DL
namespace DL
open PySem PySem.Spec PyProof.Rows L2
section
variable {X : Cx} {ca : Ca} {H0 : Bs} {m : Md}
end
end DL
namespace DL
open PySem PySem.Spec PyProof.Rows L2
section
variable {X : Cx} {ca : Ca} {H0 : Bs} {Wx : WX} {m : Md} {l : List (Str × D)}
end
end DL
namespace DL
open PySem PySem.Spec PyProof.Rows L2
end DL
namespace DL
open PySem PySem.Spec PyProof.Rows L2
def rdObj (o : Obj) : Bool := match o.data with
  | .seq its _ => match its.toList with
    | .str x _ :: _ => x == ("attribute" : Str) || x == ("ancestors" : Str)
    | _ => false
  | _ => false
def NoT (K : PySem.W.Frag) : Prop := K.all (fun e => !rdObj e.2) = true
theorem noT_at {K : PySem.W.Frag} (h : NoT K) {a : Addr} {o : Obj} (e : K.lookup a = some o) : rdObj o = false := by
  have m : ∃ p ∈ K, p.2 = o := by
    unfold NoT at h
    clear h
    induction K with
    | nil => cases e
    | cons p K ih =>
      obtain ⟨b, q⟩ := p
      rw [List.lookup_cons] at e
      cases hb : a == b with
      | true => rw [hb] at e; exact ⟨(b, q), by simp, Option.some.inj e⟩
      | false => rw [hb] at e; obtain ⟨p, h1, h2⟩ := ih e; exact ⟨p, List.mem_cons_of_mem _ h1, h2⟩
  obtain ⟨p, h1, rfl⟩ := m
  have := List.all_eq_true.mp h p h1
  simpa using this
def kysD : List D → Option (List Key)
  | [] => some []
  | d :: r => match kyD d, kysD r with
    | some k, some l => some (k :: l)
    | _, _ => none
def kyT : D → Option (List Key)
  | .tup (.str w :: r) => if w = ("attribute" : Str) ∨ w = ("ancestors" : Str) then kysD (.str w :: r) else none
  | _ => none
section
variable {K : PySem.W.Frag} {ca : Ca} {h : Hp} {ad : Nat → Option Addr}
theorem kys_v : ∀ {ds : List D} {k : List Key} {vs : List V}, kysD ds = some k → DVs K ca h ad vs ds → vs = k.map kV
  | [], k, _, e, .nil => by cases e; rfl
  | d :: r, k, _, e, .cons q t => by
    unfold kysD at e
    split at e
    next k1 l e1 e2 => cases e; rw [List.map_cons, kyD_v e1 q, ← kys_v e2 t]
    next => cases e
theorem kyT_v {v : V} {d : D} {k : List Key} (hn : NoT K) (e : kyT d = some k) (c : DV K ca h ad v d) : ∃ b, v = .ref b ∧ h b = some (.tup (k.map kV)) := by
  unfold kyT at e
  split at e
  next w r =>
    split at e
    next hw =>
      obtain ⟨a, vs, rfl, tq, dv⟩ := DV.ofTup c
      have ev := kys_v e dv
      subst ev
      refine ⟨a, rfl, ?_⟩
      rcases tq with tq | tq
      · exact tq
      · exfalso
        rcases tq with tq | ⟨o, its, n, h1, h2, h3, h4, h5⟩
        · rcases tq with tq | ⟨_, tq⟩ <;> cases tq
        · have hr := noT_at hn h1
          obtain ⟨k0, kr, rfl⟩ : ∃ k0 kr, k = k0 :: kr := by
            cases k with
            | nil => cases dv
            | cons k0 kr => exact ⟨k0, kr, rfl⟩
          have k0e : kV k0 = .str w := by
            cases dv with
            | cons q t => exact DV.ofStr q
          rw [List.map_cons, k0e] at h5
          generalize hL : its.toList = L at h5
          cases h5 with
          | cons q t =>
            rename_i u us
            obtain ⟨tk, rfl⟩ : ∃ tk, u = .str w tk := q
            unfold rdObj at hr
            rw [h3] at hr
            simp only [hL] at hr
            rcases hw with rfl | rfl
            · simp at hr
            · simp at hr
    next => cases e
  next => cases e
theorem DTs.len : ∀ {kvs : List (List Key × V)} {es : List (List Key × D)}, DTs K ca h ad kvs es → kvs.length = es.length
  | _, _, .nil => rfl
  | _, _, .cons _ r => congrArg (· + 1) (DTs.len r)
theorem DTs.get {k : List Key} {d : D} : ∀ {kvs : List (List Key × V)} {es : List (List Key × D)}, DTs K ca h ad kvs es → gK es k = some d → ∃ v, valV kvs k = some v ∧ DV K ca h ad v d
  | _, _, .nil, e => by cases e
  | _, _, .cons (k := j) (v := v) (d := d') q r, e => by
    by_cases c : j = k
    · rw [gK_pos (p := (j, d')) c] at e; cases e
      exact ⟨v, valV_pos (p := (j, v)) c, q⟩
    · rw [gK_neg (p := (j, d')) c] at e
      obtain ⟨v, h1, h2⟩ := DTs.get r e
      exact ⟨v, by rw [valV_neg (p := (j, _)) c]; exact h1, h2⟩
theorem DTs.none_ {k : List Key} : ∀ {kvs : List (List Key × V)} {es : List (List Key × D)}, DTs K ca h ad kvs es → gK es k = none → valV kvs k = none
  | _, _, .nil, e => rfl
  | _, _, .cons (k := j) (v := v) (d := d') q r, e => by
    by_cases c : j = k
    · rw [gK_pos (p := (j, d')) c] at e; cases e
    · rw [gK_neg (p := (j, d')) c] at e
      rw [valV_neg (p := (j, _)) c]; exact DTs.none_ r e
theorem DTs.isSome {k : List Key} {kvs : List (List Key × V)} {es : List (List Key × D)} (r : DTs K ca h ad kvs es) : (valV kvs k).isSome = (gK es k).isSome := by
  cases e : gK es k with
  | none => rw [r.none_ e]; rfl
  | some d => obtain ⟨v, h1, _⟩ := r.get e; rw [h1]; rfl
theorem DTs.repl {k : List Key} {v : V} {d : D} (q : DV K ca h ad v d) : ∀ {kvs : List (List Key × V)} {es : List (List Key × D)}, DTs K ca h ad kvs es → DTs K ca h ad (kvs.map fun kv => if kv.1 = k then (kv.1, v) else kv) (es.map fun kv => if kv.1 = k then (kv.1, d) else kv)
  | _, _, .nil => .nil
  | _, _, .cons (k := j) p r => by
    rw [List.map_cons, List.map_cons]
    by_cases c : j = k
    · rw [if_pos c, if_pos c]; exact .cons q (DTs.repl q r)
    · rw [if_neg c, if_neg c]; exact .cons p (DTs.repl q r)
theorem DTs.app : ∀ {kvs lvs : List (List Key × V)} {es fs : List (List Key × D)}, DTs K ca h ad kvs es → DTs K ca h ad lvs fs → DTs K ca h ad (kvs ++ lvs) (es ++ fs)
  | _, _, _, _, .nil, s => s
  | _, _, _, _, .cons q r, s => .cons q (DTs.app r s)
theorem DTs.put {k : List Key} {v : V} {d : D} (q : DV K ca h ad v d) {kvs : List (List Key × V)} {es : List (List Key × D)} (r : DTs K ca h ad kvs es) : DTs K ca h ad (putK kvs k v) (pK es k d) := by
  unfold putK pK
  rw [valV_any, gK_any, r.isSome]
  by_cases c : (gK es k).isSome = true
  · rw [if_pos c, if_pos c]; exact r.repl q
  · rw [if_neg c, if_neg c]; exact r.app (.cons q .nil)
end
section
variable {X : Cx} {pins : List (Addr × Obj)} {σ : L2.St} {H : Hp} {s : Shared} {a b : Addr} {r : Value} {d : V} {k : List Key} {A : Around} {E : Value → Shared → Prop}
end
section
variable {X : Cx} {o e f : Expr} {td ty tx : TE} {apos cpos : Pos}
end
def isDt : D → Bool
  | .dT _ => true
  | _ => false
def stT (S : Sto) (n : Nat) : Option (List (List Key × D)) := match S[n]? with
  | some (.dT l) => some l
  | _ => none
theorem stT_eq {S : Sto} {n : Nat} {l : List (List Key × D)} (h : stT S n = some l) : S[n]? = some (.dT l) := by
  unfold stT at h
  split at h
  next l' e => cases h; exact e
  next => cases h
def sNewT : SE := fun _ => mp (.dT [])
section
variable {X : Cx} {ca : Ca} {H0 : Bs} {Wx : WX} {mr m : Md}
theorem de_newT {pos : Pos} : DE X ca H0 Wx m (.Dict [] [] pos) sNewT :=
  PE.imp pe_dnewT fun σ H Q ⟨W, ρ, S, R, o⟩ p hp => FinR.dT (S := S) (fun W' H' v F k r => o W' H' F (k _ _ R) v r) R.w .nil p hp
theorem isDt_of {W : Wd} {H : Hp} {x : V} {o : D} (cx : CV X.K ca W H x o) (e : isDt o = true) : ∃ a, x = .ref a ∧ IsD H a := by
  cases o with
  | dT es => obtain ⟨a, kvs, rfl, h1, r⟩ := cx; exact ⟨a, rfl, .inr ⟨kvs, .inl h1⟩⟩
  | _ => cases e
end
end DL
namespace DL
open PySem PySem.Spec PyProof.Rows L2
def KAlk (ds : List PyData) : Prop := PySem.W.AllAlike ds ∧ PySem.W.Sortable ds
section
variable {X : Cx} {pins : List (Addr × Obj)} {σ : L2.St} {H : Hp} {s : Shared}
end
open Classical in
noncomputable def oSortA (l ks : List D) : Option D := if pyOks ks = true ∧ KAlk (pys ks) ∧ (∀ d, d ∈ pys ks → d.depth ≤ 8) then some (.lst (sortD l ks)) else none
noncomputable def sSortA (sem : Sem1) (fe : SE) : SE := fun ρ => mb (fe ρ) fun x S => match dref S x with
  | .lst l => match keysD sem S l with
    | none => none
    | some ks => mo (oSortA l ks) S
  | _ => none
section
variable {X : Cx} {ca : Ca} {H0 : Bs} {Wx : WX} {m : Md}
end
@[simp] theorem sSortA_e (sem : Sem1) (fe : SE) (ρ : Rho) (S : Sto) : sSortA sem fe ρ S = mb (fe ρ) (fun x S => match dref S x with
  | .lst l => match keysD sem S l with
    | none => none
    | some ks => mo (oSortA l ks) S
  | _ => none) S := rfl
end DL
namespace DL
open PySem PySem.Spec PyProof.Rows L2
def lcO (n : Nat) (tgt : D → Rho → Option Rho) (ft : ST) (fe : SE) (ρ : Rho) : Nat → Nat → List D → M D
  | 0, _, _ => mf
  | k + 1, i, out => fun S => match stL S n with
    | none => none
    | some l => match l[i]? with
      | none => some (.ok (.lst out), S)
      | some d => match tgt d ρ with
        | none => none
        | some ρ1 => mb (mq (ft ρ1)) (fun b => if b = true then mb (mq (fe ρ1)) fun y => if out.length < sizeLine then lcO n tgt ft fe ρ k (i + 1) (out ++ [y]) else mf else lcO n tgt ft fe ρ k (i + 1) out) S
def sLcO (vs : List Nat) (fo : SE) (tgt : D → Rho → Option Rho) (ft : ST) (fe : SE) : SE := fun ρ => mb (fo ρ) fun o S => match asObj o with
  | none => none
  | some n => match stL S n with
    | none => none
    | some l => lcO n tgt ft fe (wipeR ρ vs) (l.length + 1) 0 [] S
section
variable {X : Cx} {ca : Ca} {H0 : Bs} {Wx : WX} {mr m : Md} {vs : List Nat}
theorem lcO_of {K : PySem.W.Frag} {fo : SE} {tgt : D → Rho → Option Rho} {ft : ST} {fe : SE} {σ : L2.St} {H : Hp} {Q : VK} (h : tE K ca H0 Wx m (sLcO vs fo tgt ft fe) σ H Q) :
    tLc (tIO K ca H0 Wx itId fo) (tGw K ca H0 vs tgt) (tT K ca H0 Wn ft) (tE K ca H0 Wn .frz fe) vs σ H Q := by
  obtain ⟨W, ρ, S, R, h⟩ := h
  refine ⟨W, ρ, S, R, (OutM.bind h).imp fun o S1 W1 H1 F1 R1 h1 => ?_⟩
  cases e0 : asObj o with
  | none => simp only [e0] at h1; exact False.elim h1
  | some n =>
    simp only [e0] at h1
    cases hl0 : stL S1 n with
    | none => simp only [hl0] at h1; exact False.elim h1
    | some l0 =>
      simp only [hl0] at h1
      obtain ⟨a, ha, _⟩ := R1.s.at_ n _ (stL_eq hl0)
      refine ⟨n, a, l0, rfl, hl0, ha, fun J y D hD => ?_⟩
      refine ⟨fun i mm H' => ∃ W' S' acc out, Fut W1 H1 W' H' ∧ Rep K ca H0 W' H' σ ρ S' ∧ W'.hf D = none ∧ W'.ow D = none ∧ H' D = some (.lst acc) ∧ DVs K ca W'.hf W'.ad acc out ∧
        OutM K ca H0 Wx W1 ρ σ H1 (lcO n tgt ft fe (wipeR ρ vs) mm i out S') (fun d _ W'' H'' => ∀ v, DR K ca m H W'' H'' v d → Q v H''), ?_, ?_⟩
      · obtain ⟨f1, f2⟩ := R1.w.free hD
        exact ⟨l0.length + 1, W1, S1, [], [], Fut.laid R1.w hD, R1.laid hD (fun _ z => by cases z), f1, f2, upd_same, .nil, h1⟩
      rintro i mm H2 ⟨W2, S2, acc, out, F2, R2, d1, d2, d3, q, h2⟩
      have h00 : H0 D = none := none_of_dom R1.h0 hD
      cases mm with
      | zero => exact False.elim h2
      | succ mm =>
        unfold lcO at h2
        cases e1 : stL S2 n with
        | none => simp only [e1] at h2; exact False.elim h2
        | some l =>
          simp only [e1] at h2
          obtain ⟨b, k1, k2, us, k3, k4⟩ := R2.s.at_ n _ (stL_eq e1)
          have hb : b = a := by rw [F2.ad n a ha] at k1; exact (Option.some.inj k1).symm
          subst hb
          obtain ⟨y1, y2⟩ := y i H2 us k3
          cases e2 : l[i]? with
          | none =>
            simp only [e2] at h2
            refine .inl ⟨y2 (by rw [k4.length]; exact List.getElem?_eq_none_iff.mp e2), ?_⟩
            have h3 : ∀ W' H', Fut W1 H1 W' H' → Rep K ca H0 W' H' σ ρ S2 → ∀ v, DR K ca m H W' H' v (.lst out) → Q v H' := h2
            have hH : H D = none := none_of_dom F1.dom hD
            cases m with
            | frz => exact h3 (W2.fz D (.lst acc)) H2 ((F2.trans (FutG.fz d1 hD))) (R2.fz d3 d1 d2) (.ref D) (DV.lst upd_same (q.mono (same_upd d1) fun _ _ h => h))
            | bor => exact h3 W2 H2 F2 R2 (.ref D) ⟨D, acc, rfl, d3, by rw [d2]; rfl, q⟩
            | sta => exact h3 W2 H2 F2 R2 (.ref D) ⟨D, acc, rfl, d3, by rw [d2]; rfl, q⟩
            | fre => exact h3 W2 H2 F2 R2 (.ref D) ⟨D, acc, rfl, hH, d1, d2, d3, q⟩
          | some d =>
            simp only [e2] at h2
            obtain ⟨v0, e3, qv⟩ := k4.get e2
            obtain ⟨go, y3⟩ := y1 v0 e3
            refine .inr ⟨go, fun H' => ∃ W' S' acc out, Fut W1 H1 W' H' ∧ Rep K ca H0 W' H' σ ρ S' ∧ W'.hf D = none ∧ W'.ow D = none ∧ H' D = some (.lst acc) ∧ DVs K ca W'.hf W'.ad acc out ∧
              OutM K ca H0 Wx W1 ρ σ H1 (lcO n tgt ft fe (wipeR ρ vs) mm (i + 1) out S') (fun d _ W'' H'' => ∀ v, DR K ca m H W'' H'' v d → Q v H''), fun H' n' => ⟨mm, by omega, n'⟩, fun x H3 yl => ?_⟩
            obtain ⟨W3, F3, R3, qx⟩ := y3 x H3 yl W2 σ ρ S2 d R2 qv
            obtain ⟨g1, g2, g3⟩ := Fut.free F3 d1 d2 d3
            have F13 := Fut.trans' F2 F3
            cases et : tgt d (wipeR ρ vs) with
            | none => simp only [et] at h2; exact False.elim h2
            | some ρ1 =>
              simp only [et] at h2
              refine ⟨W3, wipeR ρ vs, S2, _, ρ1, R3.wipe vs, qx, et, fun σ2 z2 RR => ⟨by rw [z2, wipe_idem], W3, ρ1, S2, RR, ?_⟩⟩
              have q3 := q.mono F3.hf F3.ad
              unfold mb mq at h2
              cases e2 : ft ρ1 S2 with
              | none => simp only [e2] at h2; exact False.elim h2
              | some r =>
                obtain ⟨r, S3⟩ := r
                cases r with
                | error z => simp only [e2] at h2; exact False.elim h2
                | ok b =>
                  simp only [e2] at h2
                  intro W4 H4 F4 R4
                  obtain ⟨k1, k2, k3⟩ := Fut.free F4 g3 g2 g1
                  have F14 := Fut.trans' F13 F4
                  have R4' := R3.ofFut F4 R4.w R4.s
                  have q4 := q3.mono F4.hf F4.ad
                  cases b with
                  | false => exact ⟨W4, S3, acc, out, F14, R4', k3, k2, k1, q4, h2⟩
                  | true =>
                    refine ⟨W4, ρ1, S3, R4, ?_⟩
                    simp only [if_true] at h2
                    cases e3 : fe ρ1 S3 with
                    | none => simp only [e3] at h2; exact False.elim h2
                    | some r =>
                      obtain ⟨r, S4⟩ := r
                      cases r with
                      | error z => simp only [e3] at h2; exact False.elim h2
                      | ok y =>
                        simp only [e3] at h2
                        intro W5 H5 F5 R5 v Dv
                        obtain ⟨j1, j2, j3⟩ := Fut.free F5 k3 k2 k1
                        by_cases hz : out.length < sizeLine
                        · rw [if_pos hz] at h2
                          have q5 := q4.mono F5.hf F5.ad
                          refine ⟨acc, j1, by rw [q5.length]; exact hz, W5, S4, acc ++ [v], out ++ [y], Fut.mutNew (Fut.trans' F14 F5) hD, (R4'.ofFut F5 R5.w R5.s).mutFree h00 j3 j2 ⟨_, j1⟩ (fun _ z => by cases z), j3, j2, upd_same, q5.app (.cons Dv .nil), h2⟩
                        · rw [if_neg hz] at h2; exact False.elim h2
theorem de_lcO {elt tg iter : Expr} {ifs : List Expr} {scope : Scope} {own : List (Str × Nat)} {pos : Pos} {fo : SE} {tgt : D → Rho → Option Rho} {ft : ST} {fe : SE} (hc : X.calm = true) (hN : X.N.Nodup) (hi : PI X tg iter (tIO X.K ca H0 Wx itId fo)) (ok : BlkOk X.N X.env.scope scope own)
    (hg : ∀ (s : Shared) (H : Hp) (C : Addr) (cl : List (Str × Addr)) (fp : List Addr), DGw (X.blk s H scope (compEnvC scope cl C X.env) fp) ca H0 (own.map (·.2)) tg tgt) (ht : ∀ (s : Shared) (H : Hp) (C : Addr) (cl : List (Str × Addr)) (fp : List Addr), PTs (X.blk s H scope (compEnvC scope cl C X.env) fp) ifs (tT X.K ca H0 Wn ft))
    (he : ∀ (s : Shared) (H : Hp) (C : Addr) (cl : List (Str × Addr)) (fp : List Addr), DE (X.blk s H scope (compEnvC scope cl C X.env) fp) ca H0 Wn .frz elt fe) (hs : ∀ x, foldedSetIterable iter X.env x = pure x := by intro _; rfl) :
    DE X ca H0 Wx m (.ListComp elt [⟨tg, iter, ifs, 0⟩] scope pos) (sLcO (own.map (·.2)) fo tgt ft fe) :=
  PE.imp (pe_lc hc hN hi ok hg ht he hs) fun σ H Q h => lcO_of h
end
@[simp] theorem sLcO_e (vs : List Nat) (fo : SE) (t : D → Rho → Option Rho) (ft : ST) (fe : SE) (ρ : Rho) (S : Sto) : sLcO vs fo t ft fe ρ S = mb (fo ρ) (fun o S => match asObj o with
  | none => none
  | some n => match stL S n with
    | none => none
    | some l => lcO n t ft fe (wipeR ρ vs) (l.length + 1) 0 [] S) S := rfl
theorem lcO_lcD {n : Nat} {t : D → Rho → Option Rho} {ft : ST} {fe : SE} {ρ : Rho} {S : Sto} {l : List D} (hl : stL S n = some l) (hs : ∀ d ∈ l, ∀ ρ1, t d ρ = some ρ1 → ∃ b, ft ρ1 S = some (.ok b, S) ∧ (b = true → ∃ y, fe ρ1 S = some (.ok y, S))) : ∀ (k i : Nat) (out : List D), l.length ≤ i + k →
    lcO n t ft fe ρ (k + 1) i out S = lcD t ft fe ρ out (l.drop i) S
  | k, i, out, hk => by
    unfold lcO
    simp only [hl]
    by_cases c : i < l.length
    · rw [List.getElem?_eq_getElem c, List.drop_eq_getElem_cons c]
      simp only []
      rw [lcD_cons]
      cases e : t l[i] ρ with
      | none => rfl
      | some ρ1 =>
        obtain ⟨b, h1, h2⟩ := hs _ (List.getElem_mem c) ρ1 e
        cases k with
        | zero => omega
        | succ k =>
          simp only [mb_e, mq_ok, h1]
          cases b with
          | false =>
            simp only [Bool.false_eq_true, if_false]
            exact lcO_lcD hl hs k (i + 1) out (by omega)
          | true =>
            obtain ⟨y, h2⟩ := h2 rfl
            simp only [if_true, mb_e, mq_ok, h2]
            split
            · exact lcO_lcD hl hs k (i + 1) (out ++ [y]) (by omega)
            · rfl
    · rw [List.getElem?_eq_none (by omega), List.drop_eq_nil_of_le (by omega)]
      rfl
end DL
namespace DL
open PySem PySem.Spec PyProof.Rows L2
section
variable {X : Cx} {ca : Ca} {H0 : Bs} {m : Md}
end
end DL
namespace DL
open PySem PySem.Spec PyProof.Rows L2
def oTGet2 (o k z : D) : Option D := match o with
  | .dT es => (kyT k).map fun k => (gK es k).getD z
  | _ => none
def sTGet2 (fo fi fz : SE) : SE := fun ρ => mb (fo ρ) fun o S1 => if isDt (dref S1 o) = true then mb (fi ρ) (fun k => mb (fz ρ) fun z S => mo (oTGet2 (dref S o) k z) S) S1 else none
def bTPut (fo fi fe : SE) : SS := fun ρ => sb (fe ρ) ρ fun d => sb (fo ρ) ρ fun o S => match asObj o with
  | none => none
  | some n => sb (fi ρ) ρ (fun k S => match stT S n with
    | none => none
    | some l => match kyT k with
      | none => none
      | some kk => if l.length < sizeLine then some (.nx ρ, S.set n (.dT (pK l kk d))) else none) S
section
variable {X : Cx} {ca : Ca} {H0 : Bs} {Wx : WX} {mr m : Md}
theorem tget2D_of {W : Wd} {H : Hp} {S : Sto} {x y z : V} {a : Addr} {o k dz d : D} {Q : VK} (hn : NoT X.K) (hm : m ≠ .fre) (w : WOk W H) (cx : CV X.K ca W H x o) (hx : x = .ref a) (cy : DV X.K ca W.hf W.ad y k) (cz : DV X.K ca W.hf W.ad z dz) (e : oTGet2 o k dz = some d) (F : FinR X.K ca H0 m W H S d Q) :
    ∃ r, DGet H a y r ∧ Q (r.getD z) H := by
  cases o with
  | dT es =>
    obtain ⟨kk, e1, e2⟩ := Option.map_eq_some_iff.mp (show (kyT k).map (fun k => (gK es k).getD dz) = some d from e)
    subst e2
    obtain ⟨b, rfl, hb⟩ := kyT_v hn e1 cy
    obtain ⟨a', kvs, rfl, h1, r⟩ := cx
    cases hx
    refine ⟨_, DGet.t h1 (w.sub _ _ hb), ?_⟩
    cases e3 : gK es kk with
    | none => rw [r.none_ e3]; rw [e3] at F; exact F.dv hm w cz
    | some v => obtain ⟨u, h1, h2⟩ := r.get e3; rw [h1]; rw [e3] at F; exact F.dv hm w h2
  | _ => cases e
theorem de_tget2 {o e f : Expr} {fo fe ff : SE} {apos cpos : Pos} (hn : NoT X.K) (hu : X.A.units + 65 < cLine) (hm : m ≠ .fre) (ho : DE X ca H0 Wx .bor o fo) (he : DE X ca H0 Wx .frz e fe) (hf : DE X ca H0 Wx .frz f ff) (mm : M2 X o "get" apos e f cpos := by exact ⟨rfl, rfl, rfl, rfl⟩) :
    DE X ca H0 Wx m (.Call (.Attribute o "get" apos) [e, f] [] cpos) (sTGet2 fo fe ff) :=
  PE.imp (pe_dget2 (by omega) ho he hf mm) fun σ H Q ⟨W, ρ, S, R, h⟩ => ⟨W, ρ, S, R, (OutM.bind h).imp fun d S1 W1 H1 F1 R1 h1 x D1 => by
    by_cases c : isDt (dref S1 d) = true
    · rw [if_pos c] at h1
      obtain ⟨a, rfl, hd⟩ := isDt_of (DR.view R1.w R1.s D1) c
      refine ⟨a, rfl, hd, W1, ρ, S1, R1, (OutM.bind h1).imp fun k S2 W2 H2 F2 R2 h2 y D2 => ⟨W2, ρ, S2, R2, (OutM.bind h2).imp fun q S3 W3 H3 F3 R3 h3 z D3 => ?_⟩⟩
      cases e : oTGet2 (dref S3 d) k q with
      | none => rw [e] at h3; exact False.elim h3
      | some z' =>
        rw [e] at h3
        have F23 := Fut.trans' F2 F3
        exact tget2D_of hn hm R3.w (DR.view R3.w R3.s (DR.later (by decide) F23 D1)) rfl (DV.mono F3.hf F3.ad D2) D3 e fun W' H' v F k r => h3 W' H' F (k _ _ R3) v (DR.older (fun a o ha => (Fut.trans' F1 F23).dom a o ha) r)
    · rw [if_neg c] at h1; exact False.elim h1⟩
theorem ds_tput {o e ix : Expr} {fo fi fe : SE} {tpos pos : Pos} (hn : NoT X.K) (hu : X.A.units + 65 < cLine) (ho : DE X ca H0 Wx .frz o fo) (hi : DE X ca H0 Wx .frz ix fi) (he : DE X ca H0 Wx .frz e fe)
    (ha : ∀ v, assign (.Subscript o ix tpos) X.env v = (do
      let ov ← holding [v] (eval o X.env)
      let iv ← holding [v, ov] (eval ix X.env)
      standAt tpos
      holding [v, ov, iv] (setItem ov iv v)
      release [v, ov, iv] []) := by intro _; rfl)
    (hs : swapsWithSole [.Subscript o ix tpos] e pos.line X.env = pure false := by rfl) (hw : swappedStores [.Subscript o ix tpos] e X.env = pure none := by rfl)
    (h1 : (assignEach [.Subscript o ix tpos] X.env).map (·.2) = [assign (.Subscript o ix tpos) X.env] := by rfl) :
    DS X ca H0 Wx mr (.Assign [.Subscript o ix tpos] e pos) (bTPut fo fi fe) := by
  refine PS.imp (ps_asg he (pg_sub ho hi (set_dict (by omega)) ha) hs hw h1) fun D σ H ⟨W, ρ, S, R, o⟩ => ⟨W, ρ, S, R, (OutS.bind R o).imp fun d S1 W1 H1 F1 R1 h v Dv => ⟨W1, ρ, S1, R1, (OutS.bind R1 h).imp fun x S2 W2 H2 F2 R2 h2 u Du => ?_⟩⟩
  cases e0 : asObj x with
  | none => simp only [e0] at h2; exact False.elim h2
  | some n =>
    simp only [e0] at h2
    rw [asObj_eq e0] at Du
    obtain ⟨a, rfl, ha⟩ := DV.ofObj Du
    refine ⟨W2, ρ, S2, R2, (OutS.bind R2 h2).imp fun k S3 W3 H3 F3 R3 h3 y Dy => ?_⟩
    cases e2 : stT S3 n with
    | none => simp only [e2] at h3; exact False.elim h3
    | some l =>
      simp only [e2] at h3
      cases e3 : kyT k with
      | none => simp only [e3] at h3; exact False.elim h3
      | some kk =>
        simp only [e3] at h3
        by_cases hz : l.length < sizeLine
        · rw [if_pos hz] at h3
          obtain ⟨b0, rfl, hb0⟩ := kyT_v hn e3 Dy
          obtain ⟨b, g1, g2, kvs, g3, g4⟩ := R3.s.at_ n _ (stT_eq e2)
          have hb : b = a := by rw [F3.ad n a ha] at g1; exact (Option.some.inj g1).symm
          subst hb
          have Fv := Fut.trans' F2 F3
          refine ⟨b, _, rfl, DPut.t g3 (R3.w.sub _ _ hb0) (by rw [g4.len]; exact hz), ?_⟩
          exact h3 W3 _ _ (FutG.mut (by rw [g2]; rfl)) (R3.mutObj (List.getElem?_eq_some_iff.mp (stT_eq e2)).1 g1 g2 (fun _ z => by cases z) ⟨_, upd_same, DTs.put (DV.mono Fv.hf Fv.ad Dv) g4⟩)
        · rw [if_neg hz] at h3; exact False.elim h3
end
def tChain3 (r r' r'' : R2) (ta tb tc td : TE) : TE := fun σ H Q => ta σ H fun x H1 => tb σ H1 fun y H2 => r x y H2 fun z H3 => ∃ k, z = .bl k ∧
  (if k = true then tc σ H3 fun w' H4 => r' y w' H4 fun z2 H5 => ∃ k2, z2 = .bl k2 ∧ (if k2 = true then td σ H5 fun u' H6 => r'' w' u' H6 Q else Q (.bl false) H5) else Q (.bl false) H3)
section
variable {X : Cx} {a b c d : Expr} {ta tb tc td : TE} {pos : Pos}
theorem pt_chain3 {op op' op'' : CmpOp} {r r' r'' : R2} (ho : OpR X (compareOp op) r) (ho' : OpR X (compareOp op') r') (ho'' : OpR X (compareOp op'') r'') (ha : PE X a ta) (hb : PE X b tb) (hc : PE X c tc) (hd : PE X d td)
    (hm : lastMarks [op, op', op''] [b, c, d] = false := by with_unfolding_all rfl) : PT X (.Compare a [op, op', op''] [b, c, d] pos) (tTest (tChain3 r r' r'' ta tb tc td)) := by
  refine ⟨fun pins s σ H Q I h => ?_⟩
  refine isTrue_chain (thn (ha.run pins s σ H _ I h) fun v s1 ⟨x, H1, I1, r1, q1⟩ => test_link (thn (hb.run pins s1 σ H1 _ I1 q1) fun u s2 ⟨y, H2, I2, r2, q2⟩ =>
    thn (ho pins s2 σ H2 x y v u _ I2 r1 r2 q2) fun d s3 ⟨z, H3, I3, r3, k, e, q3⟩ => ?_)) hm
  subst e
  cases r3
  refine wpAny_truthy_bool ?_
  cases k with
  | false =>
    obtain ⟨k', e', q'⟩ := q3
    cases e'
    exact ite_ff ⟨H3, I3, q'⟩
  | true =>
    refine ite_tt (test_link (thn (hc.run pins s3 σ H3 _ I3 q3) fun w' s4 ⟨z', H4, I4, r4, q4⟩ => thn (ho' pins s4 σ H4 y z' u w' _ I4 r2 r4 q4) fun d' s5 ⟨z2, H5, I5, r5, k2, e2, q5⟩ => ?_))
    subst e2
    cases r5
    refine wpAny_truthy_bool ?_
    cases k2 with
    | false =>
      obtain ⟨k', e', q'⟩ := q5
      cases e'
      exact ite_ff ⟨H5, I5, q'⟩
    | true =>
      refine ite_tt (test_last (thn (hd.run pins s5 σ H5 _ I5 q5) fun w2 s6 ⟨z3, H6, I6, r6, q6⟩ => thn (ho'' pins s6 σ H6 z' z3 w' w2 _ I6 r4 r6 q6) fun d2 s7 ⟨z4, H7, I7, r7, k3, e3, q7⟩ => ?_))
      subst e3
      cases r7
      exact wpAny_truthy_bool ⟨H7, I7, q7⟩
end
def sChain3 (o o' o'' : D → D → Option D) (fa fb fc fd : SE) : SE := fun ρ => mb (fa ρ) fun x => mb (fb ρ) fun y => mb (fun S => mo (o (dref S x) (dref S y)) S) fun z => mb (mo (dBl z)) fun k =>
  if k = true then mb (fc ρ) fun w => mb (fun S => mo (o' (dref S y) (dref S w)) S) fun z2 => mb (mo (dBl z2)) fun k2 =>
    if k2 = true then mb (fd ρ) fun u S => mo (o'' (dref S w) (dref S u)) S else mp (.bl false)
  else mp (.bl false)
section
variable {X : Cx} {ca : Ca} {H0 : Bs} {Wx : WX}
theorem chain3_of {r r' r'' : R2} {o o' o'' : D → D → Option D} {fa fb fc fd : SE} {m : Md}
    (h2 : ∀ W H S x y dx dy d Q, WOk W H → RepS X.K ca W H S → CV X.K ca W H x dx → CV X.K ca W H y dy → o dx dy = some d → FinR X.K ca H0 .frz W H S d Q → r x y H Q)
    (h2' : ∀ W H S x y dx dy d Q, WOk W H → RepS X.K ca W H S → CV X.K ca W H x dx → CV X.K ca W H y dy → o' dx dy = some d → FinR X.K ca H0 .frz W H S d Q → r' x y H Q)
    (h2'' : ∀ W H S x y dx dy d Q, WOk W H → RepS X.K ca W H S → CV X.K ca W H x dx → CV X.K ca W H y dy → o'' dx dy = some d → FinR X.K ca H0 m W H S d Q → r'' x y H Q) {σ : L2.St} {H : Hp} {Q : VK}
    (h : tE X.K ca H0 Wx m (sChain3 o o' o'' fa fb fc fd) σ H Q) : tChain3 r r' r'' (tE X.K ca H0 Wx .bor fa) (tE X.K ca H0 Wx .bor fb) (tE X.K ca H0 Wx .bor fc) (tE X.K ca H0 Wx .bor fd) σ H Q := by
  obtain ⟨W, ρ, S, R, h⟩ := h
  refine ⟨W, ρ, S, R, (OutM.bind h).imp fun dx S1 W1 H1 F1 R1 h1 x D1 => ⟨W1, ρ, S1, R1, (OutM.bind h1).imp fun dy S2 W2 H2 F2 R2 h3 y D2 => ?_⟩⟩
  have D1' := DR.later (by decide) F2 D1
  have c1 := DR.view R2.w R2.s D1'
  have c2 := DR.view R2.w R2.s D2
  have h4 := OutM.bind h3
  cases e : o (dref S2 dx) (dref S2 dy) with
  | none => rw [e] at h4; exact False.elim h4
  | some d =>
    rw [e] at h4
    refine h2 W2 H2 S2 x y _ _ d _ R2.w R2.s c1 c2 e fun W3 H3 v F3 k3 r3 => ?_
    have R3 := k3 _ _ R2
    have h5 := OutM.bind (h4 W3 H3 F3 R3)
    cases d with
    | bl b =>
      refine ⟨b, DV.ofBl r3, ?_⟩
      have h6 := h5 W3 H3 (FutG.refl _ _) R3
      cases b with
      | false => exact iteF (h6 W3 H3 (FutG.refl _ _) R3 _ (DR.scal rfl (.bl false)))
      | true =>
        refine iteT ⟨W3, ρ, S2, R3, (OutM.bind h6).imp fun dw S4 W4 H4 F4 R4 h7 w' D4 => ?_⟩
        have F34 := Fut.trans' F3 F4
        have D2' := DR.later (by decide) F34 D2
        have c3 := DR.view R4.w R4.s D2'
        have c4 := DR.view R4.w R4.s D4
        have h8 := OutM.bind h7
        cases e' : o' (dref S4 dy) (dref S4 dw) with
        | none => rw [e'] at h8; exact False.elim h8
        | some d' =>
          rw [e'] at h8
          refine h2' W4 H4 S4 y w' _ _ d' _ R4.w R4.s c3 c4 e' fun W5 H5 v5 F5 k5 r5 => ?_
          have R5 := k5 _ _ R4
          have h9 := OutM.bind (h8 W5 H5 F5 R5)
          cases d' with
          | bl b2 =>
            refine ⟨b2, DV.ofBl r5, ?_⟩
            have h10 := h9 W5 H5 (FutG.refl _ _) R5
            cases b2 with
            | false => exact iteF (h10 W5 H5 (FutG.refl _ _) R5 _ (DR.scal rfl (.bl false)))
            | true =>
              refine iteT ⟨W5, ρ, S4, R5, (OutM.bind h10).imp fun du S6 W6 H6 F6 R6 h11 u' D6 => ?_⟩
              have D4' := DR.later (by decide) (Fut.trans' F5 F6) D4
              have c5 := DR.view R6.w R6.s D4'
              have c6 := DR.view R6.w R6.s D6
              cases e'' : o'' (dref S6 dw) (dref S6 du) with
              | none => rw [e''] at h11; exact False.elim h11
              | some d'' =>
                rw [e''] at h11
                exact h2'' W6 H6 S6 w' u' _ _ d'' Q R6.w R6.s c5 c6 e'' fun W' H' v F k r => h11 W' H' F (k _ _ R6) v (DR.older (fun a o ha => (Fut.trans' (Fut.trans' (Fut.trans' F1 F2) F34) (Fut.trans' F5 F6)).dom a o ha) r)
          | _ => exact False.elim h9
    | _ => exact False.elim h5
theorem dt_chain3 {op op' op'' : CmpOp} {o o' o'' : D → D → Option D} {a b c d : Expr} {fa fb fc fd : SE} {pos : Pos} (ho : OpD X ca H0 .frz (compareOp op) o) (ho' : OpD X ca H0 .frz (compareOp op') o') (ho'' : OpD X ca H0 .frz (compareOp op'') o'') (ha : DE X ca H0 Wx .bor a fa) (hb : DE X ca H0 Wx .bor b fb) (hc : DE X ca H0 Wx .bor c fc) (hd : DE X ca H0 Wx .bor d fd)
    (hm : lastMarks [op, op', op''] [b, c, d] = false := by with_unfolding_all rfl) : DT X ca H0 Wx (.Compare a [op, op', op''] [b, c, d] pos) (sBl (sChain3 o o' o'' fa fb fc fd)) := by
  obtain ⟨r, h1, h2⟩ := ho
  obtain ⟨r', h1', h2'⟩ := ho'
  obtain ⟨r'', h1'', h2''⟩ := ho''
  exact PT.imp (pt_chain3 h1 h1' h1'' ha hb hc hd hm) fun σ H Q h => chain3_of h2 h2' h2'' (test_of h)
end
@[simp] theorem sTGet2_e (fo fi fz : SE) (ρ : Rho) (S : Sto) : sTGet2 fo fi fz ρ S = mb (fo ρ) (fun o S1 => if isDt (dref S1 o) = true then mb (fi ρ) (fun k => mb (fz ρ) fun z S => mo (oTGet2 (dref S o) k z) S) S1 else none) S := rfl
@[simp] theorem bTPut_e (fo fi fe : SE) (ρ : Rho) (S : Sto) : bTPut fo fi fe ρ S = sb (fe ρ) ρ (fun d => sb (fo ρ) ρ fun o S => match asObj o with
  | none => none
  | some n => sb (fi ρ) ρ (fun k S => match stT S n with
    | none => none
    | some l => match kyT k with
      | none => none
      | some kk => if l.length < sizeLine then some (.nx ρ, S.set n (.dT (pK l kk d))) else none) S) S := rfl
@[simp] theorem sChain3_e (o o' o'' : D → D → Option D) (fa fb fc fd : SE) (ρ : Rho) (S : Sto) : sChain3 o o' o'' fa fb fc fd ρ S = mb (fa ρ) (fun x => mb (fb ρ) fun y => mb (fun S => mo (o (dref S x) (dref S y)) S) fun z => mb (mo (dBl z)) fun k =>
  if k = true then mb (fc ρ) fun w => mb (fun S => mo (o' (dref S y) (dref S w)) S) fun z2 => mb (mo (dBl z2)) fun k2 =>
    if k2 = true then mb (fd ρ) fun u S => mo (o'' (dref S w) (dref S u)) S else mp (.bl false)
  else mp (.bl false)) S := rfl
end DL
namespace DL
open PySem PySem.Spec PyProof.Rows L2
section
variable {X : Cx} {ta : TE} {o : Expr} {f : Str} {pos : Pos}
end
def bPutA (tb : List Str) (f : Str) (fo : SE) (d : D) (k : SS) : SS := fun ρ => sb (fo ρ) ρ fun o S => match asObj o with
  | none => none
  | some n => match stI S n with
    | none => none
    | some z => if tb.contains z.1 = true ∧ z.2.length < 1000 then k ρ (S.set n (.ins z.1 (putD f d z.2))) else none
def bFld2 (tb1 : List Str) (f1 : Str) (fo1 : SE) (tb2 : List Str) (f2 : Str) (fo2 : SE) (fe : SE) : SS := fun ρ => sb (fe ρ) ρ fun d S => match d with
  | .tup [d1, d2] => bPutA tb1 f1 fo1 d1 (bPutA tb2 f2 fo2 d2 fun ρ S => some (.nx ρ, S)) ρ S
  | _ => none
section
variable {X : Cx} {ca : Ca} {H0 : Bs} {Wx : WX} {mr m : Md}
end
@[simp] theorem bPutA_e (tb : List Str) (f : Str) (fo : SE) (d : D) (k : SS) (ρ : Rho) (S : Sto) : bPutA tb f fo d k ρ S = sb (fo ρ) ρ (fun o S => match asObj o with
  | none => none
  | some n => match stI S n with
    | none => none
    | some z => if tb.contains z.1 = true ∧ z.2.length < 1000 then k ρ (S.set n (.ins z.1 (putD f d z.2))) else none) S := rfl
@[simp] theorem bFld2_e (tb1 : List Str) (f1 : Str) (fo1 : SE) (tb2 : List Str) (f2 : Str) (fo2 fe : SE) (ρ : Rho) (S : Sto) : bFld2 tb1 f1 fo1 tb2 f2 fo2 fe ρ S = sb (fe ρ) ρ (fun d S => match d with
  | .tup [d1, d2] => bPutA tb1 f1 fo1 d1 (bPutA tb2 f2 fo2 d2 fun ρ S => some (.nx ρ, S)) ρ S
  | _ => none) S := rfl
end DL
namespace DL
open PySem PySem.Spec PyProof.Rows L2
section
variable {K : PySem.W.Frag} {ca : Ca} {H0 : Bs} {H H' H1 : Hp} {W W' W1 : Wd} {σ : L2.St} {ρ : Rho} {S S' : Sto} {a : Addr} {o : HO}
end
def lcIn (tgt : D → Rho → Option Rho) (fe : SE) (ρ : Rho) : List D → List D → M (List D)
  | out, [] => mp out
  | out, d :: r => match tgt d ρ with
    | none => mf
    | some ρ1 => mb (mq (fe ρ1)) fun y => if out.length < sizeLine then lcIn tgt fe ρ (out ++ [y]) r else mf
def lcOut (tgt : D → Rho → Option Rho) (src1 : SA) (vs1 : List Nat) (tgt1 : D → Rho → Option Rho) (fe : SE) (ρ : Rho) : List D → List D → M D
  | out, [] => mp (.lst out)
  | out, d :: r => match tgt d ρ with
    | none => mf
    | some ρ1 => mb (mq (src1 ρ1)) fun ds => mb (lcIn tgt1 fe (wipeR ρ1 vs1) out ds) fun out' => lcOut tgt src1 vs1 tgt1 fe ρ out' r
def sLc2 (vs vs1 : List Nat) (src : SA) (tgt : D → Rho → Option Rho) (src1 : SA) (tgt1 : D → Rho → Option Rho) (fe : SE) : SE := fun ρ => mb (src ρ) fun ds => lcOut tgt src1 vs1 tgt1 fe (wipeR ρ vs) [] ds
section
variable {X : Cx} {ca : Ca} {H0 : Bs} {Wx : WX} {mr m : Md} {vs vs1 : List Nat}
end
@[simp] theorem sLc2_e (vs vs1 : List Nat) (src : SA) (tgt : D → Rho → Option Rho) (src1 : SA) (tgt1 : D → Rho → Option Rho) (fe : SE) (ρ : Rho) (S : Sto) : sLc2 vs vs1 src tgt src1 tgt1 fe ρ S = mb (src ρ) (fun ds => lcOut tgt src1 vs1 tgt1 fe (wipeR ρ vs) [] ds) S := rfl
end DL
namespace DL
open PySem PySem.Spec PyProof.Rows L2
section
variable {X : Cx}
def rST (X : Cx) : List V → Hp → VK → Prop := fun vs H Q => ∃ (d : Addr) (kvs : List (List Key × V)) (ds : List PyData), vs = [.ref d] ∧ Rd H d (.dT kvs) ∧ (∀ bs, IsKeys H kvs bs → DpAll X.K H (bs.map V.ref) ds) ∧ PySem.W.KeyRows ds ∧ (∀ d, d ∈ ds → X.A.units + 2 + d.depth < cLine) ∧
  ∀ p bs, H p = none → IsKeys H kvs bs → Q (.ref p) (upd H p (.lst (sortK (bs.map V.ref) ds)))
theorem cr_sortT (hc : X.calm = true) : CallR X (.builtin "sorted") (rST X) := by
  intro pins s σ H vs us Q I r h
  obtain ⟨d, kvs, ds, rfl, hd, hdp, hp, hu, q⟩ := h
  rw [Vals.ref1 r]
  obtain ⟨z, lo, ks, pr, o, es, ep, ho, hx, hdt, he, hn⟩ := (show ObjOk X.prog X.w H s.heap d (.dT kvs) from hd.ok I.hok)
  have l1 : es.size = ks.length := size_of_entries he
  have l2 : kvs.length = ks.length := Paired.length pr
  have h16 : es.size ≤ sizeLine := by omega
  refine Calls.call_function_entry PyProof.Rows.kind_sorted PyProof.Rows.plain_sorted PyProof.Rows.entry_sorted (PyProof.Rows.args_sorted1 _) ?_
  unfold Builtin.«sorted»
  refine wpAny_bind (m := checkCount "sorted" 1 1 _) (wpAny_pure ?_)
  refine wpAny_bind (PySem.W.kdu_collect (A := X.A.in1) (kdl_raw lo hx hdt) (I.ok.hd hc) ho h16 fun h' tk acc hk hacc => ?_)
  have ea : acc.toList = ks.map fun x => Value.ref x.2.1 := by
    have hl : acc.toList.length = ks.length := by rw [Array.length_toList, hacc.1]; exact l1
    apply List.ext_getElem?
    intro j
    rw [List.getElem?_map]
    cases hj : acc.toList[j]? with
    | none =>
      have h1 := List.getElem?_eq_none_iff.mp hj
      rw [List.getElem?_eq_none (by omega)]
      all_goals rfl
    | some v =>
      obtain ⟨en, hen, hv⟩ := hacc.2 j v (by rw [← Array.getElem?_toList]; exact hj)
      have qe := entry_at he j
      rw [hen] at qe
      cases hb : ks[j]? with
      | none =>
        rw [hb] at qe
        exact nomatch (show some en = none from qe)
      | some b =>
        rw [hb] at qe
        have e2 : en = entryOfKey (tupleKind (mixKind X.prog X.w)) b := Option.some.inj qe
        rw [hv, e2]
        all_goals rfl
  have eb : acc.toList = (ks.map fun x => x.2.1).map Value.ref := by rw [ea, List.map_map]; all_goals rfl
  have ik : IsKeys H kvs (ks.map fun x => x.2.1) := isKeys_of pr
  generalize (ks.map fun x => x.2.1) = bs at *
  have rv : Vals (bs.map V.ref) acc.toList := by rw [eb]; exact vals_refs _
  have hz : acc.toList.length ≤ sizeLine := by rw [Array.length_toList, hacc.1]; omega
  have I1 : Inv X pins σ H { s with heap := h', toks := tk } := I.kept hk
  generalize acc.toList = its at *
  refine wpAny_bind (wpAny_newList ?_ hz)
  have hoL : (h'.push (seqObj "list" its.toArray 0)).get? h'.objs.size = some (seqObj "list" its.toArray 0) := Heap.get?_push_size _ rfl
  show wpAny _ _ _ _ _ { s with heap := h'.push (seqObj "list" its.toArray 0), toks := tk }
  have old : ∀ b o, h'.get? b = some o → (PySem.W.sortingHeap (h'.push (seqObj "list" its.toArray 0)) h'.objs.size its).get? b = some o := fun b o e =>
    PySem.W.sortingHeap_old (Nat.ne_of_lt (Heap.lt_size e)) (Heap.get?_push_of_some _ e)
  have I2 : Inv X pins σ H { s with heap := PySem.W.sortingHeap (h'.push (seqObj "list" its.toArray 0)) h'.objs.size its, toks := tk } := I1.kept (t' := tk) old
  obtain ⟨as, ra⟩ := Dp.readsAll I2 ds (bs.map V.ref) its (hdp bs ik) rv
  have er := each_reads ra
  have hxl : (bs.map V.ref).length = ds.length := by rw [rv.length]; exact er.length
  obtain ⟨z1, z2⟩ := each_zipR hp rv er (fun _ h => h) hxl
  have z3 := vals_fst (PySem.W.sortVals_each (κ := PySem.W.dataKind (PySem.W.sortingHeap (h'.push (seqObj "list" its.toArray 0)) h'.objs.size its) ds) (rev := false) (fun b : V × PyData => PySem.W.keyToks b.2) z1 z2)
  refine wpAny_bind (wpAny_holding (wpAny_call_entry PyProof.Rows.slot_list_sort ⟨_, hoL, rfl⟩ PyProof.Rows.entry_list_sort
    (PySem.W.list_sort_vals (s := { s with heap := h'.push (seqObj "list" its.toArray 0), toks := tk }) hoL (PySem.W.sortsAt_rows (A := X.A.in1.in1) (s := { s with heap := PySem.W.sortingHeap (h'.push (seqObj "list" its.toArray 0)) h'.objs.size its, toks := tk }) er hp (fun d hd => hu d hd)) hz ⟨_, rfl, ?_⟩)
    (PyProof.Rows.args_list_sort _)))
  obtain ⟨e', he'⟩ := PyProof.Rows.sortedHeap_at (vs := its) (out := (PySem.W.sortVals (PySem.W.dataKind (PySem.W.sortingHeap (h'.push (seqObj "list" its.toArray 0)) h'.objs.size its) ds) false its its).toArray) hoL
  refine wpAny_pure ⟨_, rfl, .ref h'.objs.size, upd H h'.objs.size (.lst (sortK (bs.map V.ref) ds)), I1.laid (t' := tk) (fun b u e => ?_) (Nat.le_refl _)
    (show ObjOk X.prog X.w _ _ _ (.lst (sortK (bs.map V.ref) ds)) from ⟨?_, _, e', z3, he'⟩), rfl, q _ _ (I1.hok.fresh (Nat.le_refl _)) ik⟩
  · have hb : b < h'.objs.size := Heap.lt_size e
    rw [PyProof.Rows.sortedHeap_old (Nat.ne_of_lt hb) (by rw [size_push']; exact Nat.lt_succ_of_lt hb)]
    exact Heap.get?_push_of_some _ e
  · unfold sortK
    rw [List.length_map, List.length_mergeSort, List.length_zip, ← hxl, Nat.min_self, rv.length]
    exact hz
end
def kD : Key → D
  | .inl i => .int i
  | .inr x => .str x
def tkD (k : List Key) : D := .tup (k.map kD)
noncomputable def oSortT : List D → Option D
  | [.dT es] => cif (RowsOk (es.map fun p => tkD p.1)) (some (.lst (sortD (es.map fun p => tkD p.1) (es.map fun p => tkD p.1)))) none
  | _ => none
theorem oSortT_of {es : List (List Key × D)} (h : RowsOk (es.map fun p => tkD p.1)) : oSortT [.dT es] = some (.lst (sortD (es.map fun p => tkD p.1) (es.map fun p => tkD p.1))) := cif_pos h
section
variable {X : Cx} {ca : Ca} {H0 : Bs} {m : Md}
theorem keys_dvs {K : PySem.W.Frag} {h : Hp} {ad : Nat → Option Addr} : ∀ k : List Key, DVs K ca h ad (k.map kV) (k.map kD)
  | [] => .nil
  | .inl i :: r => .cons (.int i) (keys_dvs r)
  | .inr x :: r => .cons (.str x) (keys_dvs r)
theorem iskeys_dvs {K : PySem.W.Frag} {W : Wd} {H : Hp} (w : WOk W H) : ∀ {kvs : List (List Key × V)} {es : List (List Key × D)} {bs : List Addr}, DTs K ca W.hf W.ad kvs es → IsKeys H kvs bs → DVs K ca W.hf W.ad (bs.map V.ref) (es.map fun p => tkD p.1)
  | _, _, _, .nil, q => by cases q; exact .nil
  | _, _, _, .cons c r, q => by
    cases q with
    | cons e t => exact .cons (DV.tup (.inl (w.tup _ _ e)) (keys_dvs _)) (iskeys_dvs w r t)
theorem cd_sortT (hc : X.calm = true) (hu : X.A.units + 65 < cLine) : CallD X ca H0 m (.builtin "sorted") oSortT := ⟨_, cr_sortT hc, fun W H S xs ds d Q w s c e F => by
  match ds, c, e with
  | [.dT l], c, e =>
    obtain ⟨v, rfl, a, kvs, rfl, h1, r⟩ := c.one
    have e : cif (RowsOk (l.map fun p => tkD p.1)) (some (D.lst (sortD (l.map fun p => tkD p.1) (l.map fun p => tkD p.1)))) none = some d := e
    by_cases hk : RowsOk (l.map fun p => tkD p.1)
    · rw [cif_pos hk] at e
      cases e
      refine ⟨a, kvs, pys (l.map fun p => tkD p.1), rfl, .inl h1, fun bs ik => dps_of w.sub (iskeys_dvs w r ik) hk.1, hk.2.1, fun d hd => ?_, fun p bs hn ik => FinR.lst F w (sort_dvs (iskeys_dvs w r ik) rfl) p hn⟩
      have := hk.2.2 d hd
      omega
    · rw [cif_neg hk] at e; cases e⟩
end
end DL
namespace DL
open PySem PySem.Spec PyProof.Rows L2
def oTIx (o k : D) : Option D := match o with
  | .dT es => (kyT k).bind (gK es)
  | _ => none
def sTIx (fo fi : SE) : SE := fun ρ => mb (fo ρ) fun o => mb (fi ρ) fun k S => mo (oTIx (dref S o) k) S
section
variable {X : Cx} {ca : Ca} {H0 : Bs} {Wx : WX} {mr m : Md}
theorem de_tkix {a b : Expr} {fa fb : SE} {pos : Pos} (hn : NoT X.K) (hu : X.A.units + 65 < cLine) (hm : m ≠ .fre) (ha : DE X ca H0 Wx .bor a fa) (hb : DE X ca H0 Wx .frz b fb) (hs : NoSl b := by intro _ _; rfl) : DE X ca H0 Wx m (.Subscript a b pos) (sTIx fa fb) :=
  PE.imp (pe_dget (by omega) ha hb hs) fun σ H Q ⟨W, ρ, S, R, h⟩ => ⟨W, ρ, S, R, (OutM.bind h).imp fun d S1 W1 H1 F1 R1 h1 x D1 => ⟨W1, ρ, S1, R1, (OutM.bind h1).imp fun k S2 W2 H2 F2 R2 h2 y D2 => by
    cases e : oTIx (dref S2 d) k with
    | none => rw [e] at h2; exact False.elim h2
    | some z =>
      rw [e] at h2
      have cx := DR.view R2.w R2.s (DR.later (by decide) F2 D1)
      generalize dref S2 d = o at *
      cases o with
      | dT es =>
        obtain ⟨kk, e1, e2⟩ := Option.bind_eq_some_iff.mp (show (kyT k).bind (gK es) = some z from e)
        obtain ⟨b, rfl, hb⟩ := kyT_v hn e1 D2
        obtain ⟨a', kvs, rfl, h1, r⟩ := cx
        obtain ⟨u, g1, g2⟩ := r.get e2
        have F : FinR X.K ca H0 m W2 H2 S2 z Q := fun W' H' v F k r => h2 W' H' F (k _ _ R2) v (DR.older (fun a o ha => (Fut.trans' F1 F2).dom a o ha) r)
        have gg := DGet.t h1 (R2.w.sub _ _ hb)
        rw [g1] at gg
        exact ⟨a', u, rfl, gg, F.dv hm R2.w g2⟩
      | _ => cases e⟩⟩
end
@[simp] theorem sTIx_e (fo fi : SE) (ρ : Rho) (S : Sto) : sTIx fo fi ρ S = mb (fo ρ) (fun o => mb (fi ρ) fun k S => mo (oTIx (dref S o) k) S) S := rfl
end DL
namespace DL
open PySem PySem.Spec PyProof.Rows L2
def lcJ (n : Nat) (tgt : D → Rho → Option Rho) (fe : SE) (ρ : Rho) : Nat → Nat → List D → M (List D)
  | 0, _, _ => mf
  | k + 1, i, out => fun S => match stL S n with
    | none => none
    | some l => match l[i]? with
      | none => some (.ok out, S)
      | some d => match tgt d ρ with
        | none => none
        | some ρ1 => mb (mq (fe ρ1)) (fun y => if out.length < sizeLine then lcJ n tgt fe ρ k (i + 1) (out ++ [y]) else mf) S
def lcP (tgt : D → Rho → Option Rho) (fo1 : SE) (vs1 : List Nat) (tgt1 : D → Rho → Option Rho) (fe : SE) (ρ : Rho) : List D → List D → M D
  | out, [] => mp (.lst out)
  | out, d :: r => match tgt d ρ with
    | none => mf
    | some ρ1 => mb (mq (fo1 ρ1)) fun o S => match asObj o with
      | none => none
      | some n => match stL S n with
        | none => none
        | some l => mb (lcJ n tgt1 fe (wipeR ρ1 vs1) (l.length + 1) 0 out) (fun out' => lcP tgt fo1 vs1 tgt1 fe ρ out' r) S
def sLc2O (vs vs1 : List Nat) (src : SA) (tgt : D → Rho → Option Rho) (fo1 : SE) (tgt1 : D → Rho → Option Rho) (fe : SE) : SE := fun ρ => mb (src ρ) fun ds => lcP tgt fo1 vs1 tgt1 fe (wipeR ρ vs) [] ds
section
variable {X : Cx} {ca : Ca} {H0 : Bs} {Wx : WX} {mr m : Md} {vs vs1 : List Nat}
theorem lc2O_of {K : PySem.W.Frag} {src : SA} {fo1 : SE} {tgt tgt1 : D → Rho → Option Rho} {fe : SE} {σ : L2.St} {H : Hp} {Q : VK} (h : tE K ca H0 Wx m (sLc2O vs vs1 src tgt fo1 tgt1 fe) σ H Q) :
    tLc2 (tI K ca H0 Wx src) (tGw K ca H0 vs tgt) (tT K ca H0 Wn sYes) (tIO K ca H0 Wn itId fo1) (tGw K ca H0 vs1 tgt1) (tT K ca H0 Wn sYes) (tE K ca H0 Wn .frz fe) vs vs1 σ H Q := by
  obtain ⟨W, ρ, S, R, h⟩ := h
  refine ⟨W, ρ, S, R, (OutM.bind h).imp fun ds S1 W1 H1 F1 R1 h1 J y D hD => ?_⟩
  have h00 : H0 D = none := none_of_dom R1.h0 hD
  refine ⟨fun i mm H' => mm = ds.length - i ∧ ∃ W' S' acc out, Fut W1 H1 W' H' ∧ Rep K ca H0 W' H' σ ρ S' ∧ W'.hf D = none ∧ W'.ow D = none ∧ H' D = some (.lst acc) ∧ DVs K ca W'.hf W'.ad acc out ∧
    OutM K ca H0 Wx W1 ρ σ H1 (lcP tgt fo1 vs1 tgt1 fe (wipeR ρ vs) out (ds.drop i) S') (fun d _ W'' H'' => ∀ v, DR K ca m H W'' H'' v d → Q v H''), ?_, ?_⟩
  · obtain ⟨f1, f2⟩ := R1.w.free hD
    exact ⟨ds.length, by simp, W1, S1, [], [], Fut.laid R1.w hD, R1.laid hD (fun _ z => by cases z), f1, f2, upd_same, .nil, by rw [List.drop_zero]; exact h1⟩
  rintro i m' H2 ⟨rfl, W2, S2, acc, out, F2, R2, d1, d2, d3, q, h2⟩
  obtain ⟨y1, y2⟩ := y i W2 H2 (Fut.s F2 R1.h0) R2.w
  by_cases hi : i < ds.length
  · have e1 : ds[i]? = some ds[i] := by simp [hi]
    obtain ⟨go, y3⟩ := y1 _ e1
    rw [List.drop_eq_getElem_cons hi] at h2
    refine .inr ⟨go, fun H' => ∃ W' S' acc out, Fut W1 H1 W' H' ∧ Rep K ca H0 W' H' σ ρ S' ∧ W'.hf D = none ∧ W'.ow D = none ∧ H' D = some (.lst acc) ∧ DVs K ca W'.hf W'.ad acc out ∧
      OutM K ca H0 Wx W1 ρ σ H1 (lcP tgt fo1 vs1 tgt1 fe (wipeR ρ vs) out (ds.drop (i + 1)) S') (fun d _ W'' H'' => ∀ v, DR K ca m H W'' H'' v d → Q v H''), fun H' n => ⟨_, by omega, rfl, n⟩, fun x H3 yl => ?_⟩
    obtain ⟨W3, F3, R3, qx⟩ := y3 x H3 yl σ ρ S2 R2
    obtain ⟨g1, g2, g3⟩ := Fut.free F3 d1 d2 d3
    have F13 := Fut.trans' F2 F3
    unfold lcP at h2
    cases et : tgt ds[i] (wipeR ρ vs) with
    | none => simp only [et] at h2; exact False.elim h2
    | some ρ1 =>
      simp only [et] at h2
      refine ⟨W3, wipeR ρ vs, S2, _, ρ1, R3.wipe vs, qx, et, fun σ2 z2 RR => ⟨by rw [z2, wipe_idem], W3, ρ1, S2, RR, ?_⟩⟩
      have q3 := q.mono F3.hf F3.ad
      intro W4 H4 F4 R4
      obtain ⟨k1, k2, k3⟩ := Fut.free F4 g3 g2 g1
      have F14 := Fut.trans' F13 F4
      have R4' := R3.ofFut F4 R4.w R4.s
      have q4 := q3.mono F4.hf F4.ad
      rw [if_pos rfl]
      refine ⟨W4, ρ1, S2, R4, ?_⟩
      unfold mb mq at h2
      cases e2 : fo1 ρ1 S2 with
      | none => simp only [e2] at h2; exact False.elim h2
      | some r =>
        obtain ⟨r, S3⟩ := r
        cases r with
        | error z => simp only [e2] at h2; exact False.elim h2
        | ok o =>
          simp only [e2] at h2
          cases eo : asObj o with
          | none => simp only [eo] at h2; exact False.elim h2
          | some n =>
          simp only [eo] at h2
          cases hl0 : stL S3 n with
          | none => simp only [hl0] at h2; exact False.elim h2
          | some l0 =>
          simp only [hl0] at h2
          intro W5 H5 F5 R5
          obtain ⟨a, ha, _⟩ := R5.s.at_ n _ (stL_eq hl0)
          refine ⟨n, a, l0, eo, hl0, ha, fun J1 y5 => ?_⟩
          obtain ⟨j1, j2, j3⟩ := Fut.free F5 k3 k2 k1
          have F15 := Fut.trans' F14 F5
          have R5' := R4'.ofFut F5 R5.w R5.s
          have q5 := q4.mono F5.hf F5.ad
          refine ⟨fun j mm H' => ∃ W' S' acc out, Fut W1 H1 W' H' ∧ W'.ad n = some a ∧ Rep K ca H0 W' H' σ ρ S' ∧ Rep K ca H0 W' H' σ2 ρ1 S' ∧ W'.hf D = none ∧ W'.ow D = none ∧ H' D = some (.lst acc) ∧ DVs K ca W'.hf W'.ad acc out ∧
            OutM K ca H0 Wx W1 ρ σ H1 (mb (lcJ n tgt1 fe (wipeR ρ1 vs1) mm j out) (fun out' => lcP tgt fo1 vs1 tgt1 fe (wipeR ρ vs) out' (ds.drop (i + 1))) S') (fun d _ W'' H'' => ∀ v, DR K ca m H W'' H'' v d → Q v H''),
            ⟨l0.length + 1, W5, S3, acc, out, F15, ha, R5', R5, j3, j2, j1, q5, h2⟩, ?_⟩
          rintro j mm H6 ⟨W6, S6, acc6, out6, F6, A6, R6, P6, t3, t2, t1, q6, h6⟩
          cases mm with
          | zero => exact False.elim h6
          | succ mm =>
          unfold mb lcJ at h6
          cases el : stL S6 n with
          | none => simp only [el] at h6; exact False.elim h6
          | some l =>
          simp only [el] at h6
          obtain ⟨b, u1, u2, us, u3, u4⟩ := P6.s.at_ n _ (stL_eq el)
          have hb : b = a := by rw [A6] at u1; exact (Option.some.inj u1).symm
          subst hb
          obtain ⟨x1, x2⟩ := y5 j H6 us u3
          cases ed : l[j]? with
          | none =>
            simp only [ed] at h6
            exact .inl ⟨x2 (by rw [u4.length]; exact List.getElem?_eq_none_iff.mp ed), W6, S6, acc6, out6, F6, R6, t3, t2, t1, q6, h6⟩
          | some d =>
            simp only [ed] at h6
            obtain ⟨v0, e3, qv⟩ := u4.get ed
            obtain ⟨go1, x3⟩ := x1 v0 e3
            refine .inr ⟨go1, fun H' => ∃ W' S' acc out, Fut W1 H1 W' H' ∧ W'.ad n = some b ∧ Rep K ca H0 W' H' σ ρ S' ∧ Rep K ca H0 W' H' σ2 ρ1 S' ∧ W'.hf D = none ∧ W'.ow D = none ∧ H' D = some (.lst acc) ∧ DVs K ca W'.hf W'.ad acc out ∧
              OutM K ca H0 Wx W1 ρ σ H1 (mb (lcJ n tgt1 fe (wipeR ρ1 vs1) mm (j + 1) out) (fun out' => lcP tgt fo1 vs1 tgt1 fe (wipeR ρ vs) out' (ds.drop (i + 1))) S') (fun d _ W'' H'' => ∀ v, DR K ca m H W'' H'' v d → Q v H''), fun H' n' => ⟨mm, by omega, n'⟩, fun x H7 yl => ?_⟩
            obtain ⟨W7, F7, P7, qx1⟩ := x3 x H7 yl W6 σ2 ρ1 S6 d P6 qv
            obtain ⟨a1, a2, a3⟩ := Fut.free F7 t3 t2 t1
            have R7 := R6.ofFut F7 P7.w P7.s
            have q7 := q6.mono F7.hf F7.ad
            have F17 := Fut.trans' F6 F7
            cases et1 : tgt1 d (wipeR ρ1 vs1) with
            | none => simp only [et1] at h6; exact False.elim h6
            | some ρ2 =>
              simp only [et1] at h6
              refine ⟨W7, wipeR ρ1 vs1, S6, _, ρ2, P7.wipe vs1, qx1, et1, fun σ3 z3 RR1 => ⟨by rw [z3, wipe_idem], W7, ρ2, S6, RR1, ?_⟩⟩
              intro W8 H8 F8 R8
              obtain ⟨b1, b2, b3⟩ := Fut.free F8 a3 a2 a1
              rw [if_pos rfl]
              refine ⟨W8, ρ2, S6, R8, ?_⟩
              unfold mb mq at h6
              cases e3 : fe ρ2 S6 with
              | none => simp only [e3] at h6; exact False.elim h6
              | some r =>
                obtain ⟨r, S7⟩ := r
                cases r with
                | error z => simp only [e3] at h6; exact False.elim h6
                | ok y =>
                  simp only [e3] at h6
                  intro W9 H9 F9 R9 v Dv
                  obtain ⟨c1, c2, c3⟩ := Fut.free F9 b3 b2 b1
                  by_cases hz : out6.length < sizeLine
                  · rw [if_pos hz] at h6
                    have F79 := F8.trans' F9
                    have q9 := q7.mono F79.hf F79.ad
                    have R9a := (R7.ofFut F79 R9.w R9.s).mutFree (o := .lst (acc6 ++ [v])) h00 c3 c2 ⟨_, c1⟩ (fun _ z => by cases z)
                    have R9b := (P7.ofFut F79 R9.w R9.s).mutFree (o := .lst (acc6 ++ [v])) h00 c3 c2 ⟨_, c1⟩ (fun _ z => by cases z)
                    exact ⟨acc6, c1, by rw [q9.length]; exact hz, W9, S7, acc6 ++ [v], out6 ++ [y], Fut.mutNew (Fut.trans' F17 F79) hD, F79.ad n _ (F7.ad n _ A6), R9a, R9b, c3, c2, upd_same, q9.app (.cons Dv .nil), h6⟩
                  · rw [if_neg hz] at h6; exact False.elim h6
  · rw [List.drop_eq_nil_of_le (by omega)] at h2
    refine .inl ⟨y2 (by omega), ?_⟩
    have h3 : ∀ W' H', Fut W1 H1 W' H' → Rep K ca H0 W' H' σ ρ S2 → ∀ v, DR K ca m H W' H' v (.lst out) → Q v H' := h2
    have hH : H D = none := none_of_dom F1.dom hD
    cases m with
    | frz => exact h3 (W2.fz D (.lst acc)) H2 ((F2.trans (FutG.fz d1 hD))) (R2.fz d3 d1 d2) (.ref D) (DV.lst upd_same (q.mono (same_upd d1) fun _ _ h => h))
    | bor => exact h3 W2 H2 F2 R2 (.ref D) ⟨D, acc, rfl, d3, by rw [d2]; rfl, q⟩
    | sta => exact h3 W2 H2 F2 R2 (.ref D) ⟨D, acc, rfl, d3, by rw [d2]; rfl, q⟩
    | fre => exact h3 W2 H2 F2 R2 (.ref D) ⟨D, acc, rfl, hH, d1, d2, d3, q⟩
theorem de_lc2O {elt tg iter tg1 iter1 : Expr} {scope : Scope} {own : List (Str × Nat)} {pos : Pos} {src : SA} {fo1 : SE} {tgt tgt1 : D → Rho → Option Rho} {fe : SE} (hc : X.calm = true) (hN : X.N.Nodup) (hi : DI X ca H0 Wx tg iter src) (ok : BlkOk X.N X.env.scope scope own) (hv : ∀ i ∈ vs1, i ∈ own.map (·.2))
    (hg : ∀ (s : Shared) (H : Hp) (C : Addr) (cl : List (Str × Addr)) (fp : List Addr), DGw (X.blk s H scope (compEnvC scope cl C X.env) fp) ca H0 (own.map (·.2)) tg tgt)
    (hi1 : ∀ (s : Shared) (H : Hp) (C : Addr) (cl : List (Str × Addr)) (fp : List Addr), PI (X.blk s H scope (compEnvC scope cl C X.env) fp) tg1 iter1 (tIO X.K ca H0 Wn itId fo1))
    (hg1 : ∀ (s : Shared) (H : Hp) (C : Addr) (cl : List (Str × Addr)) (fp : List Addr), DGw (X.blk s H scope (compEnvC scope cl C X.env) fp) ca H0 vs1 tg1 tgt1)
    (he : ∀ (s : Shared) (H : Hp) (C : Addr) (cl : List (Str × Addr)) (fp : List Addr), DE (X.blk s H scope (compEnvC scope cl C X.env) fp) ca H0 Wn .frz elt fe) (hs : ∀ x, foldedSetIterable iter X.env x = pure x := by intro _; rfl) (hs1 : ∀ env x, foldedSetIterable iter1 env x = pure x := by intro _ _; rfl) :
    DE X ca H0 Wx m (.ListComp elt [⟨tg, iter, [], 0⟩, ⟨tg1, iter1, [], 0⟩] scope pos) (sLc2O (own.map (·.2)) vs1 src tgt fo1 tgt1 fe) :=
  PE.imp (pe_lc2 hc hN hi ok hv hg (fun s H C cl fp => dts_nil) hi1 hg1 (fun s H C cl fp => dts_nil) he hs hs1) fun σ H Q h => lc2O_of h
end
@[simp] theorem sLc2O_e (vs vs1 : List Nat) (src : SA) (tgt : D → Rho → Option Rho) (fo1 : SE) (tgt1 : D → Rho → Option Rho) (fe : SE) (ρ : Rho) (S : Sto) : sLc2O vs vs1 src tgt fo1 tgt1 fe ρ S = mb (src ρ) (fun ds => lcP tgt fo1 vs1 tgt1 fe (wipeR ρ vs) [] ds) S := rfl
end DL
namespace G
open PySem DL L2
def d__law_cell : List D := []
noncomputable def b__law_cell : SS := (bSeq (bIf (sBl (sBin oLtX (sVarB 1) (sCall oLen (sCons (sVarB 0) sNil)))) (bRet (sBin oIx (sVarB 0) (sVarB 1))) bNil)
    (bRet (cI 0)))
noncomputable def f__law_cell : Sem1 := semB [false, false] 2 b__law_cell
def d__law_draw : List D := []
noncomputable def b__law_draw : SS := (bSeq (bSet 2 (sBin oIx (sVarB 0) (cI 1)))
    (bSeq (bSetIxO (sVar 0) (cI 1) (sBin oAdd (sVarB 2) (cI 1)))
    (bSeq (bIf (sBl (sBin oLtX (sVarB 2) (sCall oLen (sCons (sBin oIx (sVarB 0) (cI 0)) sNil)))) (bRet (sBin oMod (sCall oInt (sCons (sBin oIx (sBin oIx (sVarB 0) (cI 0)) (sVarB 2)) sNil)) (sVarB 1))) bNil)
    (bRet (sBin oMod (sCall oInt (sCons (sBin oAdd (sBin oMul (sVarB 2) (cI 7)) (cI 3)) sNil)) (sVarB 1))))))
noncomputable def f__law_draw : Sem1 := semB [true, false] 3 b__law_draw
def d__law_digits : List D := []
noncomputable def l0__law_digits : SS := (bIf (sBl (sBin oGt (sVarB 5) (cI 0))) (bSeq (bMut 3 uAppend (sCons (sBin oMod (sCall oInt (sCons (sVarB 5) sNil)) (cI 1000)) sNil))
    (bSet 5 (sBin oDiv (sVarB 5) (cI 1000)))) bNil)
noncomputable def l1__law_digits : SS := (bSeq (bSet 7 (sBin oMod (sCall oInt (sCons (sBin oAdd (sBin oAdd (sBin oMul (sVarB 7) (cI 40014)) (sBin oMul (cI 5) (sVarB 6))) (cI 3)) sNil)) (cI 2147483563)))
    (bMut 3 uAppend (sCons (sBin oMod (sCall oInt (sCons (sBin oDiv (sVarB 7) (cI 1009)) sNil)) (cI 1000)) sNil)))
noncomputable def l2__law_digits : SS := (bSeq (bSet 5 (sCallU f__law_cell (d__law_cell.drop 0) (sCons (sVarB 0) (sCons (sVarB 4) sNil))))
    (bSeq (bIf (sBl (sBin oLtX (sVarB 5) (cI 0))) (bSet 5 (sBin oSub (cI 1) (sBin oMul (cI 2) (sVarB 5)))) bNil)
    (bIf (sBl (sBin oGe (sVarB 5) (cI 1000000000000000000))) (bFor (sRng (sCons (cI 60) sNil)) (tgName 6) l0__law_digits) (bSeq (bSet 7 (sBin oMod (sCall oInt (sCons (sBin oAdd (sBin oAdd (sBin oMul (sVarB 5) (cI 40692)) (sBin oMul (sVarB 4) (cI 52774))) (cI 17)) sNil)) (cI 2147483399)))
    (bFor (sRng (sCons (cI 12) sNil)) (tgName 6) l1__law_digits)))))
noncomputable def b__law_digits : SS := (bSeq (bSetOwn 3 (sLst sNil))
    (bSeq (bFor (sRng (sCons (sVar 1) (sCons (sVar 2) sNil))) (tgName 4) l2__law_digits)
    (bFz 3 (bRet (sVar 3)))))
noncomputable def f__law_digits : Sem1 := semB [false, false, false] 8 b__law_digits
theorem draw_ex {ds : List Int} {p : Int} {tl : Sto} {m : Int} (h0 : 0 ≤ p) (hm : 0 < m) : ∃ r, f__law_draw [.obj 0, .int m] (bx ds p :: tl) = some (.ok (.int r), bx ds (p + 1) :: tl) ∧ 0 ≤ r ∧ r < m := by
  by_cases h : p < ds.length
  · obtain ⟨k, hk⟩ := atI_int (ds := ds) h0 h
    refine ⟨k % m, ?_, Int.emod_nonneg _ (by omega), Int.emod_lt_of_pos _ hm⟩
    simp [f__law_draw, b__law_draw, h, hm, hk]
  · refine ⟨(p * 7 + 3) % m, ?_, Int.emod_nonneg _ (by omega), Int.emod_lt_of_pos _ hm⟩
    simp [f__law_draw, b__law_draw, h, hm, cMul_r]
theorem dig1 {s0 s1 s2 s4 s7 : Sl} {S : Sto} : ∀ (L : List D) (ds : List Int) (c : Int) (s6 : Sl), unlk (some s6) = true → ds.length + L.length ≤ 1000000 → ∃ (ds' : List Int) (c' : Int) (s6' : Sl), unlk (some s6') = true ∧ forD (tgName 6) l0__law_digits L [s0, s1, s2, .own (.lst (ds.map .int)), s4, .val (.int c), s6, s7] S =
      some (.nx [s0, s1, s2, .own (.lst (ds'.map .int)), s4, .val (.int c'), s6', s7], S) ∧ ds'.length ≤ ds.length + L.length
  | [], ds, c, s6, h6, _ => ⟨ds, c, s6, h6, by simp, by simp⟩
  | d :: L, ds, c, s6, h6, hl => by
    rw [List.length_cons] at hl
    by_cases h : 0 < c
    · obtain ⟨ds', c', s6', u, e, l⟩ := dig1 L (ds ++ [c % 1000]) (c / 1000) (.val d) rfl (by rw [List.length_append, List.length_singleton]; omega)
      refine ⟨ds', c', s6', u, ?_, by rw [List.length_append, List.length_singleton] at l; rw [List.length_cons]; omega⟩
      have a := app_l (l := ds.map D.int) (d := .int (c % 1000)) (by rw [List.length_map]; omega)
      rw [List.map_append] at e
      simp [l0__law_digits, h6, h, a]
      exact e
    · obtain ⟨ds', c', s6', u, e, l⟩ := dig1 L ds c (.val d) rfl (by omega)
      refine ⟨ds', c', s6', u, ?_, by rw [List.length_cons]; omega⟩
      simp [l0__law_digits, h6, h]
      exact e
theorem dig2 {s0 s1 s2 s4 s5 : Sl} {S : Sto} : ∀ (L : List D) (ds : List Int) (c : Int) (s6 : Sl), unlk (some s6) = true → (∀ d ∈ L, ∃ k : Int, d = .int k) → ds.length + L.length ≤ 1000000 → ∃ (ds' : List Int) (c' : Int) (s6' : Sl), unlk (some s6') = true ∧ forD (tgName 6) l1__law_digits L [s0, s1, s2, .own (.lst (ds.map .int)), s4, s5, s6, .val (.int c)] S =
      some (.nx [s0, s1, s2, .own (.lst (ds'.map .int)), s4, s5, s6', .val (.int c')], S) ∧ ds'.length ≤ ds.length + L.length
  | [], ds, c, s6, h6, _, _ => ⟨ds, c, s6, h6, by simp, by simp⟩
  | d :: L, ds, c, s6, h6, hd, hl => by
    rw [List.length_cons] at hl
    obtain ⟨k, rfl⟩ := hd d List.mem_cons_self
    obtain ⟨ds', c', s6', u, e, l⟩ := dig2 L (ds ++ [(c * 40014 + 5 * k + 3) % 2147483563 / 1009 % 1000]) ((c * 40014 + 5 * k + 3) % 2147483563) (.val (.int k)) rfl (fun d h => hd d (List.mem_cons_of_mem _ h)) (by rw [List.length_append, List.length_singleton]; omega)
    refine ⟨ds', c', s6', u, ?_, by rw [List.length_append, List.length_singleton] at l; rw [List.length_cons]; omega⟩
    have a := app_l (l := ds.map D.int) (d := .int ((c * 40014 + 5 * k + 3) % 2147483563 / 1009 % 1000)) (by rw [List.length_map]; omega)
    have m1 : cMul c 40014 = true := cMul_r (by decide) (by decide)
    have m2 : cMul 5 k = true := cMul_l (by decide) (by decide)
    rw [List.map_append] at e
    simp [l1__law_digits, h6, a, m1, m2]
    exact e
theorem cell_ex {ns : List Int} {k : Int} {S : Sto} (h0 : 0 ≤ k) : ∃ c, f__law_cell [.rol (ns.map .int), .int k] S = some (.ok (.int c), S) := by
  by_cases h : k < ns.length
  · obtain ⟨c, hc⟩ := atI_int (ds := ns) h0 h
    exact ⟨c, by simp [f__law_cell, b__law_cell, h, hc]⟩
  · exact ⟨0, by simp [f__law_cell, b__law_cell, h]⟩
theorem dig3 {ns : List Int} {s1 s2 : Sl} {S : Sto} : ∀ (L : List D) (ds : List Int) (s4 s5 s6 s7 : Sl), unlk (some s4) = true → unlk (some s5) = true → unlk (some s6) = true → unlk (some s7) = true → (∀ d ∈ L, ∃ k : Int, d = .int k ∧ 0 ≤ k) → ds.length + 60 * L.length ≤ 100000 →
    ∃ (ds' : List Int) (s4' s5' s6' s7' : Sl), forD (tgName 4) l2__law_digits L [.bo (.rol (ns.map .int)), s1, s2, .own (.lst (ds.map .int)), s4, s5, s6, s7] S = some (.nx [.bo (.rol (ns.map .int)), s1, s2, .own (.lst (ds'.map .int)), s4', s5', s6', s7'], S)
  | [], ds, s4, s5, s6, s7, _, _, _, _, _, _ => ⟨ds, s4, s5, s6, s7, by simp⟩
  | d :: L, ds, s4, s5, s6, s7, h4, h5, h6, h7, hd, hl => by
    rw [List.length_cons] at hl
    obtain ⟨k, rfl, k0⟩ := hd d List.mem_cons_self
    obtain ⟨c, ec⟩ := cell_ex (ns := ns) (S := S) k0
    have r60 : oRng [.int 60] = some (dRng 0 60) := rng_1 (by decide) (by decide)
    have r12 : oRng [.int 12] = some (dRng 0 12) := rng_1 (by decide) (by decide)
    have go : ∀ c' : Int, ∃ (ds' : List Int) (s5' s6' s7' : Sl), unlk (some s5') = true ∧ unlk (some s6') = true ∧ unlk (some s7') = true ∧ ds'.length ≤ ds.length + 60 ∧ bIf (sBl (sBin oGe (sVarB 5) (cI 1000000000000000000))) (bFor (sRng (sCons (cI 60) sNil)) (tgName 6) l0__law_digits) (bSeq (bSet 7 (sBin oMod (sCall oInt (sCons (sBin oAdd (sBin oAdd (sBin oMul (sVarB 5) (cI 40692)) (sBin oMul (sVarB 4) (cI 52774))) (cI 17)) sNil)) (cI 2147483399)))
        (bFor (sRng (sCons (cI 12) sNil)) (tgName 6) l1__law_digits)) [.bo (.rol (ns.map .int)), s1, s2, .own (.lst (ds.map .int)), .val (.int k), .val (.int c'), s6, s7] S = some (.nx [.bo (.rol (ns.map .int)), s1, s2, .own (.lst (ds'.map .int)), .val (.int k), s5', s6', s7'], S) := fun c' => by
      by_cases hb : 1000000000000000000 ≤ c'
      · obtain ⟨ds', c2, s6', u, e, l⟩ := dig1 (s0 := .bo (.rol (ns.map .int))) (s1 := s1) (s2 := s2) (s4 := .val (.int k)) (s7 := s7) (S := S) (dRng 0 60) ds c' s6 h6 (by rw [dRng_len]; omega)
        rw [dRng_len] at l
        exact ⟨ds', .val (.int c2), s6', s7, rfl, u, h7, l, by simp [hb, r60]; exact e⟩
      · obtain ⟨ds', c2, s6', u, e, l⟩ := dig2 (s0 := .bo (.rol (ns.map .int))) (s1 := s1) (s2 := s2) (s4 := .val (.int k)) (s5 := .val (.int c')) (S := S) (dRng 0 12) ds ((c' * 40692 + k * 52774 + 17) % 2147483399) s6 h6 (fun d h => by obtain ⟨j, e, _⟩ := dRng_mem h; exact ⟨j, e⟩) (by rw [dRng_len]; omega)
        rw [dRng_len] at l
        have m1 : cMul c' 40692 = true := cMul_r (by decide) (by decide)
        have m2 : cMul k 52774 = true := cMul_r (by decide) (by decide)
        exact ⟨ds', .val (.int c'), s6', .val (.int c2), rfl, u, rfl, by omega, by simp [hb, r12, h7, m1, m2]; exact e⟩
    have m3 : ∀ c, cMul 2 c = true := fun c => cMul_l (by decide) (by decide)
    have st : ∃ (ds' : List Int) (s5' s6' s7' : Sl), unlk (some s5') = true ∧ unlk (some s6') = true ∧ unlk (some s7') = true ∧ ds'.length ≤ ds.length + 60 ∧ l2__law_digits [.bo (.rol (ns.map .int)), s1, s2, .own (.lst (ds.map .int)), .val (.int k), s5, s6, s7] S = some (.nx [.bo (.rol (ns.map .int)), s1, s2, .own (.lst (ds'.map .int)), .val (.int k), s5', s6', s7'], S) := by
      by_cases hn : c < 0
      · obtain ⟨ds', s5', s6', s7', u5, u6, u7, l, e⟩ := go (1 - 2 * c)
        exact ⟨ds', s5', s6', s7', u5, u6, u7, l, by simp [l2__law_digits, d__law_cell, ec, h5, hn, m3] at e ⊢; exact e⟩
      · obtain ⟨ds', s5', s6', s7', u5, u6, u7, l, e⟩ := go c
        exact ⟨ds', s5', s6', s7', u5, u6, u7, l, by simp [l2__law_digits, d__law_cell, ec, h5, hn] at e ⊢; exact e⟩
    obtain ⟨ds1, s51, s61, s71, u5, u6, u7, l, e⟩ := st
    obtain ⟨ds', s4', s5', s6', s7', e2⟩ := dig3 L ds1 (.val (.int k)) s51 s61 s71 rfl u5 u6 u7 (fun d h => hd d (List.mem_cons_of_mem _ h)) (by omega)
    refine ⟨ds', s4', s5', s6', s7', ?_⟩
    rw [forD_c]
    simp only [tgName_e, List.getElem?_cons_succ, List.getElem?_cons_zero, h4, if_true, List.set_cons_succ, List.set_cons_zero, e]
    exact e2
theorem digits_ex {ns : List Int} {S : Sto} : ∃ ds : List Int, f__law_digits [.rol (ns.map .int), .int 0, .int 63] S = some (.ok (.lst (ds.map .int)), S) := by
  obtain ⟨ds', s4', s5', s6', s7', e⟩ := dig3 (ns := ns) (s1 := .bo (.int 0)) (s2 := .bo (.int 63)) (S := S) (dRng 0 63) [] .no .no .no .no rfl rfl rfl rfl (fun d h => by obtain ⟨j, e, h0, _⟩ := dRng_mem h; exact ⟨j, e, h0⟩) (by rw [dRng_len]; decide)
  have r : oRng [.int 0, .int 63] = some (dRng 0 63) := rng_2 (by decide) (by decide) (by decide) (by decide)
  refine ⟨ds', ?_⟩
  have e' : forD (tgName 4) l2__law_digits (dRng 0 63) [.bo (.rol (ns.map .int)), .bo (.int 0), .bo (.int 63), .own (.lst []), .no, .no, .no, .no] S = _ := e
  unfold f__law_digits b__law_digits
  rw [semB_e]
  simp only [parSl_f, parSl_n, List.length_cons, List.length_nil, bSeq_e, bSetOwn_e, sLst_e, sNil_e, mb_e, mp_e, sb_e, bFor_e, sRng_e, sCons_e, sVar_e]
  simp [r, isCont, e', line_eq]
end G
namespace G
open PySem DL L2
theorem for1 {i : Nat} {b : SS} {d : D} {L : List D} {ρ ρ' : Rho} {S S' : Sto} (h1 : unlk ρ[i]? = true) (h2 : b (ρ.set i (.val d)) S = some (.nx ρ', S')) : forD (tgName i) b (d :: L) ρ S = forD (tgName i) b L ρ' S' := by
  rw [forD_c, tgName_e, if_pos h1]; simp only [h2]
theorem for1r {i : Nat} {b : SS} {d r : D} {L : List D} {ρ : Rho} {S S' : Sto} (h1 : unlk ρ[i]? = true) (h2 : b (ρ.set i (.val d)) S = some (.ret r, S')) : forD (tgName i) b (d :: L) ρ S = some (.ret r, S') := by
  rw [forD_c, tgName_e, if_pos h1]; simp only [h2]
theorem for1x {i : Nat} {b : SS} {d : D} {x : Xc} {L : List D} {ρ ρ' : Rho} {S S' : Sto} (h1 : unlk ρ[i]? = true) (h2 : b (ρ.set i (.val d)) S = some (.exc ρ' x, S')) : forD (tgName i) b (d :: L) ρ S = some (.exc ρ' x, S') := by
  rw [forD_c, tgName_e, if_pos h1]; simp only [h2]
theorem forT {t : D → Rho → Option Rho} {b : SS} {d : D} {L : List D} {ρ ρ1 ρ' : Rho} {S S' : Sto} (h1 : t d ρ = some ρ1) (h2 : b ρ1 S = some (.nx ρ', S')) : forD t b (d :: L) ρ S = forD t b L ρ' S' := by
  rw [forD_c, h1]; simp only [h2]
theorem forTr {t : D → Rho → Option Rho} {b : SS} {d r : D} {L : List D} {ρ ρ1 : Rho} {S S' : Sto} (h1 : t d ρ = some ρ1) (h2 : b ρ1 S = some (.ret r, S')) : forD t b (d :: L) ρ S = some (.ret r, S') := by
  rw [forD_c, h1]; simp only [h2]
def jn (c : Nat) : List (List Nat) → List Nat
  | [] => []
  | [a] => a
  | a :: b :: r => a ++ c :: jn c (b :: r)
theorem any_strs (t : Str) : ∀ l : List Str, ((l.map D.str).any fun e => eqF e (.str t)) = decide (t ∈ l)
  | [] => by simp
  | a :: r => by
    rw [List.map_cons, List.any_cons, any_strs t r]
    show ((a == t) || decide (t ∈ r)) = _
    by_cases h : a = t
    · subst h; simp
    · have h2 : ¬ t = a := fun e => h e.symm
      simp [h, h2]
theorem flat_strs (l : List Str) : (l.map D.str).all flatD = true := by
  rw [List.all_eq_true]; intro d hd; obtain ⟨t, _, rfl⟩ := List.mem_map.mp hd; rfl
theorem in_strsT (neg : Bool) (t : Str) (l : List Str) : oIn neg (.str t) (.tup (l.map .str)) = some (.bl (if neg then !decide (t ∈ l) else decide (t ∈ l))) := by
  show (if (flatD (.str t) && (l.map D.str).all flatD) = true then some (D.bl (if neg then !((l.map D.str).any fun e => eqF e (.str t)) else (l.map D.str).any fun e => eqF e (.str t))) else none) = _
  rw [flat_strs, any_strs]; rfl
theorem set_get {ρ : Rho} {i : Nat} {x : Sl} (h : ρ[i]? = some x) : ρ.set i x = ρ := by
  obtain ⟨h1, h2⟩ := List.getElem?_eq_some_iff.mp h
  rw [← h2]; exact List.set_getElem_self h1
theorem get_set {ρ : Rho} {i : Nat} {x y : Sl} (h : ρ[i]? = some x) : (ρ.set i y)[i]? = some y := by
  obtain ⟨h1, _⟩ := List.getElem?_eq_some_iff.mp h
  simp [h1]
theorem for_all {i : Nat} {b : SS} {r : D} {S : Sto} (g : D → Bool) : ∀ (L : List D) (ρ : Rho) (x : U), ρ[i]? = some x.1 → (∀ d ∈ L, b (ρ.set i (.val d)) S = if g d = true then some (.nx (ρ.set i (.val d)), S) else some (.ret r, S)) →
    (L.all g = true → ∃ y : U, forD (tgName i) b L ρ S = some (.nx (ρ.set i y.1), S)) ∧ (L.all g = false → forD (tgName i) b L ρ S = some (.ret r, S))
  | [], ρ, x, hx, _ => ⟨fun _ => ⟨x, by rw [set_get hx]; simp⟩, fun h => by cases h⟩
  | d :: L, ρ, x, hx, hb => by
    have u : unlk ρ[i]? = true := by rw [hx]; exact x.2
    have h1 := hb d (by simp)
    obtain ⟨i1, i2⟩ := for_all g L (ρ.set i (.val d)) ⟨.val d, rfl⟩ (get_set hx) (fun e he => by rw [List.set_set]; exact hb e (List.mem_cons_of_mem _ he))
    cases hg : g d with
    | false =>
      rw [if_neg (by rw [hg]; decide)] at h1
      exact ⟨fun h => (by rw [List.all_cons, hg] at h; cases h), fun _ => for1r u h1⟩
    | true =>
      rw [if_pos hg] at h1
      refine ⟨fun h => ?_, fun h => ?_⟩
      · rw [List.all_cons, hg, Bool.true_and] at h
        obtain ⟨y, e⟩ := i1 h
        refine ⟨y, (for1 u h1).trans ?_⟩
        rw [e, List.set_set]
      · rw [List.all_cons, hg, Bool.true_and] at h
        exact (for1 u h1).trans (i2 h)
theorem beq_dec {α : Type} [BEq α] [LawfulBEq α] [DecidableEq α] (a b : α) : (a == b) = decide (a = b) := by
  by_cases h : a = b
  · subst h; simp
  · rw [beq_eq_false_iff_ne.mpr h, decide_eq_false h]
@[simp] theorem tgTup_t (n : Nat) (u : List D → Rho → Option Rho) (l : List D) (ρ : Rho) : tgTup n u (.tup l) ρ = if l.length = n then u l ρ else none := rfl
@[simp] theorem tgTup_l (n : Nat) (u : List D → Rho → Option Rho) (l : List D) (ρ : Rho) : tgTup n u (.lst l) ρ = if l.length = n then u l ρ else none := rfl
@[simp] theorem tgCons_c (t : D → Rho → Option Rho) (u : List D → Rho → Option Rho) (d : D) (r : List D) (ρ : Rho) : tgCons t u (d :: r) ρ = (t d ρ).bind (u r) := rfl
@[simp] theorem tgNil_n (ρ : Rho) : tgNil [] ρ = some ρ := rfl
theorem all_mem {α : Type} {p q : α → Bool} : ∀ {l : List α}, (∀ a ∈ l, p a = q a) → l.all p = l.all q
  | [], _ => rfl
  | a :: r, h => by rw [List.all_cons, List.all_cons, h a (by simp), all_mem fun x hx => h x (List.mem_cons_of_mem _ hx)]
end G
namespace G
open PySem DL L2
def c_NAME_MOST : D := (D.int (12))
def c_NAME_SIGNS : D := (D.str "abcdefghijklmnopqrstuvwxyz0123456789")
def d_is_name : List D := []
noncomputable def l0_is_name : SS := (bIf (sBl (sBin (oIn true) (sVarB 1) (cG c_NAME_SIGNS))) (bRet (cB false)) bNil)
noncomputable def b_is_name : SS := (bSeq (bIf (sNot (sBl (sChain oLe oLe (cI 1) (sCall oLen (sCons (sVarB 0) sNil)) (cG c_NAME_MOST)))) (bRet (cB false)) bNil)
    (bSeq (bFor (sItems (sVarS 0)) (tgName 1) l0_is_name)
    (bRet (cB true))))
noncomputable def f_is_name : Sem1 := semB [false] 2 b_is_name
def d_kind_of : List D := []
noncomputable def b_kind_of : SS := (bRet (sBin oIx (sM1 oSplit (sVar 0) (cS ":")) (cI 0)))
noncomputable def f_kind_of : Sem1 := semB [false] 1 b_kind_of
def d_is_rising : List D := []
noncomputable def l0_is_rising : SS := (bIf (sBl (sBin oGe (sVarB 1) (sVarB 2))) (bRet (cB false)) bNil)
noncomputable def b_is_rising : SS := (bSeq (bFor (sZipA (sCons (sVarS 0) (sCons (sSl (sVarB 0) (sPart (cI 1)) sNo) sNil))) (tgTup 2 (tgCons (tgName 1) (tgCons (tgName 2) tgNil))) l0_is_rising)
    (bRet (cB true)))
noncomputable def f_is_rising : Sem1 := semB [false] 3 b_is_rising
def d_is_uid : List D := []
noncomputable def b_is_uid : SS := (bSeq (bSet 1 (sM1 oSplit (sVar 0) (cS ":")))
    (bRet (sAndV (sBin dEq (sCall oLen (sCons (sVarB 1) sNil)) (cI 2)) (sAndV (sCallU f_is_name (d_is_name.drop 0) (sCons (sBin oIx (sVarB 1) (cI 0)) sNil)) (sCallU f_is_name (d_is_name.drop 0) (sCons (sBin oIx (sVarB 1) (cI 1)) sNil))))))
noncomputable def f_is_uid : Sem1 := semB [false] 2 b_is_uid
def d_check_name : List D := [(D.str "name")]
noncomputable def b_check_name : SS := (bIf (sNot (sTru (sCallU f_is_name (d_is_name.drop 0) (sCons (sVarB 0) sNil)))) (bRaise "OutOfRange" ["name"] (sCons (sVar 1) sNil)) bNil)
noncomputable def f_check_name : Sem1 := semB [false, false] 2 b_check_name
def AB : Str := "abcdefghijklmnopqrstuvwxyz0123456789"
theorem AB_hi : ∀ c ∈ cs AB, c < 128 := by decide +kernel
theorem zc : (Str.ofString ":") = ⟨#[58]⟩ := by decide +kernel
theorem zcl : ((Str.ofString ":")).length = 1 := by decide +kernel
theorem z0 : ((Str.ofString "")).length = 0 := by decide +kernel
def isN (t : Str) : Bool := decide (1 ≤ t.length ∧ t.length ≤ 12) && t.cps.toList.all fun c => decide (c ∈ AB.cps.toList)
theorem isN_iff {t : Str} : isN t = true ↔ (1 ≤ t.length ∧ t.length ≤ 12) ∧ ∀ c ∈ cs t, c ∈ cs AB := by
  unfold isN
  rw [Bool.and_eq_true, List.all_eq_true, decide_eq_true_iff]
  constructor
  · exact fun h => ⟨h.1, fun c hc => of_decide_eq_true (h.2 c hc)⟩
  · exact fun h => ⟨h.1, fun c hc => decide_eq_true (h.2 c hc)⟩
theorem isN_ok {t : Str} (h : isN t = true) : PyData.strOk t = true := ok_cs fun c hc => by
  have := AB_hi c ((isN_iff.mp h).2 c hc); omega
def isU (t : Str) : Bool := match Txt.split t ":" with
  | [a, b] => isN a && isN b
  | _ => false
def uid (a b : Str) : Str := a ++ ⟨#[58]⟩ ++ b
theorem isU_parts {t : Str} (h : isU t = true) : ∃ a b, t = uid a b ∧ isN a = true ∧ isN b = true := by
  unfold isU at h
  split at h
  next a b e =>
    rw [Bool.and_eq_true] at h
    refine ⟨a, b, ?_, h.1, h.2⟩
    have z := StrLaws.join_split t (Str.ofString ":")
    rw [show Txt.split t (Str.ofString ":") = [a, b] from e] at z
    rw [← z, zc]; rfl
  next => cases h
theorem uid_len (a b : Str) : (uid a b).length = a.length + 1 + b.length := by unfold uid; rw [len_app, len_app, len_one]
theorem isU_len {t : Str} (h : isU t = true) : t.length ≤ 25 := by
  obtain ⟨a, b, rfl, ha, hb⟩ := isU_parts h
  have h1 := (isN_iff.mp ha).1
  have h2 := (isN_iff.mp hb).1
  rw [uid_len]; omega
theorem isU_ok {t : Str} (h : isU t = true) : PyData.strOk t = true := by
  obtain ⟨a, b, rfl, ha, hb⟩ := isU_parts h
  exact ok_app (ok_app (isN_ok ha) (by decide +kernel)) (isN_ok hb)
theorem loop_in {t : Str} {S : Sto} : ∀ (L : List Nat) (v : Sl), unlk (some v) = true → (L.all (fun c => decide (c ∈ AB.cps.toList)) = true → ∃ v', forD (tgName 1) l0_is_name (L.map fun c => .str ⟨#[c]⟩) [.bo (.str t), v] S = some (.nx [.bo (.str t), v'], S)) ∧
    (L.all (fun c => decide (c ∈ AB.cps.toList)) = false → forD (tgName 1) l0_is_name (L.map fun c => .str ⟨#[c]⟩) [.bo (.str t), v] S = some (.ret (.bl false), S))
  | [], v, _ => ⟨fun _ => ⟨v, by simp⟩, fun h => by cases h⟩
  | c :: L, v, hv => by
    obtain ⟨i1, i2⟩ := loop_in (t := t) (S := S) L (.val (.str ⟨#[c]⟩)) rfl
    have e := in_s true c AB
    have c1 : (Str.ofString "abcdefghijklmnopqrstuvwxyz0123456789") = AB := rfl
    by_cases hc : c ∈ AB.cps.toList
    · refine ⟨fun h => ?_, fun h => ?_⟩
      · rw [List.all_cons, Bool.and_eq_true] at h
        obtain ⟨v', e1⟩ := i1 h.2
        exact ⟨v', by simp [l0_is_name, c_NAME_SIGNS, hv, e, hc, c1]; exact e1⟩
      · rw [List.all_cons, decide_eq_true hc, Bool.true_and] at h
        have e1 := i2 h
        simp [l0_is_name, c_NAME_SIGNS, hv, e, hc, c1]; exact e1
    · refine ⟨fun h => ?_, fun h => ?_⟩
      · rw [List.all_cons, decide_eq_false hc, Bool.false_and] at h; cases h
      · simp [l0_is_name, c_NAME_SIGNS, hv, e, hc, c1]
theorem name_eq {t : Str} {S : Sto} (h : t.length ≤ 16777216) : f_is_name [.str t] S = some (.ok (.bl (isN t)), S) := by
  have hl := len_s h
  have c1 : c_NAME_SIGNS = .str AB := rfl
  have c2 : c_NAME_MOST = .int 12 := rfl
  obtain ⟨i1, i2⟩ := loop_in (t := t) (S := S) t.cps.toList .no rfl
  unfold isN
  by_cases h1 : 1 ≤ t.length ∧ t.length ≤ 12
  · cases ha : t.cps.toList.all (fun c => decide (c ∈ AB.cps.toList)) with
    | true =>
      obtain ⟨v', e⟩ := i1 ha
      have g1 : (1 : Int) ≤ t.length := by omega
      have g2 : (t.length : Int) ≤ 12 := by omega
      simp [f_is_name, b_is_name, c1, c2, sChain, hl, h1, g1, g2]
      simp [e]
    | false =>
      have e := i2 ha
      have g1 : (1 : Int) ≤ t.length := by omega
      have g2 : (t.length : Int) ≤ 12 := by omega
      simp [f_is_name, b_is_name, c1, c2, sChain, hl, h1, g1, g2]
      simp [e]
  · rw [decide_eq_false h1, Bool.false_and]
    by_cases h2 : 1 ≤ t.length
    · have g1 : (1 : Int) ≤ t.length := by omega
      have g2 : ¬ (t.length : Int) ≤ 12 := by omega
      simp [f_is_name, b_is_name, c1, c2, sChain, hl, g1, g2]
    · have g1 : ¬ (1 : Int) ≤ t.length := by omega
      simp [f_is_name, b_is_name, c1, c2, sChain, hl, g1]
theorem uid_eq {t : Str} {S : Sto} (h : t.length ≤ 1000) : f_is_uid [.str t] S = some (.ok (.bl (isU t)), S) := by
  have e := sp_s (z := t) (b := ":") (by rw [zcl]; decide) (by omega)
  have hp : ∀ p ∈ Txt.split t ":", p.length ≤ 16777216 := fun p hp => by have := split_part hp; omega
  unfold isU
  match hs : Txt.split t ":", hp with
  | [], _ => rw [hs] at e; simp [f_is_uid, b_is_uid, e]
  | [a], _ => rw [hs] at e; simp [f_is_uid, b_is_uid, e]
  | [a, b], hp =>
    rw [hs] at e
    have e1 := name_eq (t := a) (S := S) (hp a (by simp))
    have e2 := name_eq (t := b) (S := S) (hp b (by simp))
    cases ha : isN a <;> simp [f_is_uid, b_is_uid, e, d_is_name, e1, e2, ha]
  | a :: b :: c :: r, _ =>
    rw [hs] at e
    have g : ¬ ((r.length : Int) + 1 + 1 + 1 = 2) := by omega
    simp [f_is_uid, b_is_uid, e, g]
theorem chkn_eq {t w : Str} {S : Sto} (h : t.length ≤ 1000) : f_check_name [.str t, .str w] S = if isN t = true then some (.ok .non, S) else some (.error ⟨"OutOfRange", some [("name", .str w)]⟩, S) := by
  have e := name_eq (t := t) (S := S) (by omega)
  cases hn : isN t <;> simp [f_check_name, b_check_name, d_is_name, e, hn]
theorem nodup_sub_len : ∀ {S l : List Str}, S.Nodup → (∀ t ∈ S, t ∈ l) → S.length ≤ l.length
  | [], _, _, _ => Nat.zero_le _
  | a :: S, l, h, hs => by
    obtain ⟨h1, h2⟩ := List.nodup_cons.mp h
    have ha : a ∈ l := hs a (by simp)
    have z := nodup_sub_len (l := l.erase a) h2 fun t ht => (List.mem_erase_of_ne (fun e => h1 (by rw [← e]; exact ht))).mpr (hs t (List.mem_cons_of_mem _ ht))
    rw [List.length_erase_of_mem ha] at z
    have : 0 < l.length := List.length_pos_of_mem ha
    rw [List.length_cons]; omega
structure Pool (many : Nat) (l : List Str) : Prop where
  len : l.length ≤ many
  nd : l.Nodup
  ok : ∀ t ∈ l, isN t = true
end G
namespace G
open PySem DL L2
def c_NUMBER_MOST : D := (D.int (1000000))
def c_SET_MOST : D := (D.int (8))
def c_TEXT_MOST : D := (D.int (40))
def c_UNFIT : D := (D.tup [(D.int (34)), (D.int (37))])
def d_is_text : List D := []
noncomputable def l0_is_text : SS := (bIf (sOr (sNot (sBl (sChain oLe oLe (cI 32) (sCall oOrd (sCons (sVarB 1) sNil)) (cI 126)))) (sBl (sBin (oIn false) (sCall oOrd (sCons (sVarB 1) sNil)) (cG c_UNFIT)))) (bRet (cB false)) bNil)
noncomputable def b_is_text : SS := (bSeq (bIf (sBl (sBin oGt (sCall oLen (sCons (sVarB 0) sNil)) (cG c_TEXT_MOST))) (bRet (cB false)) bNil)
    (bSeq (bFor (sItems (sVarS 0)) (tgName 1) l0_is_text)
    (bRet (cB true))))
noncomputable def f_is_text : Sem1 := semB [false] 2 b_is_text
def d_scalar_before : List D := []
noncomputable def b_scalar_before : SS := (bSeq (bIf (sBl (sBin dNe (sBin oIx (sVarB 0) (cI 0)) (sBin oIx (sVarB 1) (cI 0)))) (bRet (sBin oLtX (sTix ["truth", "number", "text", "entity"] (sCons (sBin oIx (sVarB 0) (cI 0)) sNil)) (sTix ["truth", "number", "text", "entity"] (sCons (sBin oIx (sVarB 1) (cI 0)) sNil)))) bNil)
    (bRet (sBin oLtX (sBin oIx (sVarB 0) (cI 1)) (sBin oIx (sVarB 1) (cI 1)))))
noncomputable def f_scalar_before : Sem1 := semB [false, false] 2 b_scalar_before
def d_is_scalar : List D := []
noncomputable def b_is_scalar : SS := (bSeq (bIf (sBl (sBin dEq (sBin oIx (sVarB 0) (cI 0)) (cS "number"))) (bRet (sChain oLe oLe (sNeg (cG c_NUMBER_MOST)) (sBin oIx (sVarB 0) (cI 1)) (cG c_NUMBER_MOST))) bNil)
    (bSeq (bIf (sBl (sBin dEq (sBin oIx (sVarB 0) (cI 0)) (cS "text"))) (bRet (sCallU f_is_text (d_is_text.drop 0) (sCons (sBin oIx (sVarB 0) (cI 1)) sNil))) bNil)
    (bSeq (bIf (sBl (sBin dEq (sBin oIx (sVarB 0) (cI 0)) (cS "entity"))) (bRet (sCallU f_is_uid (d_is_uid.drop 0) (sCons (sBin oIx (sVarB 0) (cI 1)) sNil))) bNil)
    (bRet (sBin dEq (sBin oIx (sVarB 0) (cI 0)) (cS "truth"))))))
noncomputable def f_is_scalar : Sem1 := semB [false] 1 b_is_scalar
def d_is_value : List D := []
noncomputable def l0_is_value : SS := (bIf (sNot (sTru (sCallU f_is_scalar (d_is_scalar.drop 0) (sCons (sVarB 1) sNil)))) (bRet (cB false)) bNil)
noncomputable def l1_is_value : SS := (bIf (sNot (sTru (sCallU f_scalar_before (d_scalar_before.drop 0) (sCons (sVarB 2) (sCons (sVarB 3) sNil))))) (bRet (cB false)) bNil)
noncomputable def b_is_value : SS := (bSeq (bIf (sBl (sBin dNe (sBin oIx (sVarB 0) (cI 0)) (cS "set"))) (bRet (sCallU f_is_scalar (d_is_scalar.drop 0) (sCons (sVarB 0) sNil))) bNil)
    (bSeq (bIf (sBl (sBin oGt (sCall oLen (sCons (sBin oIx (sVarB 0) (cI 1)) sNil)) (cG c_SET_MOST))) (bRet (cB false)) bNil)
    (bSeq (bFor (sItems (sBin oIx (sVarB 0) (cI 1))) (tgName 1) l0_is_value)
    (bSeq (bFor (sZipA (sCons (sBin oIx (sVarB 0) (cI 1)) (sCons (sSl (sBin oIx (sVarB 0) (cI 1)) (sPart (cI 1)) sNo) sNil))) (tgTup 2 (tgCons (tgName 2) (tgCons (tgName 3) tgNil))) l1_is_value)
    (bRet (cB true))))))
noncomputable def f_is_value : Sem1 := semB [false] 4 b_is_value
def d__law_alike : List D := []
noncomputable def b__law_alike : SS := (bRet (sBin dEq (sCall oReprD (sCons (sVarB 0) sNil)) (sCall oReprD (sCons (sVarB 1) sNil))))
noncomputable def f__law_alike : Sem1 := semB [false, false] 2 b__law_alike
theorem nat_of {a b : List Char} (h : a.map Char.toNat = b.map Char.toNat) : a = b := by
  induction a generalizing b with
  | nil => cases b with
    | nil => rfl
    | cons c r => cases h
  | cons c r ih =>
    cases b with
    | nil => cases h
    | cons d s =>
      simp only [List.map_cons, List.cons.injEq] at h
      rw [ih h.2, Char.ext (UInt32.toNat_inj.mp h.1)]
theorem ofStr_inj {a b : String} (h : Str.ofString a = Str.ofString b) : a = b := by
  rw [Str.ofString_eq_toList, Str.ofString_eq_toList] at h
  have h2 : a.toList.map Char.toNat = b.toList.map Char.toNat := by simpa using h
  exact String.toList_inj.mp (nat_of h2)
@[simp] theorem ofStr_eq (a b : String) : (Str.ofString a = Str.ofString b) = (a = b) := propext ⟨ofStr_inj, fun h => by rw [h]⟩
@[simp] theorem ofStr_beq (a b : String) : (Str.ofString a == Str.ofString b) = (a == b) := by
  by_cases h : a = b
  · rw [h]; simp
  · rw [beq_eq_false_iff_ne.mpr h, beq_eq_false_iff_ne.mpr fun e => h (ofStr_inj e)]
theorem strOk_lit (a : String) : PyData.strOk (Str.ofString a) = true := by
  rw [Str.ofString_eq_toList]
  refine ok_cs fun c hc => ?_
  have hc : c ∈ a.toList.map Char.toNat := by simpa using hc
  obtain ⟨x, _, rfl⟩ := List.mem_map.mp hc
  have := x.valid
  rcases this with h | h
  · have : x.toNat < 0xd800 := h
    omega
  · exact h.2
inductive Sc where
  | tr (b : Bool) | nu (i : Int) | tx (t : Str) | en (t : Str)
  deriving DecidableEq
def Sc.d : Sc → D
  | .tr b => .tup [.str "truth", .bl b]
  | .nu i => .tup [.str "number", .int i]
  | .tx t => .tup [.str "text", .str t]
  | .en t => .tup [.str "entity", .str t]
def Sc.kind : Sc → Str
  | .tr _ => "truth"
  | .nu _ => "number"
  | .tx _ => "text"
  | .en _ => "entity"
def Sc.rank : Sc → Nat
  | .tr _ => 0
  | .nu _ => 1
  | .tx _ => 2
  | .en _ => 3
def Sc.dat : Sc → D
  | .tr b => .bl b
  | .nu i => .int i
  | .tx t => .str t
  | .en t => .str t
def Sc.fine : Sc → Bool
  | .tx t => PyData.strOk t && decide (t.length ≤ 1000)
  | .en t => PyData.strOk t && decide (t.length ≤ 1000)
  | _ => true
def Sc.kl : Sc → List Int
  | .tr b => [0, if b then 1 else 0]
  | .nu i => [1, i]
  | .tx t => 2 :: (cs t).map Int.ofNat
  | .en t => 3 :: (cs t).map Int.ofNat
def Sc.lt (a b : Sc) : Bool := decide (a.kl < b.kl)
theorem map_nat_inj : ∀ {a b : List Nat}, a.map Int.ofNat = b.map Int.ofNat → a = b
  | [], [], _ => rfl
  | [], _ :: _, h => by cases h
  | _ :: _, [], h => by cases h
  | x :: a, y :: b, h => by
    simp only [List.map_cons, List.cons.injEq] at h
    rw [Int.ofNat.inj h.1, map_nat_inj h.2]
theorem Sc.kl_inj : ∀ {a b : Sc}, a.kl = b.kl → a = b
  | .tr x, .tr y, h => by cases x <;> cases y <;> simp [Sc.kl] at h <;> rfl
  | .nu x, .nu y, h => by simp [Sc.kl] at h; rw [h]
  | .tx x, .tx y, h => by
    have h : (2 : Int) :: (cs x).map Int.ofNat = 2 :: (cs y).map Int.ofNat := h
    rw [cs_inj (map_nat_inj (List.cons.inj h).2)]
  | .en x, .en y, h => by
    have h : (3 : Int) :: (cs x).map Int.ofNat = 3 :: (cs y).map Int.ofNat := h
    rw [cs_inj (map_nat_inj (List.cons.inj h).2)]
  | .tr _, .nu _, h => by simp [Sc.kl] at h
  | .tr _, .tx _, h => by simp [Sc.kl] at h
  | .tr _, .en _, h => by simp [Sc.kl] at h
  | .nu _, .tr _, h => by simp [Sc.kl] at h
  | .nu _, .tx _, h => by simp [Sc.kl] at h
  | .nu _, .en _, h => by simp [Sc.kl] at h
  | .tx _, .tr _, h => by simp [Sc.kl] at h
  | .tx _, .nu _, h => by simp [Sc.kl] at h
  | .tx _, .en _, h => by simp [Sc.kl] at h
  | .en _, .tr _, h => by simp [Sc.kl] at h
  | .en _, .nu _, h => by simp [Sc.kl] at h
  | .en _, .tx _, h => by simp [Sc.kl] at h
theorem map_nat_lt : ∀ {a b : List Nat}, (a.map Int.ofNat < b.map Int.ofNat) ↔ a < b
  | [], [] => by simp
  | [], _ :: _ => by simp
  | _ :: _, [] => by simp
  | x :: a, y :: b => by
    rw [List.map_cons, List.map_cons, List.cons_lt_cons_iff, List.cons_lt_cons_iff, map_nat_lt]
    constructor
    · rintro (h | ⟨h1, h2⟩)
      · exact .inl (by simpa using h)
      · exact .inr ⟨Int.ofNat.inj h1, h2⟩
    · rintro (h | ⟨h1, h2⟩)
      · exact .inl (by simpa using h)
      · exact .inr ⟨by rw [h1], h2⟩
theorem Sc.lt_irrefl (a : Sc) : a.lt a = false := decide_eq_false (List.lt_irrefl _)
theorem Sc.lt_trans {a b c : Sc} (h : a.lt b = true) (h2 : b.lt c = true) : a.lt c = true := decide_eq_true (List.lt_trans (of_decide_eq_true h) (of_decide_eq_true h2))
theorem Sc.lt_total {a b : Sc} (h : a ≠ b) : a.lt b = true ∨ b.lt a = true := by
  by_cases c : a.kl < b.kl
  · exact .inl (decide_eq_true c)
  · by_cases c2 : b.kl < a.kl
    · exact .inr (decide_eq_true c2)
    · exact absurd (Sc.kl_inj (List.le_antisymm (List.not_lt.mp c2) (List.not_lt.mp c))) h
theorem Sc.lt_eq (a b : Sc) : a.lt b = (if a.rank = b.rank then (match a, b with
    | .tr x, .tr y => !x && y
    | .nu x, .nu y => decide (x < y)
    | .tx x, .tx y => decide (cs x < cs y)
    | .en x, .en y => decide (cs x < cs y)
    | _, _ => false) else decide (a.rank < b.rank)) := by
  cases a <;> cases b <;> simp [Sc.lt, Sc.kl, Sc.rank, List.cons_lt_cons_iff, map_nat_lt]
  rename_i x y; cases x <;> cases y <;> decide
theorem ix0 (s : Sc) : oIx s.d (.int 0) = some (.str s.kind) := by cases s <;> rfl
theorem ix1 (s : Sc) : oIx s.d (.int 1) = some s.dat := by cases s <;> rfl
theorem neK (a b : Sc) : dNe (.str a.kind) (.str b.kind) = some (.bl (!decide (a.rank = b.rank))) := by
  cases a <;> cases b <;> simp [dNe_s, Sc.kind, Sc.rank]
theorem tix (a : Sc) : oIdx (.lst [.str "truth", .str "number", .str "text", .str "entity"]) (.str a.kind) = some (.int a.rank) := by
  cases a <;> simp [oIdx, dStrs, sIdxN, Sc.kind, Sc.rank]
@[simp] theorem sTix_e (l : List Str) (fa : SA) (ρ : Rho) (S : Sto) : sTix l fa ρ S = mb (fa ρ) (fun ds S => match ds with
  | [y] => mo (oIdx (.lst (l.map D.str)) (dref S y)) S
  | _ => none) S := rfl
@[simp] theorem sLix_e (fo : SE) (fa : SA) (ρ : Rho) (S : Sto) : sLix fo fa ρ S = mb (fo ρ) (fun x S => match dref S x with
  | .lst _ => mb (fa ρ) (fun ds S => match ds with
    | [y] => mo (oIdx (dref S x) (dref S y)) S
    | _ => none) S
  | _ => none) S := rfl
@[simp] theorem dref_d (S : Sto) (s : Sc) : dref S s.d = s.d := by cases s <;> rfl
@[simp] theorem dref_dat (S : Sto) (s : Sc) : dref S s.dat = s.dat := by cases s <;> rfl
theorem ltdat {a b : Sc} (h : a.rank = b.rank) : oLtX a.dat b.dat = some (.bl (a.lt b)) := by
  rw [Sc.lt_eq, if_pos h]
  cases a <;> cases b <;> simp [Sc.rank] at h <;> simp [Sc.dat]
theorem before_eq (a b : Sc) (S : Sto) : f_scalar_before [a.d, b.d] S = some (.ok (.bl (a.lt b)), S) := by
  have e := neK a b
  have t1 := tix a
  have t2 := tix b
  by_cases h : a.rank = b.rank
  · have l := ltdat h
    simp [f_scalar_before, b_scalar_before, ix0, ix1, e, h, l]
  · have l : a.lt b = decide ((a.rank : Int) < b.rank) := by
      rw [Sc.lt_eq, if_neg h]
      by_cases c : a.rank < b.rank
      · rw [decide_eq_true c, decide_eq_true (by omega)]
      · rw [decide_eq_false c, decide_eq_false (by omega)]
    rw [l]
    simp [f_scalar_before, b_scalar_before, ix0, ix1, e, h, t1, t2]
def okT (c : Nat) : Bool := decide (32 ≤ c) && decide (c ≤ 126) && decide (c ≠ 34) && decide (c ≠ 37)
def isT (t : Str) : Bool := decide (t.length ≤ 40) && (cs t).all okT
theorem isT_iff {t : Str} : isT t = true ↔ t.length ≤ 40 ∧ ∀ c ∈ cs t, okT c = true := by
  unfold isT; rw [Bool.and_eq_true, decide_eq_true_iff, List.all_eq_true]
theorem isT_ok {t : Str} (h : isT t = true) : PyData.strOk t = true := ok_cs fun c hc => by
  have := (isT_iff.mp h).2 c hc
  unfold okT at this
  simp at this; omega
theorem unfit (c : Nat) : oIn false (.int c) c_UNFIT = some (.bl (decide (c = 34) || decide (c = 37))) := by
  show some (D.bl ((34 : Int) == c || ((37 : Int) == c || false))) = _
  rw [Bool.or_false]
  congr 2
  rw [beq_dec, beq_dec]
  congr 1 <;> exact decide_eq_decide.mpr (by omega)
theorem text_eq {t : Str} (h : t.length ≤ 16777216) (S : Sto) : f_is_text [.str t] S = some (.ok (.bl (isT t)), S) := by
  have hl := len_s h
  have c1 : c_TEXT_MOST = .int 40 := rfl
  have z := for_all (i := 1) (b := l0_is_text) (r := .bl false) (S := S) (fun d => match d with | .str ⟨⟨[c]⟩⟩ => okT c | _ => false) ((cs t).map fun c => .str ⟨#[c]⟩) [.bo (.str t), .no] uN rfl (fun d hd => by
    obtain ⟨c, _, rfl⟩ := List.mem_map.mp hd
    have o : ∀ x : Nat, oOrd [.str ⟨#[x]⟩] = some (.int x) := fun _ => rfl
    have u := unfit c
    show l0_is_text _ S = if okT c = true then _ else _
    have cu : ∀ S, dref S c_UNFIT = c_UNFIT := fun _ => rfl
    have ko : okT c = (decide (32 ≤ c) && decide (c ≤ 126) && !(decide (c = 34) || decide (c = 37))) := by
      unfold okT
      by_cases e : c = 34 <;> by_cases f : c = 37 <;> simp [e, f]
    rw [ko]
    generalize (decide (c = 34) || decide (c = 37)) = z at u
    by_cases a : 32 ≤ c
    · by_cases b : c ≤ 126
      · have a' : (32 : Int) ≤ c := by omega
        have b' : (c : Int) ≤ 126 := by omega
        cases z <;> simp [l0_is_text, sChain, o, u, a, a', b, b', cu]
      · have a' : (32 : Int) ≤ c := by omega
        have b' : ¬ (c : Int) ≤ 126 := by omega
        simp [l0_is_text, sChain, o, a', b, b']
    · have a' : ¬ (32 : Int) ≤ c := by omega
      simp [l0_is_text, sChain, o, a, a'])
  have all : ((cs t).map fun c => D.str ⟨#[c]⟩).all (fun d => match d with | .str ⟨⟨[c]⟩⟩ => okT c | _ => false) = (cs t).all okT := by rw [List.all_map]; rfl
  rw [all] at z
  unfold isT
  by_cases hle : t.length ≤ 40
  · have h' : ¬ (40 : Int) < t.length := by omega
    cases ha : (cs t).all okT with
    | true =>
      obtain ⟨y, e⟩ := z.1 ha
      simp [f_is_text, b_is_text, c1, hl, h', hle, e]
    | false =>
      have e := z.2 ha
      simp [f_is_text, b_is_text, c1, hl, h', hle, e]
  · have h' : (40 : Int) < t.length := by omega
    simp [f_is_text, b_is_text, c1, hl, h', hle]
def Sc.ok : Sc → Bool
  | .tr _ => true
  | .nu i => decide (-1000000 ≤ i) && decide (i ≤ 1000000)
  | .tx t => isT t
  | .en t => isU t
theorem Sc.ok_fine {s : Sc} (h : s.ok = true) : s.fine = true := by
  cases s with
  | tx t => simp [Sc.fine, isT_ok h]; have := (isT_iff.mp h).1; omega
  | en t => simp [Sc.fine, isU_ok h]; have := isU_len h; omega
  | _ => rfl
theorem scalar_eq {s : Sc} (h : s.fine = true) (S : Sto) : f_is_scalar [s.d] S = some (.ok (.bl s.ok), S) := by
  have c1 : c_NUMBER_MOST = .int 1000000 := rfl
  cases s with
  | tr b => simp [f_is_scalar, b_is_scalar, ix0, Sc.kind, Sc.ok]
  | nu i =>
    by_cases a : -1000000 ≤ i <;> simp [f_is_scalar, b_is_scalar, ix0, ix1, Sc.kind, Sc.dat, Sc.ok, sChain, c1, a]
  | tx t =>
    simp [Sc.fine] at h
    simp [f_is_scalar, b_is_scalar, ix0, ix1, Sc.kind, Sc.dat, Sc.ok, d_is_text, text_eq (show t.length ≤ 16777216 by omega)]
  | en t =>
    simp [Sc.fine] at h
    simp [f_is_scalar, b_is_scalar, ix0, ix1, Sc.kind, Sc.dat, Sc.ok, d_is_uid, uid_eq (show t.length ≤ 1000 by omega)]
def Sc.key (s : Sc) : D := .tup [.int s.rank, s.dat]
def Sc.le (a b : Sc) : Bool := !b.lt a
theorem Sc.le_trans (a b c : Sc) : a.le b = true → b.le c = true → a.le c = true := fun h1 h2 => by
  unfold Sc.le at *
  simp only [Bool.not_eq_true'] at *
  cases h : c.lt a with
  | false => rfl
  | true =>
    by_cases e : b = c
    · subst e; rw [h] at h1; cases h1
    · rcases Sc.lt_total e with z | z
      · rw [Sc.lt_trans z h] at h1; cases h1
      · rw [z] at h2; cases h2
inductive Vl where
  | sc (s : Sc) | set (l : List Sc)
  deriving DecidableEq
def Vl.d : Vl → D
  | .sc s => s.d
  | .set l => .tup [.str "set", .tup (l.map Sc.d)]
def Vl.fine : Vl → Bool
  | .sc s => s.fine
  | .set l => l.all Sc.fine
def adj : List Sc → Bool
  | a :: b :: r => a.lt b && adj (b :: r)
  | _ => true
def Vl.ok : Vl → Bool
  | .sc s => s.ok
  | .set l => decide (l.length ≤ 8) && (l.all Sc.ok && adj l)
@[simp] theorem dref_v (S : Sto) (v : Vl) : dref S v.d = v.d := by cases v with
  | sc s => exact dref_d S s
  | set l => rfl
theorem Vl.ok_fine {v : Vl} (h : v.ok = true) : v.fine = true := by
  cases v with
  | sc s => exact Sc.ok_fine h
  | set l =>
    simp only [Vl.ok, Bool.and_eq_true] at h
    exact List.all_eq_true.mpr fun s hs => Sc.ok_fine (List.all_eq_true.mp h.2.1 s hs)
theorem cut1 {l : List D} : cutD l (some 1) none = l.drop 1 := by
  unfold cutD
  cases l with
  | nil => rfl
  | cons a r =>
    have e1 : HT.sIx (a :: r).length 0 (some (1 : Int)) = 1 := by
      have z := HT.sIx_nat (a :: r).length 0 1
      rw [show ((1 : Nat) : Int) = 1 from rfl] at z
      rw [z]; simp
    have e2 : HT.sIx (a :: r).length (a :: r).length none = (a :: r).length := rfl
    rw [e1, e2]
    exact List.take_of_length_le (by simp)
theorem l1value {S : Sto} {s0 s1 : Sl} : ∀ (l : List Sc) (v2 v3 : Sl), unlk (some v2) = true → unlk (some v3) = true →
    (adj l = true → ∃ v2' v3', forD (tgTup 2 (tgCons (tgName 2) (tgCons (tgName 3) tgNil))) l1_is_value (dZip (l.map Sc.d) ((l.map Sc.d).drop 1)) [s0, s1, v2, v3] S = some (.nx [s0, s1, v2', v3'], S)) ∧
    (adj l = false → forD (tgTup 2 (tgCons (tgName 2) (tgCons (tgName 3) tgNil))) l1_is_value (dZip (l.map Sc.d) ((l.map Sc.d).drop 1)) [s0, s1, v2, v3] S = some (.ret (.bl false), S))
  | [], v2, v3, h2, h3 => ⟨fun _ => ⟨v2, v3, by simp [dZip]⟩, fun h => by simp [adj] at h⟩
  | [a], v2, v3, h2, h3 => ⟨fun _ => ⟨v2, v3, by simp [dZip]⟩, fun h => by simp [adj] at h⟩
  | a :: b :: r, v2, v3, h2, h3 => by
    obtain ⟨i1, i2⟩ := l1value (S := S) (s0 := s0) (s1 := s1) (b :: r) (.val a.d) (.val b.d) rfl rfl
    have e := before_eq a b S
    have z : dZip ((a :: b :: r).map Sc.d) (((a :: b :: r).map Sc.d).drop 1) = .tup [a.d, b.d] :: dZip ((b :: r).map Sc.d) (((b :: r).map Sc.d).drop 1) := rfl
    rw [z, adj]
    have t : tgTup 2 (tgCons (tgName 2) (tgCons (tgName 3) tgNil)) (.tup [a.d, b.d]) [s0, s1, v2, v3] = some [s0, s1, .val a.d, .val b.d] := by simp [h2, h3]
    cases hc : a.lt b with
    | true =>
      rw [hc] at e
      refine ⟨fun h => ?_, fun h => ?_⟩
      · obtain ⟨w2, w3, e2⟩ := i1 (by simpa using h)
        exact ⟨w2, w3, (forT t (by simp [l1_is_value, d_scalar_before, e])).trans e2⟩
      · exact (forT t (by simp [l1_is_value, d_scalar_before, e])).trans (i2 (by simpa using h))
    | false =>
      rw [hc] at e
      exact ⟨fun h => by simp at h, fun _ => forTr t (by simp [l1_is_value, d_scalar_before, e])⟩
theorem isval_eq {v : Vl} (h : v.fine = true) (S : Sto) : f_is_value [v.d] S = some (.ok (.bl v.ok), S) := by
  cases v with
  | sc s =>
    have e := scalar_eq (s := s) h S
    have i := ix0 s
    have k : (Str.ofString "set" = s.kind) = False := by cases s <;> simp [Sc.kind]
    have k2 : (s.kind = Str.ofString "set") = False := by cases s <;> simp [Sc.kind]
    simp [f_is_value, b_is_value, Vl.d, Vl.ok, i, k2, d_is_scalar, e]
  | set l =>
    have c1 : c_SET_MOST = .int 8 := rfl
    have hf : ∀ s ∈ l, s.fine = true := List.all_eq_true.mp h
    have z := for_all (i := 1) (b := l0_is_value) (r := .bl false) (S := S) (fun d => match f_is_scalar [d] S with | some (.ok (.bl k), _) => k | _ => false) (l.map Sc.d) [.bo (Vl.set l).d, .no, .no, .no] uN rfl (fun d hd => by
      obtain ⟨s, hs, rfl⟩ := List.mem_map.mp hd
      have e := scalar_eq (hf s hs) S
      rw [e]
      cases hk : s.ok <;> rw [hk] at e <;> simp [l0_is_value, d_is_scalar, e])
    have all : (l.map Sc.d).all (fun d => match f_is_scalar [d] S with | some (.ok (.bl k), _) => k | _ => false) = l.all Sc.ok := by
      rw [List.all_map]
      refine all_mem fun s hs => ?_
      simp only [Function.comp, scalar_eq (hf s hs) S]
    rw [all] at z
    have sl : oSl (.tup (l.map Sc.d)) (some 1) none = some (.tup ((l.map Sc.d).drop 1)) := by
      show some (D.tup (cutD (l.map Sc.d) (some 1) none)) = _
      rw [cut1]
    by_cases hl : l.length ≤ 8
    · have hl' : ¬ (8 : Int) < l.length := by omega
      cases ha : l.all Sc.ok with
      | false =>
        have e := z.2 ha
        simp [f_is_value, b_is_value, Vl.d, Vl.ok, c1, hl', ha] at e ⊢
        simp [e]
      | true =>
        obtain ⟨y, e⟩ := z.1 ha
        obtain ⟨i1, i2⟩ := l1value (S := S) (s0 := .bo (Vl.set l).d) (s1 := y.1) l .no .no rfl rfl
        cases hj : adj l with
        | true =>
          obtain ⟨v2, v3, e2⟩ := i1 hj
          simp [Vl.d] at e e2
          simp [f_is_value, b_is_value, Vl.d, Vl.ok, c1, hl, hl', ha, hj, e, sl, e2]
        | false =>
          have e2 := i2 hj
          simp [Vl.d] at e e2
          simp [f_is_value, b_is_value, Vl.d, Vl.ok, c1, hl, hl', ha, hj, e, sl, e2]
    · have hl' : (8 : Int) < l.length := by omega
      simp [f_is_value, b_is_value, Vl.d, Vl.ok, c1, hl, hl']
end G
namespace G
open PySem DL L2
mutual
theorem rep_of : ∀ (n : Nat) (d : D), wf n d = true → shrt d = true → (py d).showable = true ∧ (py d).leavesShort 13 = true ∧ (py d).weight ≤ dW d
  | _, .non, _, _ => ⟨rfl, rfl, Nat.le_refl _⟩
  | _, .bl _, _, _ => ⟨rfl, rfl, Nat.le_refl _⟩
  | n, .int i, _, h => by
    have h1 : i.natAbs < 1000000000000 := of_decide_eq_true h
    have l : i.natAbs.log2 < 40 := by
      by_cases z : i.natAbs = 0
      · rw [z]; decide
      · exact (Nat.log2_lt z).mpr (Nat.lt_of_lt_of_le h1 (by decide))
    refine ⟨decide_eq_true (by omega), decide_eq_true (PyData.shown_int_le (by simpa using h1)), ?_⟩
    show (if (i == 0) = true then 0 else i.natAbs.log2 + 1) ≤ 40
    split <;> omega
  | n, .str x, h, _ => by
    refine ⟨rfl, ?_, Nat.le_refl _⟩
    have h : PyData.strOk x = true := by cases n <;> exact h
    show (x.cps.toList.all fun c => decide (c < 16 ^ 8)) = true
    rw [List.all_eq_true]
    intro c hc
    have := cs_ok h c hc
    exact decide_eq_true (by omega)
  | n + 1, .tup l, h, h2 => by
    obtain ⟨a, b, c⟩ := reps_of n l h h2
    exact ⟨a, b, c⟩
  | n + 1, .lst l, h, h2 => by
    obtain ⟨a, b, c⟩ := reps_of n l h h2
    exact ⟨a, b, c⟩
  | n + 1, .rol l, h, h2 => by
    obtain ⟨a, b, c⟩ := reps_of n l h h2
    exact ⟨a, b, c⟩
  | 0, .tup _, h, _ => by cases h
  | 0, .lst _, h, _ => by cases h
  | 0, .rol _, h, _ => by cases h
  | n, .dK _, h, _ => by cases n <;> cases h
  | n, .dT _, h, _ => by cases n <;> cases h
  | n, .ins _ _, h, _ => by cases n <;> cases h
  | n, .obj _, h, _ => by cases n <;> cases h
theorem reps_of : ∀ (n : Nat) (l : List D), l.all (wf n) = true → shrts l = true → PyData.showableAll (pys l) = true ∧ PyData.leavesShortAll 13 (pys l) = true ∧ PyData.weightAll (pys l) ≤ dWs l
  | _, [], _, _ => ⟨rfl, rfl, Nat.le_refl _⟩
  | n, d :: r, h, h2 => by
    rw [List.all_cons, Bool.and_eq_true] at h
    obtain ⟨g1, g2⟩ := Bool.and_eq_true_iff.mp (show (shrt d && shrts r) = true from h2)
    obtain ⟨a1, a2, a3⟩ := rep_of n d h.1 g1
    obtain ⟨b1, b2, b3⟩ := reps_of n r h.2 g2
    refine ⟨?_, ?_, ?_⟩
    · show ((py d).showable && PyData.showableAll (pys r)) = true
      rw [a1, b1]; rfl
    · show ((py d).leavesShort 13 && PyData.leavesShortAll 13 (pys r)) = true
      rw [a2, b2]; rfl
    · show (py d).weight + 1 + PyData.weightAll (pys r) ≤ dW d + 1 + dWs r
      omega
end
theorem shOk_of {n : Nat} {d : D} (h : wf n d = true) (h2 : shrt d = true) (h3 : dW d ≤ 1048576) (hn : n ≤ 64 := by decide) : shOk d = true := by
  obtain ⟨a, b, c⟩ := rep_of n d h h2
  unfold shOk
  rw [wf_eqOk h hn, a, cdec_t (PyData.shown_fits (B := 13) (by decide) (by decide) b (by omega))]
  rfl
structure Sm (n w : Nat) (d : D) : Prop where
  wf : wf n d = true
  sh : shrt d = true
  w : dW d ≤ w
theorem Sm.mono {n n' w w' : Nat} {d : D} (h : Sm n w d) (h1 : n ≤ n') (h2 : w ≤ w') : Sm n' w' d := ⟨wf_mono h1 h.wf, h.sh, Nat.le_trans h.w h2⟩
theorem Sm.ok {n w : Nat} {d : D} (h : Sm n w d) (hw : w ≤ 1048576 := by decide) (hn : n ≤ 64 := by decide) : shOk d = true := shOk_of h.wf h.sh (Nat.le_trans h.w hw) hn
theorem Sm.non {n w : Nat} : Sm n w .non := ⟨by cases n <;> rfl, rfl, Nat.zero_le _⟩
theorem Sm.bl {n w : Nat} {b : Bool} : Sm n w (.bl b) := ⟨by cases n <;> rfl, rfl, Nat.zero_le _⟩
theorem Sm.int {n : Nat} {i : Int} (h : i.natAbs < 1000000000000) : Sm n 40 (.int i) := ⟨by cases n <;> rfl, decide_eq_true h, Nat.le_refl _⟩
theorem Sm.str {n : Nat} {t : Str} (h : PyData.strOk t = true) : Sm n t.length (.str t) := ⟨by cases n <;> exact h, rfl, Nat.le_refl _⟩
theorem Sm.lit {n : Nat} {a : String} {w : Nat} (h : (Str.ofString a).length ≤ w := by decide +kernel) : Sm n w (.str (Str.ofString a)) := (Sm.str (strOk_lit a)).mono (Nat.le_refl _) h
theorem dWs_le {w : Nat} : ∀ {l : List D}, (∀ d ∈ l, dW d ≤ w) → dWs l ≤ (w + 1) * l.length
  | [], _ => by simp [dWs]
  | d :: r, h => by
    have h1 := h d (by simp)
    have h2 := dWs_le (l := r) fun x hx => h x (List.mem_cons_of_mem _ hx)
    have e : (w + 1) * (d :: r).length = (w + 1) * r.length + (w + 1) := by rw [List.length_cons, Nat.mul_add, Nat.mul_one]
    show dW d + 1 + dWs r ≤ _
    omega
theorem shrts_of : ∀ {l : List D}, (∀ d ∈ l, shrt d = true) → shrts l = true
  | [], _ => rfl
  | d :: r, h => by
    show (shrt d && shrts r) = true
    rw [h d (by simp), shrts_of fun x hx => h x (List.mem_cons_of_mem _ hx)]; rfl
theorem Sm.tup {n w k : Nat} {l : List D} (h : ∀ d ∈ l, Sm n w d) (hk : l.length ≤ k) : Sm (n + 1) ((w + 1) * k) (.tup l) :=
  ⟨List.all_eq_true.mpr fun d hd => (h d hd).wf, shrts_of fun d hd => (h d hd).sh, Nat.le_trans (dWs_le fun d hd => (h d hd).w) (Nat.mul_le_mul_left _ hk)⟩
theorem Sm.lst {n w k : Nat} {l : List D} (h : ∀ d ∈ l, Sm n w d) (hk : l.length ≤ k) : Sm (n + 1) ((w + 1) * k) (.lst l) :=
  ⟨List.all_eq_true.mpr fun d hd => (h d hd).wf, shrts_of fun d hd => (h d hd).sh, Nat.le_trans (dWs_le fun d hd => (h d hd).w) (Nat.mul_le_mul_left _ hk)⟩
theorem fa0 {p : D → Prop} : ∀ d ∈ ([] : List D), p d := fun d h => by cases h
theorem fa1 {p : D → Prop} {a : D} {l : List D} (h : p a) (hl : ∀ d ∈ l, p d) : ∀ d ∈ a :: l, p d := fun d hd => by
  rcases List.mem_cons.mp hd with rfl | hd
  · exact h
  · exact hl d hd
theorem Sc.sm {s : Sc} (h : s.ok = true) : Sm 1 82 s.d := by
  have k : ∀ {a : String} {x : D}, (Str.ofString a).length ≤ 40 → Sm 0 40 x → Sm 1 82 (.tup [.str (Str.ofString a), x]) := fun h1 h2 =>
    (Sm.tup (k := 2) (fa1 (Sm.lit h1) (fa1 h2 fa0)) (by simp)).mono (Nat.le_refl _) (by decide)
  cases s with
  | tr b => exact k (by decide +kernel) .bl
  | nu i =>
    simp [Sc.ok] at h
    exact k (by decide +kernel) (.int (by omega))
  | tx t => exact k (by decide +kernel) ((Sm.str (isT_ok h)).mono (Nat.le_refl _) (isT_iff.mp h).1)
  | en t => exact k (by decide +kernel) ((Sm.str (isU_ok h)).mono (Nat.le_refl _) (by have := isU_len h; omega))
theorem Vl.sm {v : Vl} (h : v.ok = true) : Sm 3 1400 v.d := by
  cases v with
  | sc s => exact (Sc.sm h).mono (by decide) (by decide)
  | set l =>
    simp only [Vl.ok, Bool.and_eq_true, decide_eq_true_eq] at h
    have z := Sm.tup (k := 8) (l := l.map Sc.d) (fun d hd => by
      obtain ⟨s, hs, rfl⟩ := List.mem_map.mp hd
      exact Sc.sm (List.all_eq_true.mp h.2.1 s hs)) (by simpa using h.1)
    exact (Sm.tup (k := 2) (fa1 (Sm.lit (by decide +kernel)) (fa1 z fa0)) (by simp)).mono (Nat.le_refl _) (by decide)
end G
namespace G
open PySem DL L2
inductive Nd where
  | val (v : Vl) | pr | ac | re | ctx (n : Str) | giv (n : Str)
  | get (p : Int) (n : Str) | has (p : Int) (n : Str) | is (p : Int) (n : Str) | not (p : Int)
  | two (w : Str) (a b : Int) | ife (a b c : Int)
  deriving DecidableEq
def Nd.d : Nd → D
  | .val v => .tup [.str "value", v.d]
  | .pr => .tup [.str "principal"]
  | .ac => .tup [.str "action"]
  | .re => .tup [.str "resource"]
  | .ctx n => .tup [.str "context", .str n]
  | .giv n => .tup [.str "given", .str n]
  | .get p n => .tup [.str "get", .int p, .str n]
  | .has p n => .tup [.str "has", .int p, .str n]
  | .is p n => .tup [.str "is", .int p, .str n]
  | .not p => .tup [.str "not", .int p]
  | .two w a b => .tup [.str w, .int a, .int b]
  | .ife a b c => .tup [.str "if", .int a, .int b, .int c]
def Nd.ops : Nd → List Int
  | .get p _ => [p]
  | .has p _ => [p]
  | .is p _ => [p]
  | .not p => [p]
  | .two _ a b => [a, b]
  | .ife a b c => [a, b, c]
  | _ => []
def TWO : List Str := ["same", "less", "in", "contains", "and", "or"]
def Nd.ok : Nd → Bool
  | .val v => v.ok
  | .ctx n => isN n
  | .giv n => isN n
  | .get _ n => isN n
  | .has _ n => isN n
  | .is _ n => isN n
  | .two w _ _ => decide (w ∈ TWO)
  | _ => true
@[simp] theorem dref_n (S : Sto) (n : Nd) : dref S n.d = n.d := by cases n <;> rfl
def stp (k : Nat) (st : List Int) (n : Nd) : Option (List Int) :=
  if n.ops.length ≤ st.length ∧ st.drop (st.length - n.ops.length) = n.ops then some (st.take (st.length - n.ops.length) ++ [(k : Int)]) else none
def stk (k : Nat) (st : List Int) : List Nd → Option (List Int)
  | [] => some st
  | n :: r => (stp k st n).bind fun st' => stk (k + 1) st' r
structure XI (nodes : List Nd) (tops : List Int) (wants : List Str) : Prop where
  st : stk 0 [] nodes = some tops
  ok : ∀ n ∈ nodes, n.ok = true
  len : wants.length = tops.length
def nds (l : List Nd) : D := .tup (l.map Nd.d)
def iD (l : List Int) : D := .lst (l.map .int)
def tree (l : List Nd) : Bool := match stk 0 [] l with
  | some [_] => true
  | _ => false
end G
namespace G
open PySem DL L2
@[simp] theorem sIsN_e (neg : Bool) (f : SE) (ρ : Rho) : sIsN neg f ρ = mb (f ρ) fun d => mp (.bl (if neg then !DL.isN d else DL.isN d)) := rfl
@[simp] theorem isN_non : DL.isN .non = true := rfl
@[simp] theorem isN_str (t : Str) : DL.isN (.str t) = false := rfl
@[simp] theorem isN_int (t : Int) : DL.isN (.int t) = false := rfl
@[simp] theorem isN_tup (t : List D) : DL.isN (.tup t) = false := rfl
theorem eqD_b (x y : Bool) : eqD (.bl x) (.bl y) = (x == y) := by cases x <;> cases y <;> decide +kernel
theorem eqOk_b (x : Bool) : eqOk (.bl x) = true := by cases x <;> decide +kernel
@[simp] theorem dEq_b (x y : Bool) : dEq (.bl x) (.bl y) = some (.bl (x == y)) := by rw [dEq_g (eqOk_b x) (eqOk_b y), eqD_b]
@[simp] theorem dNe_b (x y : Bool) : dNe (.bl x) (.bl y) = some (.bl (!(x == y))) := by rw [dNe_g (eqOk_b x) (eqOk_b y), eqD_b]
@[simp] theorem exAt_e (ρ : Rho) (i : Nat) : exAt ρ i = (match ρ[i]? with | some (.ex x) => some x | _ => none) := rfl
@[simp] theorem xF_name (d : D) : xField ["OutOfRange"] "name" ⟨"OutOfRange", some [("name", d)]⟩ = some d := rfl
inductive Scp where
  | any | knd (k : Str) | wd (w t : Str)
  deriving DecidableEq
def Scp.d : Scp → D
  | .any => .tup [.str "any"]
  | .knd k => .tup [.str "kind", .str k]
  | .wd w t => .tup [.str w, .str t]
def Scp.slot : Scp → Bool
  | .wd _ t => decide (t = ("?" : Str))
  | _ => false
def Scp.ok : Scp → Bool
  | .any => true
  | .knd k => isN k
  | .wd w t => (decide (w = ("is" : Str)) || decide (w = ("in" : Str))) && (decide (t = ("?" : Str)) || isU t)
@[simp] theorem dref_p (S : Sto) (n : Scp) : dref S n.d = n.d := by cases n <;> rfl
@[simp] theorem sc_ne : ¬ ("kind" : Str) = "is" ∧ ¬ ("kind" : Str) = "in" ∧ ¬ ("any" : Str) = "?" ∧ ¬ ("in" : Str) = "is" := by decide +kernel
structure Pol where
  id : Str
  eff : Str
  one : Scp
  act : Option (List Str)
  two : Scp
  ex : List Nd
def actD : Option (List Str) → D
  | none => .non
  | some l => .tup (l.map .str)
def Pol.d (p : Pol) : D := .tup [.str p.id, .str p.eff, p.one.d, actD p.act, p.two.d, nds p.ex]
def actOk : Option (List Str) → Prop
  | none => True
  | some l => 1 ≤ l.length ∧ l.length ≤ 8 ∧ (∀ t ∈ l, isU t = true) ∧ l.Nodup ∧ l.Pairwise (fun a b => strLe a b = true)
structure Pol.ok (p : Pol) (size : Int) : Prop where
  id : isN p.id = true
  eff : p.eff = "permit" ∨ p.eff = "forbid"
  one : p.one.ok = true
  act : actOk p.act
  two : p.two.ok = true
  ex : tree p.ex = true ∧ (∀ n ∈ p.ex, n.ok = true) ∧ 1 ≤ p.ex.length ∧ (p.ex.length : Int) ≤ 2 * size - 1
theorem stk_ops : ∀ {l : List Nd} {k : Nat} {st st' : List Int}, stk k st l = some st' → (∀ i ∈ st, 0 ≤ i ∧ i < k) → (∀ n ∈ l, ∀ i ∈ n.ops, 0 ≤ i ∧ i < ((k + l.length : Nat) : Int)) ∧ ∀ i ∈ st', 0 ≤ i ∧ i < ((k + l.length : Nat) : Int)
  | [], k, st, st', h, hs => by
    cases h
    exact ⟨fun n hn => (by cases hn), hs⟩
  | n :: r, k, st, st', h, hs => by
    have h : (stp k st n).bind (fun st' => stk (k + 1) st' r) = some st' := h
    cases e : stp k st n with
    | none => rw [e] at h; cases h
    | some s1 =>
      rw [e] at h
      have h : stk (k + 1) s1 r = some st' := h
      unfold stp at e
      by_cases c : n.ops.length ≤ st.length ∧ st.drop (st.length - n.ops.length) = n.ops
      · rw [if_pos c] at e
        obtain ⟨e⟩ := e
        have h1 : ∀ i ∈ st.take (st.length - n.ops.length) ++ [(k : Int)], 0 ≤ i ∧ i < ((k + 1 : Nat) : Int) := fun i hi => by
          rcases List.mem_append.mp hi with hi | hi
          · have := hs i (List.mem_of_mem_take hi)
            omega
          · rw [List.mem_singleton.mp hi]; omega
        obtain ⟨i1, i2⟩ := stk_ops h h1
        rw [List.length_cons, show k + (r.length + 1) = k + 1 + r.length by omega]
        refine ⟨fun m hm i hi => ?_, i2⟩
        rcases List.mem_cons.mp hm with rfl | hm
        · have := hs i (List.mem_of_mem_drop (c.2 ▸ hi))
          omega
        · exact i1 m hm i hi
      · rw [if_neg c] at e; cases e
theorem tree_ops {l : List Nd} (h : tree l = true) (hl : l.length ≤ 1000) : ∀ n ∈ l, ∀ i ∈ n.ops, i.natAbs < 1000000000000 := fun n hn i hi => by
  unfold tree at h
  cases e : stk 0 [] l with
  | none => rw [e] at h; cases h
  | some st =>
    have := (stk_ops e (by simp)).1 n hn i hi
    omega
theorem isN_sm {n : Nat} {t : Str} (h : isN t = true) : Sm n 40 (.str t) := (Sm.str (isN_ok h)).mono (Nat.le_refl _) (by have := isN_iff.mp h; omega)
theorem isU_sm {n : Nat} {t : Str} (h : isU t = true) : Sm n 40 (.str t) := (Sm.str (isU_ok h)).mono (Nat.le_refl _) (by have := isU_len h; omega)
theorem two_sm {n : Nat} {t : Str} (h : t ∈ TWO) : Sm n 40 (.str t) := by
  simp only [TWO, List.mem_cons, List.not_mem_nil, or_false] at h
  rcases h with rfl | rfl | rfl | rfl | rfl | rfl <;> exact Sm.lit (by decide +kernel)
theorem Nd.sm {n : Nd} (h : n.ok = true) (hi : ∀ i ∈ n.ops, i.natAbs < 1000000000000) : Sm 4 2802 n.d := by
  have L : ∀ {a : String}, (Str.ofString a).length ≤ 40 → Sm 3 40 (.str (Str.ofString a)) := fun h => Sm.lit h
  have M : ∀ {l : List D}, (∀ d ∈ l, Sm 3 40 d) → l.length ≤ 4 → Sm 4 2802 (.tup l) := fun h1 h2 => (Sm.tup (k := 4) h1 h2).mono (Nat.le_refl _) (by decide)
  cases n with
  | val v => exact (Sm.tup (k := 2) (fa1 (Sm.lit (by decide +kernel)) (fa1 (Vl.sm h) fa0)) (by simp)).mono (Nat.le_refl _) (by decide)
  | pr => exact M (fa1 (L (by decide +kernel)) fa0) (by simp)
  | ac => exact M (fa1 (L (by decide +kernel)) fa0) (by simp)
  | re => exact M (fa1 (L (by decide +kernel)) fa0) (by simp)
  | ctx t => exact M (fa1 (L (by decide +kernel)) (fa1 (isN_sm h) fa0)) (by simp)
  | giv t => exact M (fa1 (L (by decide +kernel)) (fa1 (isN_sm h) fa0)) (by simp)
  | get p t => exact M (fa1 (L (by decide +kernel)) (fa1 (.int (hi p (by simp [Nd.ops]))) (fa1 (isN_sm h) fa0))) (by simp)
  | has p t => exact M (fa1 (L (by decide +kernel)) (fa1 (.int (hi p (by simp [Nd.ops]))) (fa1 (isN_sm h) fa0))) (by simp)
  | is p t => exact M (fa1 (L (by decide +kernel)) (fa1 (.int (hi p (by simp [Nd.ops]))) (fa1 (isN_sm h) fa0))) (by simp)
  | not p => exact M (fa1 (L (by decide +kernel)) (fa1 (.int (hi p (by simp [Nd.ops]))) fa0)) (by simp)
  | two w a b => exact M (fa1 (two_sm (of_decide_eq_true h)) (fa1 (.int (hi a (by simp [Nd.ops]))) (fa1 (.int (hi b (by simp [Nd.ops]))) fa0))) (by simp)
  | ife a b c => exact M (fa1 (L (by decide +kernel)) (fa1 (.int (hi a (by simp [Nd.ops]))) (fa1 (.int (hi b (by simp [Nd.ops]))) (fa1 (.int (hi c (by simp [Nd.ops]))) fa0)))) (by simp)
theorem nds_sm {l : List Nd} {k : Nat} (h : tree l = true) (h2 : ∀ n ∈ l, n.ok = true) (hl : l.length ≤ k) (hk : k ≤ 1000) : Sm 5 (2803 * k) (nds l) :=
  Sm.tup (k := k) (fun d hd => by
    obtain ⟨n, hn, rfl⟩ := List.mem_map.mp hd
    exact Nd.sm (h2 n hn) (tree_ops h (by omega) n hn)) (by rw [List.length_map]; exact hl)
theorem Scp.sm {s : Scp} (h : s.ok = true) : Sm 1 100 s.d := by
  have M : ∀ {l : List D}, (∀ d ∈ l, Sm 0 40 d) → l.length ≤ 2 → Sm 1 100 (.tup l) := fun h1 h2 => (Sm.tup (k := 2) h1 h2).mono (Nat.le_refl _) (by decide)
  cases s with
  | any => exact M (fa1 (.lit (by decide +kernel)) fa0) (by simp)
  | knd k => exact M (fa1 (.lit (by decide +kernel)) (fa1 (isN_sm h) fa0)) (by simp)
  | wd w t =>
    simp only [Scp.ok, Bool.and_eq_true, Bool.or_eq_true, decide_eq_true_eq] at h
    have k1 : Sm 0 40 (.str w) := by rcases h.1 with rfl | rfl <;> exact .lit (by decide +kernel)
    have k2 : Sm 0 40 (.str t) := by
      rcases h.2 with rfl | h
      · exact .lit (by decide +kernel)
      · exact isU_sm h
    exact M (fa1 k1 (fa1 k2 fa0)) (by simp)
theorem act_sm {a : Option (List Str)} (h : actOk a) : Sm 1 400 (actD a) := by
  cases a with
  | none => exact .non
  | some l =>
    exact (Sm.tup (k := 8) (n := 0) (w := 40) (fun d hd => by
      obtain ⟨t, ht, rfl⟩ := List.mem_map.mp hd
      exact isU_sm (h.2.2.1 t ht)) (by rw [List.length_map]; exact h.2.1)).mono (Nat.le_refl _) (by decide)
theorem Pol.sm {P : Pol} {z : Int} (h : P.ok z) (hz : z ≤ 20) : Sm 6 700000 P.d := by
  have k0 := nds_sm (k := 39) h.ex.1 h.ex.2.1 (by have := h.ex.2.2.2; omega) (by decide)
  have k1 : Sm 5 109317 (nds P.ex) := k0
  have k2 : Sm 5 109317 (.str P.eff) := by rcases h.eff with e | e <;> rw [e] <;> exact .lit (by decide +kernel)
  exact (Sm.tup (k := 6) (fa1 ((isN_sm h.id).mono (Nat.le_refl _) (by decide)) (fa1 k2 (fa1 ((Scp.sm h.one).mono (by decide) (by decide)) (fa1 ((act_sm h.act).mono (by decide) (by decide)) (fa1 ((Scp.sm h.two).mono (by decide) (by decide)) (fa1 k1 fa0)))))) (by simp)).mono (Nat.le_refl _) (by decide)
end G
namespace G
open PySem DL L2
def d_value_named : List D := []
noncomputable def l0_value_named : SS := (bIf (sBl (sBin dEq (sVarB 2) (sVarB 1))) (bRet (sVar 3)) bNil)
noncomputable def b_value_named : SS := (bSeq (bFor (sItems (sVarS 0)) (tgTup 2 (tgCons (tgName 2) (tgCons (tgName 3) tgNil))) l0_value_named)
    (bRet cN))
noncomputable def f_value_named : Sem1 := semB [false, false] 4 b_value_named
def d_are_named : List D := []
noncomputable def l0_are_named : SS := (bIf (sOr (sNot (sTru (sCallU f_is_name (d_is_name.drop 0) (sCons (sVarB 2) sNil)))) (sNot (sTru (sCallU f_is_value (d_is_value.drop 0) (sCons (sVarB 3) sNil))))) (bRet (cB false)) bNil)
noncomputable def e0_are_named : SE := (sLc [2, 4] (sItems (sVarS 0)) (tgTup 2 (tgCons (tgName 2) (tgCons (tgName 4) tgNil))) sYes (sVar 2))
noncomputable def b_are_named : SS := (bSeq (bIf (sBl (sBin oGt (sCall oLen (sCons (sVarB 0) sNil)) (sVarB 1))) (bRet (cB false)) bNil)
    (bSeq (bFor (sItems (sVarS 0)) (tgTup 2 (tgCons (tgName 2) (tgCons (tgName 3) tgNil))) l0_are_named)
    (bRet (sCallU f_is_rising (d_is_rising.drop 0) (sCons e0_are_named sNil)))))
noncomputable def f_are_named : Sem1 := semB [false, false] 5 b_are_named
def adjS : List Str → Bool
  | a :: b :: r => decide (cs a < cs b) && adjS (b :: r)
  | _ => true
theorem l0rising {S : Sto} {s0 : Sl} : ∀ (l : List Str) (v1 v2 : U),
    (adjS l = true → ∃ w1 w2 : U, forD (tgTup 2 (tgCons (tgName 1) (tgCons (tgName 2) tgNil))) l0_is_rising (dZip (l.map D.str) ((l.map D.str).drop 1)) [s0, v1.1, v2.1] S = some (.nx [s0, w1.1, w2.1], S)) ∧
    (adjS l = false → forD (tgTup 2 (tgCons (tgName 1) (tgCons (tgName 2) tgNil))) l0_is_rising (dZip (l.map D.str) ((l.map D.str).drop 1)) [s0, v1.1, v2.1] S = some (.ret (.bl false), S))
  | [], v1, v2 => ⟨fun _ => ⟨v1, v2, by simp [dZip]⟩, fun h => by simp [adjS] at h⟩
  | [a], v1, v2 => ⟨fun _ => ⟨v1, v2, by simp [dZip]⟩, fun h => by simp [adjS] at h⟩
  | a :: b :: r, v1, v2 => by
    obtain ⟨i1, i2⟩ := l0rising (S := S) (s0 := s0) (b :: r) ⟨.val (.str a), rfl⟩ ⟨.val (.str b), rfl⟩
    have z : dZip ((a :: b :: r).map D.str) (((a :: b :: r).map D.str).drop 1) = .tup [.str a, .str b] :: dZip ((b :: r).map D.str) (((b :: r).map D.str).drop 1) := rfl
    rw [z, adjS]
    have t : tgTup 2 (tgCons (tgName 1) (tgCons (tgName 2) tgNil)) (.tup [.str a, .str b]) [s0, v1.1, v2.1] = some [s0, .val (.str a), .val (.str b)] := by simp
    have ge : oGe (.str a) (.str b) = some (.bl (!decide (cs a < cs b))) := rfl
    by_cases hc : cs a < cs b
    · rw [decide_eq_true hc] at ge ⊢
      refine ⟨fun h => ?_, fun h => ?_⟩
      · obtain ⟨w2, w3, e2⟩ := i1 (by simpa using h)
        exact ⟨w2, w3, (forT t (by simp [l0_is_rising, ge])).trans e2⟩
      · exact (forT t (by simp [l0_is_rising, ge])).trans (i2 (by simpa using h))
    · rw [decide_eq_false hc] at ge ⊢
      exact ⟨fun h => by simp at h, fun _ => forTr t (by simp [l0_is_rising, ge])⟩
theorem rising_l {l : List Str} (S : Sto) : f_is_rising [.lst (l.map .str)] S = some (.ok (.bl (adjS l)), S) := by
  have sl : oSl (.lst (l.map D.str)) (some 1) none = some (.lst ((l.map D.str).drop 1)) := by
    show some (D.lst (cutD (l.map D.str) (some 1) none)) = _
    rw [cut1]
  obtain ⟨i1, i2⟩ := l0rising (S := S) (s0 := .bo (.lst (l.map D.str))) l ⟨.no, rfl⟩ ⟨.no, rfl⟩
  cases h : adjS l with
  | true =>
    obtain ⟨w1, w2, e⟩ := i1 h
    simp [f_is_rising, b_is_rising, sl] at e ⊢
    simp [e]
  | false =>
    have e := i2 h
    simp [f_is_rising, b_is_rising, sl] at e ⊢
    simp [e]
theorem rising_t {l : List Str} (S : Sto) : f_is_rising [.tup (l.map .str)] S = some (.ok (.bl (adjS l)), S) := by
  have sl : oSl (.tup (l.map D.str)) (some 1) none = some (.tup ((l.map D.str).drop 1)) := by
    show some (D.tup (cutD (l.map D.str) (some 1) none)) = _
    rw [cut1]
  obtain ⟨i1, i2⟩ := l0rising (S := S) (s0 := .bo (.tup (l.map D.str))) l ⟨.no, rfl⟩ ⟨.no, rfl⟩
  cases h : adjS l with
  | true =>
    obtain ⟨w1, w2, e⟩ := i1 h
    simp [f_is_rising, b_is_rising, sl] at e ⊢
    simp [e]
  | false =>
    have e := i2 h
    simp [f_is_rising, b_is_rising, sl] at e ⊢
    simp [e]
abbrev NV := Str × Vl
def NVd (x : NV) : D := .tup [.str x.1, x.2.d]
@[simp] theorem dref_nv (S : Sto) (x : NV) : dref S (NVd x) = NVd x := rfl
def nvOk (m : Nat) (l : List NV) : Bool := decide (l.length ≤ m) && (l.all (fun x => isN x.1 && x.2.ok) && adjS (l.map (·.1)))
theorem l0named {S : Sto} {s0 s1 s4 : Sl} : ∀ (l : List NV) (v2 v3 : U), (∀ x ∈ l, x.1.length ≤ 1000 ∧ x.2.fine = true) →
    (l.all (fun x => isN x.1 && x.2.ok) = true → ∃ w2 w3 : U, forD (tgTup 2 (tgCons (tgName 2) (tgCons (tgName 3) tgNil))) l0_are_named (l.map NVd) [s0, s1, v2.1, v3.1, s4] S = some (.nx [s0, s1, w2.1, w3.1, s4], S)) ∧
    (l.all (fun x => isN x.1 && x.2.ok) = false → forD (tgTup 2 (tgCons (tgName 2) (tgCons (tgName 3) tgNil))) l0_are_named (l.map NVd) [s0, s1, v2.1, v3.1, s4] S = some (.ret (.bl false), S))
  | [], v2, v3, _ => ⟨fun _ => ⟨v2, v3, by simp⟩, fun h => by simp at h⟩
  | x :: l, v2, v3, hl => by
    obtain ⟨i1, i2⟩ := l0named (S := S) (s0 := s0) (s1 := s1) (s4 := s4) l ⟨.val (.str x.1), rfl⟩ ⟨.val x.2.d, rfl⟩ (fun y hy => hl y (List.mem_cons_of_mem _ hy))
    obtain ⟨h1, h2⟩ := hl x (by simp)
    have e1 := name_eq (t := x.1) (S := S) (by omega)
    have e2 := isval_eq h2 S
    have t : tgTup 2 (tgCons (tgName 2) (tgCons (tgName 3) tgNil)) (NVd x) [s0, s1, v2.1, v3.1, s4] = some [s0, s1, .val (.str x.1), .val x.2.d, s4] := by simp [NVd]
    rw [List.map_cons, List.all_cons]
    cases hn : isN x.1 <;> rw [hn] at e1
    · exact ⟨fun h => by simp at h, fun _ => forTr t (by simp [l0_are_named, d_is_name, e1])⟩
    · cases hv : x.2.ok <;> rw [hv] at e2
      · exact ⟨fun h => by simp at h, fun _ => forTr t (by simp [l0_are_named, d_is_name, d_is_value, e1, e2])⟩
      · refine ⟨fun h => ?_, fun h => ?_⟩
        · obtain ⟨w2, w3, e⟩ := i1 (by simpa using h)
          exact ⟨w2, w3, (forT t (by simp [l0_are_named, d_is_name, d_is_value, e1, e2])).trans e⟩
        · exact (forT t (by simp [l0_are_named, d_is_name, d_is_value, e1, e2])).trans (i2 (by simpa using h))
theorem named_t {l : List NV} {m : Nat} {n : Int} (hn : n = m) (hl : l.length ≤ 1000) (h : ∀ x ∈ l, x.1.length ≤ 1000 ∧ x.2.fine = true) (S : Sto) : f_are_named [.tup (l.map NVd), .int n] S = some (.ok (.bl (nvOk m l)), S) := by
  subst hn
  have ll : oLen [.tup (l.map NVd)] = some (.int l.length) := by show some (D.int ((l.map NVd).length : Nat)) = _; rw [List.length_map]
  unfold nvOk
  by_cases hm : l.length ≤ m
  · have hm' : ¬ (m : Int) < l.length := by omega
    obtain ⟨i1, i2⟩ := l0named (S := S) (s0 := .bo (.tup (l.map NVd))) (s1 := .bo (.int m)) (s4 := .no) l ⟨.no, rfl⟩ ⟨.no, rfl⟩ h
    cases ha : l.all (fun x => isN x.1 && x.2.ok) with
    | false =>
      have e := i2 ha
      simp [f_are_named, b_are_named, ll, hm', hm] at e ⊢
      simp [e]
    | true =>
      obtain ⟨w2, w3, e⟩ := i1 ha
      have lc := lcD_map (t := tgTup 2 (tgCons (tgName 2) (tgCons (tgName 4) tgNil))) (ft := sYes) (fe := sVar 2) (ρ := [.bo (.tup (l.map NVd)), .bo (.int m), .no, w3.1, .no]) (S := S) (fun d => match d with | .tup [a, _] => a | d => d) (l.map NVd) [] (by rw [List.length_map, line_eq]; simp; omega) (fun d hd => by
        obtain ⟨x, hx, rfl⟩ := List.mem_map.mp hd
        exact ⟨[.bo (.tup (l.map NVd)), .bo (.int m), .val (.str x.1), w3.1, .val x.2.d], by simp [NVd], rfl, by simp [NVd]⟩)
      have e9 : (l.map NVd).map (fun d => match d with | .tup [a, _] => a | d => d) = (l.map (·.1)).map D.str := by rw [List.map_map, List.map_map]; rfl
      rw [e9, List.nil_append] at lc
      have wp : wipeR [.bo (.tup (l.map NVd)), .bo (.int m), w2.1, w3.1, .no] [2, 4] = [.bo (.tup (l.map NVd)), .bo (.int m), .no, w3.1, .no] := rfl
      have rs := rising_l (l := l.map (·.1)) S
      simp [f_are_named, b_are_named, ll, hm', hm] at e wp lc rs ⊢
      simp [e, e0_are_named, wp, lc, d_is_rising, rs]
  · have hm' : (m : Int) < l.length := by omega
    simp [f_are_named, b_are_named, ll, hm', hm]
def found (n : Str) : List NV → D
  | [] => .non
  | x :: r => if x.1 = n then x.2.d else found n r
@[simp] theorem dref_f (S : Sto) (n : Str) : ∀ l, dref S (found n l) = found n l
  | [] => rfl
  | x :: l => by
    rw [found]; split
    · exact dref_v S _
    · exact dref_f S n l
end G
namespace G
open PySem DL L2
def c_ATTRIBUTES_MOST : D := (D.int (8))
def c_ENTITIES_MOST : D := (D.int (40))
def c_PARENTS_MOST : D := (D.int (6))
def t_OutOfRange__OutOfRange : List (Str × Bool) := [("OutOfRange", true)]
def a__table__Database : List Str := ["Database"]
def d_Database_parents : List D := []
noncomputable def e0_Database_parents : SE := (sIf (sBl (sBin (oDIn false) (sVarB 1) (eFld a__table__Database "_table" (sVar 0)))) (sBin oIx (sBin oDIx (eFld a__table__Database "_table" (sVar 0)) (sVarB 1)) (cI 2)) (sTup sNil))
noncomputable def b_Database_parents : SS := (bRet e0_Database_parents)
noncomputable def f_Database_parents : Sem1 := semB [true, false] 2 b_Database_parents
def d_Database_attribute : List D := []
noncomputable def b_Database_attribute : SS := (bSeq (bIf (sBl (sBin (oDIn true) (sVarB 1) (eFld a__table__Database "_table" (sVar 0)))) (bRet cN) bNil)
    (bRet (sCallU f_value_named (d_value_named.drop 0) (sCons (sBin oIx (sBin oDIx (eFld a__table__Database "_table" (sVar 0)) (sVarB 1)) (cI 1)) (sCons (sVarB 2) sNil)))))
noncomputable def f_Database_attribute : Sem1 := semB [true, false, false] 3 b_Database_attribute
def d_Database_ancestors : List D := []
noncomputable def l0_Database_ancestors : SS := (bIf (sBl (sBin (oIn true) (sVarB 4) (sVarB 2))) (bMut 2 uAppend (sCons (sVar 4) sNil)) bNil)
noncomputable def l1_Database_ancestors : SS := (bSeq (bFor (sItems (eMeth "Database" "parents" f_Database_parents (d_Database_parents.drop 0) (sVar 0) (sCons (sBin oIx (sVarB 2) (sVarB 3)) sNil))) (tgName 4) l0_Database_ancestors)
    (bSet 3 (sBin oAdd (sVarB 3) (cI 1))))
noncomputable def b_Database_ancestors : SS := (bSeq (bSetOwn 2 (sLst (sCons (sVar 1) sNil)))
    (bSeq (bSet 3 (cI 0))
    (bSeq (bWhile (sBl (sBin oLtX (sVarB 3) (sCall oLen (sCons (sVarB 2) sNil)))) l1_Database_ancestors)
    (bRet (sCall oTuple (sCons (sCall oSortS (sCons (sSl (sVarB 2) (sPart (cI 1)) sNo) sNil)) sNil))))))
noncomputable def f_Database_ancestors : Sem1 := semB [true, true] 5 b_Database_ancestors
def d_check_uid__n : List D := [(D.str "uid")]
noncomputable def b_check_uid__n : SS := (bIf (sNot (sTru (sQ (sCallU f_is_uid (d_is_uid.drop 0) (sCons (sVarB 0) sNil))))) (bRaise "OutOfRange" ["name"] (sCons (sVar 1) sNil)) bNil)
noncomputable def f_check_uid__n : Sem1 := semB [false, false] 2 b_check_uid__n
def d_Database_tell : List D := []
noncomputable def e0_Database_tell : SE := (sIf (sBl (sIsN false (sVarB 2))) (sTup (sCons (cS "none") sNil)) (sTup (sCons (cS "value") (sCons (sVar 2) sNil))))
noncomputable def b_Database_tell : SS := (bSeq (bIf (sBl (sBin dEq (sBin oIx (sVarB 1) (cI 0)) (cS "ancestors"))) (bRet (sTup (sCons (cS "above") (sCons (eMeth "Database" "ancestors" f_Database_ancestors (d_Database_ancestors.drop 0) (sVar 0) (sCons (sBin oIx (sVarB 1) (cI 1)) sNil)) sNil)))) bNil)
    (bSeq (bIf (sBl (sBin (oDIn true) (sBin oIx (sVarB 1) (cI 1)) (eFld a__table__Database "_table" (sVar 0)))) (bRet (sTup (sCons (cS "gone") sNil))) bNil)
    (bSeq (bSet 2 (eMeth "Database" "attribute" f_Database_attribute (d_Database_attribute.drop 0) (sVar 0) (sCons (sBin oIx (sVarB 1) (cI 1)) (sCons (sBin oIx (sVarB 1) (cI 2)) sNil))))
    (bRet e0_Database_tell))))
noncomputable def f_Database_tell : Sem1 := semB [true, false] 3 b_Database_tell
def d__check_parents : List D := []
noncomputable def l0__check_parents : SS := (bExpr (sCallU f_check_uid__n (d_check_uid__n.drop 1) (sCons (sVarB 1) (sCons (cS "parents") sNil))))
noncomputable def b__check_parents : SS := (bSeq (bIf (sOr (sBl (sBin oGt (sCall oLen (sCons (sVarB 0) sNil)) (cG c_PARENTS_MOST))) (sNot (sTru (sQ (sCallU f_is_rising (d_is_rising.drop 0) (sCons (sVarB 0) sNil)))))) (bRaise "OutOfRange" ["name"] (sCons (cS "parents") sNil)) bNil)
    (bFor (sItems (sVarS 0)) (tgName 1) l0__check_parents))
noncomputable def f__check_parents : Sem1 := semB [false] 2 b__check_parents
def d_check_entity : List D := []
noncomputable def b_check_entity : SS := (bSeq (bAsg (tgTup 3 (tgCons (tgName 1) (tgCons (tgName 2) (tgCons (tgName 3) tgNil)))) (sVar 0))
    (bSeq (bExpr (sCallU f_check_uid__n (d_check_uid__n.drop 0) (sCons (sVarB 1) sNil)))
    (bSeq (bIf (sNot (sTru (sQ (sCallU f_are_named (d_are_named.drop 0) (sCons (sVarB 2) (sCons (cG c_ATTRIBUTES_MOST) sNil)))))) (bRaise "OutOfRange" ["name"] (sCons (cS "attributes") sNil)) bNil)
    (bExpr (sCallU f__check_parents (d__check_parents.drop 0) (sCons (sVarB 3) sNil))))))
noncomputable def f_check_entity : Sem1 := semB [true] 4 b_check_entity
noncomputable def l0_Database___init__ : SS := (bSeq (bTryF (fun c => t_OutOfRange__OutOfRange.lookup c) "OutOfRange" ["name"] (bExpr (sCallU f_check_entity (d_check_entity.drop 0) (sCons (sVar 3) sNil))) (sCons (cS "entities") sNil))
    (bSeq (bIf (sBl (sBin (oDIn false) (sBin oIx (sVarB 3) (cI 0)) (sVarB 2))) (bRaise "OutOfRange" ["name"] (sCons (cS "entities") sNil)) bNil)
    (bDPut (sVar 2) (sBin oIx (sVarB 3) (cI 0)) (sTup (sCons (sBin oIx (sVarB 3) (cI 0)) (sCons (sCall oTuple (sCons (sBin oIx (sVarB 3) (cI 1)) sNil)) (sCons (sCall oTuple (sCons (sBin oIx (sVarB 3) (cI 2)) sNil)) sNil)))))))
noncomputable def e0_Database___init__ : SE := (sDc [4] (sItems (sCall oSortD (sCons (sVarB 2) sNil))) (tgName 4) sYes (sVar 4) (sBin oDIx (sVarB 2) (sVarB 4)))
noncomputable def b_Database___init__ : SS := (bSeq (bIf (sBl (sBin oGt (sCall oLen (sCons (sVarB 1) sNil)) (cG c_ENTITIES_MOST))) (bRaise "OutOfRange" ["name"] (sCons (cS "entities") sNil)) bNil)
    (bSeq (bSet 2 (sObj sNewD))
    (bSeq (bFor (sItems (sVarS 1)) (tgName 3) l0_Database___init__)
    (bFld a__table__Database "_table" (sVar 0) e0_Database___init__))))
noncomputable def f_Database___init__ : Sem1 := semB [true, false] 5 b_Database___init__
theorem key_inj {α : Type} {key : α → Str} {l : List α} (hn : (l.map key).Nodup) {a b : α} (ha : a ∈ l) (hb : b ∈ l) (h : key a = key b) : a = b := by
  induction l with
  | nil => cases ha
  | cons c r ih =>
    rw [List.map_cons, List.nodup_cons] at hn
    rcases List.mem_cons.mp ha with e1 | h1 <;> rcases List.mem_cons.mp hb with e2 | h2
    · rw [e1, e2]
    · exact absurd (by rw [← e1, h]; exact List.mem_map.mpr ⟨b, h2, rfl⟩) hn.1
    · exact absurd (by rw [← e2, ← h]; exact List.mem_map.mpr ⟨a, h1, rfl⟩) hn.1
    · exact ih hn.2 h1 h2
structure Ent where
  uid : Str
  attrs : List NV
  pars : List Str
abbrev Ent.rest (e : Ent) : List D := [.tup (e.attrs.map NVd), .tup (e.pars.map .str)]
def Ent.d (e : Ent) : D := .tup [.str e.uid, .tup (e.attrs.map NVd), .tup (e.pars.map .str)]
theorem Ent.row (e : Ent) : e.d = .tup (.str e.uid :: e.rest) := rfl
@[simp] theorem dref_ent (S : Sto) (e : Ent) : dref S e.d = e.d := rfl
@[simp] theorem ent0 (e : Ent) : oIx e.d (.int 0) = some (.str e.uid) := rfl
@[simp] theorem ent1 (e : Ent) : oIx e.d (.int 1) = some (.tup (e.attrs.map NVd)) := rfl
@[simp] theorem ent2 (e : Ent) : oIx e.d (.int 2) = some (.tup (e.pars.map .str)) := rfl
structure Ent.fine (e : Ent) : Prop where
  u : e.uid.length ≤ 1000
  a : e.attrs.length ≤ 1000 ∧ ∀ x ∈ e.attrs, x.1.length ≤ 1000 ∧ x.2.fine = true
  p : e.pars.length ≤ 1000 ∧ ∀ t ∈ e.pars, t.length ≤ 1000
def parsOk (l : List Str) : Bool := decide (l.length ≤ 6) && (adjS l && l.all isU)
def Ent.good (e : Ent) : Bool := isU e.uid && (nvOk 8 e.attrs && parsOk e.pars)
theorem chkN_eq {t w : Str} {S : Sto} (h : t.length ≤ 1000) : f_check_uid__n [.str t, .str w] S = if isU t = true then some (.ok .non, S) else some (.error ⟨"OutOfRange", some [("name", .str w)]⟩, S) := by
  have := uid_eq (t := t) (S := S) h
  cases c : isU t <;> rw [c] at this <;> simp [f_check_uid__n, b_check_uid__n, d_is_uid, this]
theorem l0pars {S : Sto} {s0 : Sl} : ∀ (l : List Str) (v : U), (∀ t ∈ l, t.length ≤ 1000) →
    (l.all isU = true → ∃ w : U, forD (tgName 1) l0__check_parents (l.map .str) [s0, v.1] S = some (.nx [s0, w.1], S)) ∧
    (l.all isU = false → ∃ w : U, forD (tgName 1) l0__check_parents (l.map .str) [s0, v.1] S = some (.exc [s0, w.1] ⟨"OutOfRange", some [("name", .str "parents")]⟩, S))
  | [], v, _ => ⟨fun _ => ⟨v, by simp⟩, fun h => by simp at h⟩
  | t :: l, v, hl => by
    obtain ⟨i1, i2⟩ := l0pars (S := S) (s0 := s0) l ⟨.val (.str t), rfl⟩ (fun y hy => hl y (List.mem_cons_of_mem _ hy))
    have e1 := chkN_eq (t := t) (w := "parents") (S := S) (hl t (by simp))
    rw [List.map_cons, List.all_cons]
    cases hn : isU t <;> rw [hn] at e1
    · refine ⟨fun h => by simp at h, fun _ => ⟨⟨.val (.str t), rfl⟩, for1x (by simp) (by simp [l0__check_parents, d_check_uid__n, e1])⟩⟩
    · refine ⟨fun h => ?_, fun h => ?_⟩
      · obtain ⟨w, e⟩ := i1 (by simpa using h)
        exact ⟨w, (for1 (by simp) (by simp [l0__check_parents, d_check_uid__n, e1])).trans e⟩
      · obtain ⟨w, e⟩ := i2 (by simpa using h)
        exact ⟨w, (for1 (by simp) (by simp [l0__check_parents, d_check_uid__n, e1])).trans e⟩
theorem len_strsT {l : List Str} : oLen [.tup (l.map .str)] = some (.int l.length) := by
  show some (D.int ((l.map D.str).length : Nat)) = _
  rw [List.length_map]
theorem pars_eq {l : List Str} (h : ∀ t ∈ l, t.length ≤ 1000) (S : Sto) : f__check_parents [.tup (l.map .str)] S = if parsOk l = true then some (.ok .non, S) else some (.error ⟨"OutOfRange", some [("name", .str "parents")]⟩, S) := by
  have ll := len_strsT (l := l)
  have rs := rising_t (l := l) S
  obtain ⟨i1, i2⟩ := l0pars (S := S) (s0 := .bo (.tup (l.map .str))) l ⟨.no, rfl⟩ h
  unfold parsOk
  by_cases h6 : l.length ≤ 6
  · have h6' : ¬ (6 : Int) < l.length := by omega
    rw [decide_eq_true h6, Bool.true_and]
    cases ha : adjS l <;> rw [ha] at rs
    · generalize l.map D.str = M at *
      simp [f__check_parents, b__check_parents, c_PARENTS_MOST, ll, h6', d_is_rising, rs]
    · cases hu : l.all isU with
      | true =>
        obtain ⟨w, e⟩ := i1 hu
        generalize l.map D.str = M at *
        simp at e
        simp [f__check_parents, b__check_parents, c_PARENTS_MOST, ll, h6', d_is_rising, rs, e]
      | false =>
        obtain ⟨w, e⟩ := i2 hu
        generalize l.map D.str = M at *
        simp at e
        simp [f__check_parents, b__check_parents, c_PARENTS_MOST, ll, h6', d_is_rising, rs, e]
  · have h6' : (6 : Int) < l.length := by omega
    rw [decide_eq_false h6]
    generalize l.map D.str = M at *
    simp [f__check_parents, b__check_parents, c_PARENTS_MOST, ll, h6', d_is_rising]
def Ent.what (e : Ent) : Str := if isU e.uid = true then if nvOk 8 e.attrs = true then "parents" else "attributes" else "uid"
theorem chke_eq {e : Ent} (h : e.fine) (S : Sto) : f_check_entity [e.d] S = if e.good = true then some (.ok .non, S) else some (.error ⟨"OutOfRange", some [("name", .str e.what)]⟩, S) := by
  have e1 := chkN_eq (t := e.uid) (w := "uid") (S := S) h.u
  have e2 := named_t (l := e.attrs) (m := 8) (n := 8) rfl h.a.1 h.a.2 S
  have e3 := pars_eq (l := e.pars) h.p.2 S
  have t : ∀ ρ, tgTup 3 (tgCons (tgName 1) (tgCons (tgName 2) (tgCons (tgName 3) tgNil))) e.d ρ = (tgCons (tgName 1) (tgCons (tgName 2) (tgCons (tgName 3) tgNil))) [.str e.uid, .tup (e.attrs.map NVd), .tup (e.pars.map .str)] ρ := fun ρ => rfl
  unfold Ent.good Ent.what
  generalize e.pars.map D.str = M at *
  generalize e.attrs.map NVd = N at *
  cases h1 : isU e.uid <;> rw [h1] at e1
  · simp [f_check_entity, b_check_entity, t, d_check_uid__n, e1]
  · cases h2 : nvOk 8 e.attrs <;> rw [h2] at e2
    · simp [f_check_entity, b_check_entity, t, d_check_uid__n, e1, d_are_named, c_ATTRIBUTES_MOST, e2]
    · cases h3 : parsOk e.pars <;> rw [h3] at e3 <;> simp [f_check_entity, b_check_entity, t, d_check_uid__n, e1, d_are_named, c_ATTRIBUTES_MOST, e2, d__check_parents, e3]
theorem gK_none {κ α : Type} [DecidableEq κ] {k : κ} : ∀ {l : List (κ × α)}, k ∉ l.map (·.1) → gK l k = none
  | [], _ => rfl
  | p :: r, h => by
    rw [List.map_cons, List.mem_cons, not_or] at h
    rw [gK_neg (fun e => h.1 e.symm)]; exact gK_none h.2
theorem pK_new {κ α : Type} [DecidableEq κ] {k : κ} {v : α} {l : List (κ × α)} (h : k ∉ l.map (·.1)) : pK l k v = l ++ [(k, v)] := by
  unfold pK
  rw [gK_any, gK_none h]; rfl
theorem dcD_new {t : D → Rho → Option Rho} {ft : ST} {fk fe : SE} {ρ : Rho} {S : Sto} {α : Type} (k : α → Str) (g src : α → D) : ∀ (L : List α) (out : List (Key × D)), (out.map (·.1) ++ L.map fun a => (Sum.inr (k a) : Key)).Nodup → out.length + L.length ≤ sizeLine →
    (∀ a ∈ L, ∃ ρ1, t (src a) ρ = some ρ1 ∧ ft ρ1 S = some (.ok true, S) ∧ fk ρ1 S = some (.ok (.str (k a)), S) ∧ fe ρ1 S = some (.ok (g a), S)) →
    dcD t ft fk fe ρ out (L.map src) S = some (.ok (.dK (out ++ L.map fun a => (Sum.inr (k a), g a))), S)
  | [], out, _, _, _ => by simp [dcD]
  | a :: L, out, hn, hl, h => by
    obtain ⟨ρ1, e1, e2, e3, e4⟩ := h a (by simp)
    rw [List.length_cons] at hl
    have ho : (Sum.inr (k a) : Key) ∉ out.map (·.1) := fun m => (List.nodup_append.mp hn).2.2 _ m _ (by simp) rfl
    have ih := dcD_new (t := t) (ft := ft) (fk := fk) (fe := fe) (ρ := ρ) (S := S) k g src L (out ++ [(.inr (k a), g a)]) (by simpa using hn) (by simp; omega) (fun b hb => h b (List.mem_cons_of_mem _ hb))
    rw [List.map_cons]
    have hz : out.length < sizeLine := by omega
    show (match t (src a) ρ with | none => mf | some ρ1 => mb (mq (ft ρ1)) fun b => if b = true then mb (mq (fk ρ1)) fun k => mb (mq (fe ρ1)) fun y => match kyD k with
      | none => mf
      | some kk => if out.length < sizeLine then dcD t ft fk fe ρ (pK out kk y) (L.map src) else mf else dcD t ft fk fe ρ out (L.map src)) S = _
    rw [e1]
    simp only [mb_e, mq_ok, e2, e3, e4, if_true, kyD_s, hz, pK_new ho, ih]
    simp
def dbK (es : List Ent) : List (Key × D) := es.map fun e => (.inr e.uid, e.d)
abbrev DB (es : List Ent) : Ob := .ins "Database" [("_table", .dK (dbK es))]
def srt (es : List Ent) : List Ent := es.mergeSort fun a b => strLe a.uid b.uid
theorem dbK_keys (es : List Ent) : (dbK es).map (·.1) = (es.map (·.uid)).map (Sum.inr : Str → Key) := by
  unfold dbK; rw [List.map_map, List.map_map]; rfl
theorem inr_nodup {l : List Str} : (l.map (Sum.inr : Str → Key)).Nodup ↔ l.Nodup :=
  by unfold List.Nodup; rw [List.pairwise_map]; simp
theorem gK_find (u : Str) : ∀ es : List Ent, gK (dbK es) (.inr u) = (es.find? fun e => decide (e.uid = u)).map Ent.d
  | [] => rfl
  | e :: es => by
    have ih := gK_find u es
    unfold dbK at ih ⊢
    rw [List.map_cons, List.find?_cons]
    by_cases h : e.uid = u
    · rw [gK_pos (p := ((Sum.inr e.uid : Key), e.d)) (by rw [h]), decide_eq_true h]; rfl
    · rw [gK_neg (p := ((Sum.inr e.uid : Key), e.d)) (fun z => h (Sum.inr.inj z)), decide_eq_false h, ih]
theorem find_uid {e : Ent} : ∀ {es : List Ent}, (es.map (·.uid)).Nodup → e ∈ es → (es.find? fun x => decide (x.uid = e.uid)) = some e := fun {es} hn he => by
  cases h : es.find? fun x => decide (x.uid = e.uid) with
  | none => exact absurd (by simp) (List.find?_eq_none.mp h e he)
  | some x =>
    have h1 : x.uid = e.uid := by simpa using List.find?_some h
    rw [key_inj hn (List.mem_of_find?_eq_some h) he h1]
theorem keyS_db (es : List Ent) : keyS (dbK es) = some (es.map (·.uid)) := by
  unfold dbK
  induction es with
  | nil => rfl
  | cons e es ih =>
    rw [List.map_cons, List.map_cons]
    show (keyS (es.map fun e => ((Sum.inr e.uid : Key), e.d))).map (e.uid :: ·) = _
    rw [ih]; rfl
theorem srt_uids (es : List Ent) : (srt es).map (·.uid) = (es.map (·.uid)).mergeSort strLe :=
  List.map_mergeSort (f := fun e : Ent => e.uid) (r := fun a b : Ent => strLe a.uid b.uid) (s := strLe) (l := es) (fun a _ b _ => rfl)
theorem srt_perm (es : List Ent) : (srt es).Perm es := List.mergeSort_perm _ _
theorem srt_mem {es : List Ent} {e : Ent} : e ∈ srt es ↔ e ∈ es := (srt_perm es).mem_iff
theorem srt_nodup {es : List Ent} (h : (es.map (·.uid)).Nodup) : ((srt es).map (·.uid)).Nodup := ((srt_perm es).map (·.uid)).nodup_iff.mpr h
def oorE : Xc := ⟨"OutOfRange", some [("name", .str "entities")]⟩
theorem l0init {A : Sto} {s0 s1 : Sl} : ∀ (r done : List Ent) (v : U), (∀ e ∈ r, e.fine) → (done.map (·.uid)).Nodup → done.length + r.length ≤ 1000 →
    (r.all Ent.good = true → ((done ++ r).map (·.uid)).Nodup → ∃ w : U, forD (tgName 3) l0_Database___init__ (r.map Ent.d) [s0, s1, .val (.obj A.length), v.1, .no] (A ++ [.dK (dbK done)]) = some (.nx [s0, s1, .val (.obj A.length), w.1, .no], A ++ [.dK (dbK (done ++ r))])) ∧
    (¬ (r.all Ent.good = true ∧ ((done ++ r).map (·.uid)).Nodup) → ∃ (ρ' : Rho) (tb : List (Key × D)), forD (tgName 3) l0_Database___init__ (r.map Ent.d) [s0, s1, .val (.obj A.length), v.1, .no] (A ++ [.dK (dbK done)]) = some (.exc ρ' oorE, A ++ [.dK tb]))
  | [], done, v, _, hn, _ => ⟨fun _ _ => ⟨v, by simp⟩, fun h => absurd ⟨rfl, by simpa using hn⟩ h⟩
  | e :: r, done, v, hf, hn, hl => by
    rw [List.length_cons] at hl
    have g := chke_eq (hf e (by simp)) (A ++ [.dK (dbK done)])
    have at0 : (A ++ [Ob.dK (dbK done)])[A.length]? = some (.dK (dbK done)) := by simp
    have dr := dref_dKat at0
    have st := stK_at at0
    have lz : (dbK done).length < sizeLine := by unfold dbK; rw [List.length_map, line_eq]; omega
    have ks := dbK_keys done
    have tl : t_OutOfRange__OutOfRange.lookup ("OutOfRange" : Str) = some true := rfl
    rw [List.map_cons]
    cases hg : e.good with
    | false =>
      rw [hg] at g
      refine ⟨fun h => by simp [hg] at h, fun _ => ?_⟩
      exact ⟨[s0, s1, .val (.obj A.length), .val e.d, .no], dbK done, for1x (by simp) (by simp [l0_Database___init__, d_check_entity, g, tl, oorE])⟩
    | true =>
      rw [hg] at g
      by_cases hm : e.uid ∈ done.map (·.uid)
      · have gs : (gK (dbK done) (.inr e.uid)).isSome = true := by rw [← gK_any, List.any_eq_true]; obtain ⟨x, hx, e1⟩ := List.mem_map.mp hm; exact ⟨(.inr x.uid, x.d), List.mem_map.mpr ⟨x, hx, rfl⟩, by simp [e1]⟩
        refine ⟨fun _ h => ?_, fun _ => ?_⟩
        · rw [List.map_append] at h
          exact absurd rfl ((List.nodup_append.mp h).2.2 _ hm _ (by simp))
        · exact ⟨[s0, s1, .val (.obj A.length), .val e.d, .no], dbK done, for1x (by simp) (by simp [l0_Database___init__, d_check_entity, g, dr, gs, oorE])⟩
      · have gs : gK (dbK done) (.inr e.uid) = none := gK_none (by rw [ks]; simpa using hm)
        have pk : pK (dbK done) (.inr e.uid) e.d = dbK (done ++ [e]) := by rw [pK_new (by rw [ks]; simpa using hm)]; unfold dbK; rw [List.map_append]; rfl
        have ot : ∀ l : List D, oTuple [.tup l] = some (.tup l) := fun _ => rfl
        have l3 : (3 : Nat) ≤ sizeLine := by decide
        have step : l0_Database___init__ [s0, s1, .val (.obj A.length), .val e.d, .no] (A ++ [.dK (dbK done)]) = some (.nx [s0, s1, .val (.obj A.length), .val e.d, .no], A ++ [.dK (dbK (done ++ [e]))]) := by
          have pk' : pK (dbK done) (.inr e.uid) (.tup [.str e.uid, .tup (e.attrs.map NVd), .tup (e.pars.map .str)]) = dbK (done ++ [e]) := pk
          generalize dbK done = T at *
          generalize dbK (done ++ [e]) = T2 at *
          simp [l0_Database___init__, d_check_entity, g, dr, gs, st, lz, ot, l3, pk']
        obtain ⟨i1, i2⟩ := l0init (A := A) (s0 := s0) (s1 := s1) r (done ++ [e]) ⟨.val e.d, rfl⟩ (fun x hx => hf x (List.mem_cons_of_mem _ hx)) (by
          rw [List.map_append, List.nodup_append]
          exact ⟨hn, by simp, fun a ha b hb z => hm (by simp at hb; rw [← hb, ← z]; exact ha)⟩) (by simp; omega)
        rw [List.append_assoc, List.singleton_append] at i1 i2
        refine ⟨fun h h2 => ?_, fun h => ?_⟩
        · obtain ⟨w, e1⟩ := i1 (by simpa [hg] using h) h2
          exact ⟨w, (for1 (by simp) (by exact step)).trans e1⟩
        · obtain ⟨ρ', tb, e1⟩ := i2 fun h3 => h ⟨by simpa [hg] using h3.1, h3.2⟩
          exact ⟨ρ', tb, (for1 (by simp) (by exact step)).trans e1⟩
def dbOk (es : List Ent) : Prop := es.length ≤ 40 ∧ es.all Ent.good = true ∧ (es.map (·.uid)).Nodup
theorem init_ok {es : List Ent} (hf : ∀ e ∈ es, e.fine) (h : dbOk es) (S0 : Sto) : f_Database___init__ [.obj S0.length, .lst (es.map Ent.d)] (S0 ++ [.ins "Database" []]) = some (.ok .non, S0 ++ [DB (srt es), .dK (dbK es)]) := by
  obtain ⟨h1, h2, h3⟩ := h
  have ll : oLen [.lst (es.map Ent.d)] = some (.int es.length) := by show some (D.int ((es.map Ent.d).length : Nat)) = _; rw [List.length_map]
  have h4 : ¬ (40 : Int) < es.length := by omega
  obtain ⟨w, e1⟩ := (l0init (A := S0 ++ [.ins "Database" []]) (s0 := .val (.obj S0.length)) (s1 := .bo (.lst (es.map Ent.d))) es [] ⟨.no, rfl⟩ hf (by simp) (by simp; omega)).1 h2 (by simpa using h3)
  rw [List.nil_append] at e1
  have la : (S0 ++ [Ob.ins "Database" []]).length = S0.length + 1 := by simp
  have at1 : (S0 ++ [Ob.ins "Database" []] ++ [.dK (dbK es)])[S0.length + 1]? = some (.dK (dbK es)) := by simp
  have dr := dref_dKat at1
  have so : oSortD [.dK (dbK es)] = some (.lst (((srt es).map (·.uid)).map .str)) := by
    unfold oSortD
    simp only [keyS_db]
    rw [if_pos (by rw [List.length_map]; omega), srt_uids]
  have dc := dcD_new (t := tgName 4) (ft := sYes) (fk := sVar 4) (fe := sBin oDIx (sVarB 2) (sVarB 4)) (ρ := [.val (.obj S0.length), .bo (.lst (es.map Ent.d)), .val (.obj (S0.length + 1)), w.1, .no]) (S := S0 ++ [.ins "Database" []] ++ [.dK (dbK es)])
    (fun e : Ent => e.uid) Ent.d (fun e => .str e.uid) (srt es) [] (by
      have := inr_nodup.mpr (srt_nodup h3)
      rw [List.map_map] at this
      exact this) (by rw [(srt_perm es).length_eq, line_eq]; simp; omega) (fun e he => by
      have ge : gK (dbK es) (.inr e.uid) = some e.d := by rw [gK_find, find_uid h3 (srt_mem.mp he)]; rfl
      exact ⟨[.val (.obj S0.length), .bo (.lst (es.map Ent.d)), .val (.obj (S0.length + 1)), w.1, .val (.str e.uid)], by simp, rfl, by simp, by
        generalize dbK es = T at *
        generalize hS : S0 ++ [Ob.ins "Database" []] ++ [Ob.dK T] = S at *
        simp [dr, ge]⟩)
  have at0 : stI (S0 ++ [Ob.ins "Database" []] ++ [.dK (dbK es)]) S0.length = some (("Database" : Str), ([] : List (Str × D))) := stI_at (by simp)
  have tb : ("Database" : Str) ∈ a__table__Database := List.mem_cons_self
  have hm : ((srt es).map (·.uid)).map D.str = (srt es).map fun e => D.str e.uid := by rw [List.map_map]; rfl
  rw [List.nil_append] at dc
  rw [hm] at so
  have db2 : ((srt es).map fun a => ((Sum.inr a.uid : Key), a.d)) = dbK (srt es) := rfl
  rw [db2] at dc
  have fin : (S0 ++ [Ob.ins "Database" []] ++ [Ob.dK (dbK es)]).set S0.length (Ob.ins "Database" [("_table", .dK (dbK (srt es)))]) = S0 ++ [DB (srt es), Ob.dK (dbK es)] := by
    rw [List.append_assoc, List.set_append_right _ _ (Nat.le_refl _)]
    simp
  have wp : wipeR [.val (.obj S0.length), .bo (.lst (es.map Ent.d)), .val (.obj (S0.length + 1)), w.1, .no] [4] = [.val (.obj S0.length), .bo (.lst (es.map Ent.d)), .val (.obj (S0.length + 1)), w.1, .no] := rfl
  have s1 : dbK [] = [] := rfl
  rw [s1, la] at e1
  generalize (srt es).map (fun e => D.str e.uid) = M1 at *
  generalize es.map Ent.d = M at *
  generalize dbK es = T at *
  generalize dbK (srt es) = T2 at *
  simp only [List.append_assoc, List.cons_append, List.nil_append] at *
  simp [f_Database___init__, b_Database___init__, c_ENTITIES_MOST, ll, h4, e1]
  simp [e0_Database___init__, dr, so, wp, dc, at0, tb, putD, fin]
@[simp] theorem atI_2 {α : Type} (a b c : α) (l : List α) : atI (a :: b :: c :: l) 2 = some c := by unfold atI; rw [ixN_nat (by omega) (by simp only [List.length_cons]; omega)]; rfl
section
variable {S : Sto} {n : Nat} {es : List Ent}
@[simp] theorem tb_db : (("Database" : Str) ∈ a__table__Database) = True := eq_true List.mem_cons_self
def hasU (es : List Ent) (u : Str) : Bool := (es.find? fun e => decide (e.uid = u)).isSome
def entU (es : List Ent) (u : Str) : Option Ent := es.find? fun e => decide (e.uid = u)
def parsU (es : List Ent) (u : Str) : List Str := match entU es u with
  | none => []
  | some e => e.pars
theorem entU_some {u : Str} {e : Ent} (h : entU es u = some e) : e ∈ es ∧ e.uid = u := ⟨List.mem_of_find?_eq_some h, by simpa using List.find?_some h⟩
def attrU (es : List Ent) (u n : Str) : D := match entU es u with
  | none => .non
  | some e => found n e.attrs
inductive Reach (es : List Ent) (u : Str) : Str → Prop
  | refl : Reach es u u
  | step {y p : Str} : Reach es u y → p ∈ parsU es y → Reach es u p
abbrev Ris (l : List Str) : Prop := l.Pairwise fun a b => strLe a b = true ∧ a ≠ b
structure IsAnc (es : List Ent) (u : Str) (l : List Str) : Prop where
  r : Ris l
  m : ∀ x, x ∈ l ↔ x ≠ u ∧ Reach es u x
open Classical in
noncomputable def anc (es : List Ent) (u : Str) : List Str := if h : ∃ l, IsAnc es u l then h.choose else []
def Few (es : List Ent) (us : List Str) : Prop := us.length < 63 ∧ (∀ e ∈ es, ∀ p ∈ e.pars, p ∈ us) ∧ ∀ e ∈ es, e.pars.length ≤ 1000
def ancR (u : Str) : D := .tup [.str "ancestors", .str u]
def attR (u m : Str) : D := .tup [.str "attribute", .str u, .str m]
def aboveD (l : List Str) : D := .tup [.str "above", .tup (l.map .str)]
def toldD (es : List Ent) (u m : Str) : D := if hasU es u = true then if DL.isN (attrU es u m) = true then .tup [.str "none"] else .tup [.str "value", attrU es u m] else .tup [.str "gone"]
end
theorem strs_sm {l : List Str} {k : Nat} (h : ∀ t ∈ l, isU t = true) (hk : l.length ≤ k) : Sm 1 (41 * k) (.tup (l.map .str)) :=
  Sm.tup (n := 0) (w := 40) (fun d hd => by obtain ⟨t, ht, rfl⟩ := List.mem_map.mp hd; exact isU_sm (h t ht)) (by rw [List.length_map]; exact hk)
theorem nv_smG {x : NV} (h1 : isN x.1 = true) (h2 : x.2.ok = true) : Sm 4 3000 (NVd x) :=
  (Sm.tup (n := 3) (w := 1400) (k := 2) (fa1 ((isN_sm h1).mono (Nat.le_refl _) (by decide)) (fa1 (Vl.sm h2) fa0)) (by simp)).mono (Nat.le_refl _) (by decide)
theorem nvs_smG {l : List NV} {m : Nat} (h : nvOk m l = true) : Sm 5 (3001 * m) (.tup (l.map NVd)) := by
  unfold nvOk at h
  rw [Bool.and_eq_true, Bool.and_eq_true, List.all_eq_true] at h
  refine Sm.tup (n := 4) (w := 3000) (fun d hd => ?_) (by rw [List.length_map]; exact of_decide_eq_true h.1)
  obtain ⟨x, hx, rfl⟩ := List.mem_map.mp hd
  have := h.2.1 x hx
  rw [Bool.and_eq_true] at this
  exact nv_smG this.1 this.2
theorem Ent.sm {e : Ent} (h : e.good = true) : Sm 6 73000 e.d := by
  unfold Ent.good at h
  rw [Bool.and_eq_true, Bool.and_eq_true] at h
  obtain ⟨h1, h2, h3⟩ := h
  unfold parsOk at h3
  rw [Bool.and_eq_true, Bool.and_eq_true, List.all_eq_true] at h3
  exact (Sm.tup (n := 5) (w := 24008) (k := 3) (fa1 ((isU_sm (n := 5) h1).mono (Nat.le_refl _) (by decide)) (fa1 (nvs_smG h2) (fa1 ((strs_sm (k := 6) h3.2.2 (of_decide_eq_true h3.1)).mono (by decide) (by decide)) fa0))) (by simp)).mono (Nat.le_refl _) (by decide)
theorem Ent.fine_of {e : Ent} (h : e.good = true) : e.fine := by
  unfold Ent.good at h
  rw [Bool.and_eq_true, Bool.and_eq_true] at h
  obtain ⟨h1, h2, h3⟩ := h
  unfold parsOk at h3
  unfold nvOk at h2
  rw [Bool.and_eq_true, Bool.and_eq_true, List.all_eq_true] at h3 h2
  refine ⟨by have := isU_len h1; omega, ⟨by have := of_decide_eq_true h2.1; omega, fun x hx => ?_⟩, by have := of_decide_eq_true h3.1; omega, fun t ht => by have := isU_len (h3.2.2 t ht); omega⟩
  have := h2.2.1 x hx
  rw [Bool.and_eq_true] at this
  exact ⟨by have := isN_iff.mp this.1; omega, Vl.ok_fine this.2⟩
end G
namespace G
open PySem DL L2
section
variable {S : Sto} {es : List Ent} {us : List Str} {u : Str}
structure Rcd (es : List Ent) (us : List Str) (u : Str) (R : List Str) : Prop where
  nd : R.Nodup
  m : ∀ x ∈ R, Reach es u x ∧ (x = u ∨ x ∈ us)
theorem Rcd.len {R : List Str} (h : Rcd es us u R) (hf : Few es us) : R.length ≤ 63 := by
  have := nodup_sub_len (S := R) (l := u :: us) h.nd (fun t ht => by rcases (h.m t ht).2 with h | h <;> simp [h])
  have := hf.1
  simp at *; omega
def cnt (es : List Ent) (R : List Str) : Nat := (es.filter fun e => decide (e.uid ∈ R)).length
end
end G
namespace G
open PySem DL L2
def a__base__History : List Str := ["History"]
def a__databases__History : List Str := ["History"]
@[simp] theorem oGt_s (i j : Str) : oGt (.str i) (.str j) = some (.bl (decide (j.cps.toList < i.cps.toList))) := rfl
@[simp] theorem atI_3 {α : Type} (a b c d : α) (l : List α) : atI (a :: b :: c :: d :: l) 3 = some d := by unfold atI; rw [ixN_nat (by omega) (by simp only [List.length_cons]; omega)]; rfl
inductive Chg where
  | make (u : Str) (ps : List Str) | drop (u : Str) | set (u n : Str) (v : Vl) | clear (u n : Str) | under (u : Str) (ps : List Str)
def Chg.d : Chg → D
  | .make u ps => .tup [.str "make", .str u, .tup (ps.map .str)]
  | .drop u => .tup [.str "drop", .str u]
  | .set u n v => .tup [.str "set", .str u, .str n, v.d]
  | .clear u n => .tup [.str "clear", .str u, .str n]
  | .under u ps => .tup [.str "under", .str u, .tup (ps.map .str)]
def Chg.uid : Chg → Str
  | .make u _ => u
  | .drop u => u
  | .set u _ _ => u
  | .clear u _ => u
  | .under u _ => u
def Chg.fine : Chg → Prop
  | .make u ps => u.length ≤ 1000 ∧ ∀ t ∈ ps, t.length ≤ 1000
  | .drop u => u.length ≤ 1000
  | .set u n v => u.length ≤ 1000 ∧ n.length ≤ 1000 ∧ v.fine = true
  | .clear u n => u.length ≤ 1000 ∧ n.length ≤ 1000
  | .under u ps => u.length ≤ 1000 ∧ ∀ t ∈ ps, t.length ≤ 1000
def Chg.good : Chg → Bool
  | .make u ps => isU u && parsOk ps
  | .drop u => isU u
  | .set u n v => isU u && (isN n && v.ok)
  | .clear u n => isU u && isN n
  | .under u ps => isU u && parsOk ps
def Chg.what : Chg → Str
  | .make u _ => if isU u = true then "parents" else "uid"
  | .drop _ => "uid"
  | .set u n _ => if isU u = true then if isN n = true then "value" else "name" else "uid"
  | .clear u _ => if isU u = true then "name" else "uid"
  | .under u _ => if isU u = true then "parents" else "uid"
@[simp] theorem dref_chg (S : Sto) (c : Chg) : dref S c.d = c.d := by cases c <;> rfl
theorem hb (b : Bool) : b = false ∨ b = true := by cases b <;> simp
def sLt (a b : Str) : Bool := decide (a.cps.toList < b.cps.toList)
def withV (l : List NV) (n : Str) (v : Vl) : List NV := l.filter (fun x => sLt x.1 n) ++ (n, v) :: l.filter (fun x => sLt n x.1)
def refu (es : List Ent) : Chg → Option Str
  | .make u _ => if hasU es u = true then some ("entity exists" : Str) else if es.length = 40 then some ("too many entities" : Str) else none
  | .set u n _ => match entU es u with
    | none => some ("no such entity" : Str)
    | some e => if n ∉ e.attrs.map (·.1) ∧ e.attrs.length = 8 then some ("too many attributes" : Str) else none
  | .clear u n => match entU es u with
    | none => some ("no such entity" : Str)
    | some e => if n ∉ e.attrs.map (·.1) then some ("no such attribute" : Str) else none
  | .drop u => if hasU es u = true then none else some ("no such entity" : Str)
  | .under u _ => if hasU es u = true then none else some ("no such entity" : Str)
@[simp] theorem isN_ent (e : Ent) : DL.isN e.d = false := rfl
def del (es : List Ent) (u : Str) : List Ent := es.filter fun e => !decide (e.uid = u)
def Chg.on (c : Chg) (e : Ent) : Ent := match c with
  | .set u n v => ⟨u, withV e.attrs n v, e.pars⟩
  | .clear u n => ⟨u, e.attrs.filter fun x => !decide (x.1 = n), e.pars⟩
  | .under u ps => ⟨u, e.attrs, ps⟩
  | _ => e
def mk1 (es : List Ent) : Chg → List Ent
  | .make u ps => es ++ [⟨u, [], ps⟩]
  | .drop u => del es u
  | c => match entU es c.uid with
    | none => es
    | some e => del es c.uid ++ [c.on e]
structure Tbl (es : List Ent) : Prop where
  l : es.length ≤ 40
  n : (es.map (·.uid)).Nodup
  g : ∀ e ∈ es, e.good = true
theorem Tbl.ok {es : List Ent} (h : Tbl es) : dbOk es := ⟨h.l, List.all_eq_true.mpr h.g, h.n⟩
theorem Tbl.fine {es : List Ent} (h : Tbl es) : ∀ e ∈ es, e.fine := fun e he => Ent.fine_of (h.g e he)
theorem Tbl.perm {es fs : List Ent} (h : Tbl es) (p : fs.Perm es) : Tbl fs := ⟨by rw [p.length_eq]; exact h.l, (p.map (·.uid)).nodup_iff.mpr h.n, fun e he => h.g e (p.mem_iff.mp he)⟩
theorem Tbl.srt {es : List Ent} (h : Tbl es) : Tbl (srt es) := h.perm (srt_perm es)
def runC (es : List Ent) (k : Nat) : List Chg → (Nat × Str) ⊕ List Ent
  | [] => .inr es
  | c :: cs => match refu es c with
    | some w => .inl (k, w)
    | none => runC (mk1 es c) (k + 1) cs
section
variable {S : Sto} {n : Nat} {es : List Ent} {cs : List Chg}
end
abbrev HI (b : Int) (L : Nat) : Ob := .ins "History" [("_base", .int b), ("_databases", .obj L)]
def objs (ids : List Nat) : List D := ids.map D.obj
structure Hist (S : Sto) (h L : Nat) (b : Int) (ids : List Nat) : Prop where
  i : S[h]? = some (HI b L)
  l : S[L]? = some (.lst (objs ids))
@[simp] theorem tb_hb : (("History" : Str) ∈ a__base__History) = True := eq_true List.mem_cons_self
@[simp] theorem tb_hd : (("History" : Str) ∈ a__databases__History) = True := eq_true List.mem_cons_self
inductive Rq where
  | an (u : Str) | at (u m : Str)
def Rq.d : Rq → D
  | .an u => ancR u
  | .at u m => attR u m
noncomputable def tellQ (es : List Ent) : Rq → D
  | .an u => aboveD (anc es u)
  | .at u m => toldD es u m
@[simp] theorem dref_rq (S : Sto) (r : Rq) : dref S r.d = r.d := by cases r <;> rfl
theorem dref_t (S : Sto) (es : List Ent) (u m : Str) : dref S (toldD es u m) = toldD es u m := by
  unfold toldD; split
  · split <;> rfl
  · rfl
@[simp] theorem dref_tq (S : Sto) (es : List Ent) (r : Rq) : dref S (tellQ es r) = tellQ es r := by
  cases r with
  | an u => rfl
  | «at» u m => exact dref_t S es u m
structure Vers (S : Sto) (us : List Str) (ids : List Nat) (vs : List (List Ent)) : Prop where
  n : ids.length = vs.length
  d : ∀ (k i : Nat) (es : List Ent), ids[k]? = some i → vs[k]? = some es → S[i]? = some (DB es)
  g : ∀ es ∈ vs, Tbl es ∧ Few es us
theorem Vers.at {S : Sto} {us : List Str} {ids : List Nat} {vs : List (List Ent)} (V : Vers S us ids vs) {k : Nat} {es : List Ent} (h : vs[k]? = some es) : ∃ i, ids[k]? = some i ∧ S[i]? = some (DB es) ∧ Tbl es ∧ Few es us := by
  obtain ⟨h1, h2⟩ := List.getElem?_eq_some_iff.mp h
  have hk : ids[k]? = some (ids[k]'(by rw [V.n]; exact h1)) := List.getElem?_eq_getElem _
  have hm : es ∈ vs := by rw [← h2]; exact List.getElem_mem h1
  exact ⟨_, hk, V.d k _ es hk h, (V.g es hm).1, (V.g es hm).2⟩
section
variable {S : Sto} {h L : Nat} {b : Int} {us : List Str} {ids : List Nat} {vs : List (List Ent)} {es : List Ent} {cs : List Chg}
theorem at_app {S T : Sto} {n : Nat} {o : Ob} (h : S[n]? = some o) : (S ++ T)[n]? = some o := by
  have := (List.getElem?_eq_some_iff.mp h).1
  rw [List.getElem?_append_left this]; exact h
theorem Hist.app {T : Sto} (H : Hist S h L b ids) : Hist (S ++ T) h L b ids := ⟨at_app H.i, at_app H.l⟩
theorem Vers.app {T : Sto} (V : Vers S us ids vs) : Vers (S ++ T) us ids vs := ⟨V.n, fun k i es h1 h2 => at_app (V.d k i es h1 h2), V.g⟩
end
section
variable {S : Sto} {h L : Nat} {b : Int} {us : List Str} {ids : List Nat} {vs : List (List Ent)}
end
end G
namespace G
open PySem DL L2
def tbV (e : Ent) : D := .lst [.lst (e.attrs.map NVd), .tup (e.pars.map .str)]
@[simp] theorem dref_tbV (S : Sto) (e : Ent) : dref S (tbV e) = tbV e := rfl
@[simp] theorem tb0 (e : Ent) : oIx (tbV e) (.int 0) = some (.lst (e.attrs.map NVd)) := rfl
@[simp] theorem tb1 (e : Ent) : oIx (tbV e) (.int 1) = some (.tup (e.pars.map .str)) := rfl
structure Drawn (us : List Str) (es : List Ent) : Prop where
  r : G.Ris (es.map (·.uid))
  u : ∀ e ∈ es, e.uid ∈ us
  g : ∀ e ∈ es, e.good = true
  pp : ∀ e ∈ es, ∀ t ∈ e.pars, t ∈ us
def Chg.pin (us : List Str) : Chg → Prop
  | .make u ps => u ∈ us ∧ ∀ t ∈ ps, t ∈ us
  | .under u ps => u ∈ us ∧ ∀ t ∈ ps, t ∈ us
  | c => c.uid ∈ us
theorem Chg.pin_uid {us : List Str} {c : Chg} (h : c.pin us) : c.uid ∈ us := by
  cases c <;> first | exact h.1 | exact h
section
variable {ds : List Int} {tl : Sto} {us ns : List Str}
end
structure Pin (us : List Str) (es : List Ent) : Prop where
  u : ∀ e ∈ es, e.uid ∈ us
  p : ∀ e ∈ es, ∀ t ∈ e.pars, t ∈ us
theorem Pin.perm {us : List Str} {es fs : List Ent} (h : Pin us es) (p : fs.Perm es) : Pin us fs := ⟨fun e he => h.u e (p.mem_iff.mp he), fun e he => h.p e (p.mem_iff.mp he)⟩
theorem Pin.mk1 {us : List Str} {es : List Ent} {c : Chg} (h : Pin us es) (hc : c.pin us) : Pin us (mk1 es c) := by
  have on : ∀ e, entU es c.uid = some e → (∀ t ∈ (c.on e).pars, t ∈ us) → (c.on e).uid = c.uid → Pin us (del es c.uid ++ [c.on e]) := fun e he q1 q2 => by
    refine ⟨fun x hx => ?_, fun x hx => ?_⟩
    · rcases List.mem_append.mp hx with z | z
      · exact h.u x (List.mem_filter.mp z).1
      · rw [List.mem_singleton.mp z, q2]; exact Chg.pin_uid hc
    · rcases List.mem_append.mp hx with z | z
      · exact h.p x (List.mem_filter.mp z).1
      · rw [List.mem_singleton.mp z]; exact q1
  cases c with
  | make u ps =>
    refine ⟨fun x hx => ?_, fun x hx => ?_⟩
    · rcases List.mem_append.mp hx with z | z
      · exact h.u x z
      · rw [List.mem_singleton.mp z]; exact hc.1
    · rcases List.mem_append.mp hx with z | z
      · exact h.p x z
      · rw [List.mem_singleton.mp z]; exact hc.2
  | drop u => exact ⟨fun x hx => h.u x (List.mem_filter.mp hx).1, fun x hx => h.p x (List.mem_filter.mp hx).1⟩
  | under u ps =>
    simp only [G.mk1, Chg.uid] at on ⊢
    cases he : entU es u with
    | none => exact h
    | some e => exact on e he hc.2 rfl
  | clear u n =>
    simp only [G.mk1, Chg.uid] at on ⊢
    cases he : entU es u with
    | none => exact h
    | some e => exact on e he (h.p e (entU_some he).1) rfl
  | set u n v =>
    simp only [G.mk1, Chg.uid] at on ⊢
    cases he : entU es u with
    | none => exact h
    | some e => exact on e he (h.p e (entU_some he).1) rfl
end G
namespace G
open PySem DL L2
section
variable {ds : List Int} {tl : Sto} {us ns : List Str} {es : List Ent}
structure Trn (us : List Str) (es : List Ent) (cs : List Chg) (fs : List Ent) : Prop where
  r : runC es 0 cs = .inr fs
  g : ∀ c ∈ cs, c.good = true
  q : ∀ c ∈ cs, c.pin us
  t : Tbl fs
  p : Pin us fs
end
end G
namespace G
open PySem DL L2
inductive U1 where
  | get (n : Str) | has (n : Str) | is (n : Str) | not
  deriving DecidableEq
def U1.nd : U1 → Int → Nd
  | .get n, p => .get p n
  | .has n, p => .has p n
  | .is n, p => .is p n
  | .not, p => .not p
inductive Tr where
  | leaf (n : Nd)
  | one (u : U1) (t : Tr)
  | two (w : Str) (a b : Tr)
  | ife (a b c : Tr)
def Tr.size : Tr → Nat
  | .leaf _ => 1
  | .one _ t => t.size + 1
  | .two _ a b => a.size + b.size + 1
  | .ife a b c => a.size + b.size + c.size + 1
def Tr.top (k : Nat) (t : Tr) : Int := ((k + t.size - 1 : Nat) : Int)
def Tr.lin : Nat → Tr → List Nd
  | _, .leaf n => [n]
  | k, .one u t => t.lin k ++ [u.nd (t.top k)]
  | k, .two w a b => a.lin k ++ (b.lin (k + a.size) ++ [.two w (a.top k) (b.top (k + a.size))])
  | k, .ife a b c => a.lin k ++ (b.lin (k + a.size) ++ (c.lin (k + a.size + b.size) ++ [.ife (a.top k) (b.top (k + a.size)) (c.top (k + a.size + b.size))]))
def Tr.good : Tr → Prop
  | .leaf n => n.ops = []
  | .one _ t => t.good
  | .two _ a b => a.good ∧ b.good
  | .ife a b c => a.good ∧ b.good ∧ c.good
end G
namespace G
open PySem DL L2
def c_ONE_OPERAND : D := (D.tup [(D.str "get"), (D.str "has"), (D.str "is"), (D.str "not")])
def c_TWO_OPERANDS : D := (D.tup [(D.str "and"), (D.str "or"), (D.str "same"), (D.str "less"), (D.str "in"), (D.str "contains")])
def d_operands : List D := []
noncomputable def b_operands : SS := (bSeq (bIf (sBl (sBin (oIn false) (sBin oIx (sVarB 0) (cI 0)) (cG c_ONE_OPERAND))) (bRet (sTup (sCons (sBin oIx (sVarB 0) (cI 1)) sNil))) bNil)
    (bSeq (bIf (sBl (sBin (oIn false) (sBin oIx (sVarB 0) (cI 0)) (cG c_TWO_OPERANDS))) (bRet (sTup (sCons (sBin oIx (sVarB 0) (cI 1)) (sCons (sBin oIx (sVarB 0) (cI 2)) sNil)))) bNil)
    (bSeq (bIf (sBl (sBin dEq (sBin oIx (sVarB 0) (cI 0)) (cS "if"))) (bRet (sTup (sCons (sBin oIx (sVarB 0) (cI 1)) (sCons (sBin oIx (sVarB 0) (cI 2)) (sCons (sBin oIx (sVarB 0) (cI 3)) sNil))))) bNil)
    (bRet (sTup sNil)))))
noncomputable def f_operands : Sem1 := semB [false] 1 b_operands
def Nd.fine : Nd → Bool
  | .val v => v.fine
  | .ctx n => PyData.strOk n && decide (n.length ≤ 1000)
  | .giv n => PyData.strOk n && decide (n.length ≤ 1000)
  | .get _ n => PyData.strOk n && decide (n.length ≤ 1000)
  | .has _ n => PyData.strOk n && decide (n.length ≤ 1000)
  | .is _ n => PyData.strOk n && decide (n.length ≤ 1000)
  | .two w _ _ => decide (w ∈ TWO)
  | _ => true
theorem isN_fine {t : Str} (h : isN t = true) : (PyData.strOk t && decide (t.length ≤ 1000)) = true := by
  have := isN_iff.mp h
  rw [isN_ok h, decide_eq_true (by omega)]; rfl
theorem Nd.ok_fine {n : Nd} (h : n.ok = true) : n.fine = true := by
  cases n with
  | val v => exact Vl.ok_fine h
  | ctx t => exact isN_fine h
  | giv t => exact isN_fine h
  | get p t => exact isN_fine h
  | has p t => exact isN_fine h
  | is p t => exact isN_fine h
  | two w a b => exact h
  | _ => rfl
def opsD (n : Nd) : D := .tup (n.ops.map D.int)
theorem tI (neg : Bool) (w : Str) (l : List Str) : oIn neg (.str w) (.tup (l.map .str)) = some (.bl (if neg then !decide (w ∈ l) else decide (w ∈ l))) := in_strsT neg w l
def Nd.word : Nd → Str
  | .val _ => "value"
  | .pr => "principal"
  | .ac => "action"
  | .re => "resource"
  | .ctx _ => "context"
  | .giv _ => "given"
  | .get _ _ => "get"
  | .has _ _ => "has"
  | .is _ _ => "is"
  | .not _ => "not"
  | .two w _ _ => w
  | .ife _ _ _ => "if"
@[simp] theorem at3 (x y z : D) : atI [x, y, z] 2 = some z := rfl
@[simp] theorem at4 (x y z w : D) : atI [x, y, z, w] 2 = some z := rfl
@[simp] theorem at43 (x y z w : D) : atI [x, y, z, w] 3 = some w := rfl
@[simp] theorem tru_t0 : dTru (.tup []) = some false := rfl
@[simp] theorem tru_tc (a : D) (l : List D) : dTru (.tup (a :: l)) = some true := rfl
@[simp] theorem dref_iD (S : Sto) (l : List Int) : dref S (iD l) = iD l := rfl
@[simp] theorem dref_ops (S : Sto) (n : Nd) : dref S (opsD n) = opsD n := rfl
theorem stp_in {k : Nat} {row st : List Int} {n : Nd} (h : stp k row n = some st) (hr : ∀ i ∈ row, 0 ≤ i ∧ i < (k : Int)) : (∀ i ∈ st, 0 ≤ i ∧ i < ((k + 1 : Nat) : Int)) ∧ ∀ i ∈ n.ops, 0 ≤ i ∧ i < (k : Int) := by
  unfold stp at h
  by_cases c : n.ops.length ≤ row.length ∧ row.drop (row.length - n.ops.length) = n.ops
  · rw [if_pos c] at h
    obtain ⟨h⟩ := h
    refine ⟨fun i hi => ?_, fun i hi => hr i (List.mem_of_mem_drop (c.2 ▸ hi))⟩
    rcases List.mem_append.mp hi with hi | hi
    · have := hr i (List.mem_of_mem_take hi); omega
    · rw [List.mem_singleton.mp hi]; omega
  · rw [if_neg c] at h; cases h
end G
namespace G
open PySem DL L2
def sq (b : Bool) (l : List Str) : D := if b = true then .tup (l.map .str) else .lst (l.map .str)
@[simp] theorem sq_t (l : List Str) : sq true l = .tup (l.map .str) := rfl
@[simp] theorem sq_f (l : List Str) : sq false l = .lst (l.map .str) := rfl
def jn2 (a b : List Str) : List Str := a ++ b.filter fun t => !decide (t ∈ a)
theorem jn2_len (a b : List Str) : (jn2 a b).length ≤ a.length + b.length := by
  unfold jn2; rw [List.length_append]
  have := List.length_filter_le (fun t => !decide (t ∈ a)) b
  omega
theorem jn2_mem {a b : List Str} {t : Str} (h : t ∈ jn2 a b) : t ∈ a ∨ t ∈ b := by
  unfold jn2 at h
  rcases List.mem_append.mp h with h | h
  · exact .inl h
  · exact .inr (List.mem_filter.mp h).1
theorem jn2_nodup {a b : List Str} (ha : a.Nodup) (hb : b.Nodup) : (jn2 a b).Nodup := by
  unfold jn2
  rw [List.nodup_append]
  refine ⟨ha, hb.filter _, fun x hx y hy e => ?_⟩
  subst e
  have := (List.mem_filter.mp hy).2
  simp [hx] at this
def lgr (n : Str) (l : List Str) : List Str := l.map fun p => p ++ "." ++ n
theorem dot1 : (Str.ofString ".").length = 1 := by decide +kernel
theorem lgr_nodup {n : Str} {l : List Str} (h : l.Nodup) : (lgr n l).Nodup := by
  unfold lgr
  refine List.Pairwise.map _ (fun a b hab e => hab ?_) h
  have e := congrArg cs e
  rw [cs_app, cs_app, cs_app, cs_app, List.append_assoc, List.append_assoc] at e
  exact cs_inj (List.append_cancel_right e)
def pth (kn : List (List Str)) : Nd → List Str
  | .val (.sc (.en t)) => [t]
  | .pr => ["principal"]
  | .ac => ["action"]
  | .re => ["resource"]
  | .ctx c => ["context" ++ "." ++ c]
  | .get p c => lgr c (kn.getD p.toNat [])
  | .ife _ b c => jn2 (kn.getD b.toNat []) (kn.getD c.toNat [])
  | _ => []
def sz (kn : List (List Str)) (i : Int) : Nat := (kn.getD i.toNat []).length
def sumz (kn : List (List Str)) : List Int → Nat
  | [] => 0
  | i :: r => sz kn i + sumz kn r
theorem sumz_app (kn : List (List Str)) : ∀ a b : List Int, sumz kn (a ++ b) = sumz kn a + sumz kn b
  | [], b => by simp [sumz]
  | i :: r, b => by rw [List.cons_append, sumz, sumz, sumz_app kn r b]; omega
theorem getD_app {kn : List (List Str)} {l : List Str} {i : Nat} (h : i < kn.length) : (kn ++ [l]).getD i [] = kn.getD i [] := by
  rw [List.getD_eq_getElem?_getD, List.getD_eq_getElem?_getD, List.getElem?_append_left h]
theorem getD_end {kn : List (List Str)} {l : List Str} : (kn ++ [l]).getD kn.length [] = l := by
  rw [List.getD_eq_getElem?_getD]; simp
theorem sumz_up {kn : List (List Str)} {l : List Str} : ∀ {row : List Int}, (∀ i ∈ row, 0 ≤ i ∧ i < (kn.length : Int)) → sumz (kn ++ [l]) row = sumz kn row
  | [], _ => rfl
  | i :: r, h => by
    have := h i (by simp)
    rw [sumz, sumz, sumz_up fun x hx => h x (List.mem_cons_of_mem _ hx)]
    unfold sz
    rw [getD_app (by omega)]
theorem pth_len (kn : List (List Str)) (n : Nd) : (pth kn n).length ≤ sumz kn n.ops + 1 := by
  cases n with
  | val v =>
    cases v with
    | sc s => cases s <;> simp [pth]
    | set l => simp [pth]
  | get p c =>
    have : sumz kn (Nd.get p c).ops = sz kn p + 0 := rfl
    rw [this]; unfold sz pth lgr; rw [List.length_map]; omega
  | ife a b c =>
    have : sumz kn (Nd.ife a b c).ops = sz kn a + (sz kn b + (sz kn c + 0)) := rfl
    rw [this]
    have := jn2_len (kn.getD b.toNat []) (kn.getD c.toNat [])
    unfold sz; show (jn2 _ _).length ≤ _; omega
  | _ => simp [pth]
structure KI (k : Nat) (kn : List (List Str)) (row : List Int) : Prop where
  len : kn.length = k
  nd : ∀ i, i < k → (kn.getD i []).Nodup
  tx : ∀ i, i < k → ∀ t ∈ kn.getD i [], PyData.strOk t = true ∧ t.length ≤ 26 + 13 * i
  ri : ∀ i ∈ row, 0 ≤ i ∧ i < (k : Int)
  sm : sumz kn row ≤ k
  each : ∀ i, i < k → (kn.getD i []).length ≤ i + 1
theorem ctx_l : (Str.ofString "context").length = 7 ∧ (Str.ofString "principal").length = 9 ∧ (Str.ofString "action").length = 6 ∧ (Str.ofString "resource").length = 8 := by decide +kernel
theorem KI.pth {k : Nat} {kn : List (List Str)} {row : List Int} {n : Nd} (I : KI k kn row) (hn : n.ok = true) (ho : ∀ i ∈ n.ops, 0 ≤ i ∧ i < (k : Int)) : (pth kn n).Nodup ∧ ∀ t ∈ pth kn n, PyData.strOk t = true ∧ t.length ≤ 26 + 13 * k := by
  obtain ⟨c1, c2, c3, c4⟩ := ctx_l
  have one : ∀ t : Str, PyData.strOk t = true → t.length ≤ 26 → [t].Nodup ∧ ∀ x ∈ [t], PyData.strOk x = true ∧ x.length ≤ 26 + 13 * k := fun t h1 h2 => ⟨by simp, fun x hx => by rw [List.mem_singleton.mp hx]; exact ⟨h1, by omega⟩⟩
  have no : ([] : List Str).Nodup ∧ ∀ x ∈ ([] : List Str), PyData.strOk x = true ∧ x.length ≤ 26 + 13 * k := ⟨by simp, fun x hx => by cases hx⟩
  cases n with
  | val v =>
    cases v with
    | sc s =>
      cases s with
      | en t => exact one t (isU_ok hn) (by have := isU_len hn; omega)
      | _ => exact no
    | set l => exact no
  | pr => exact one _ (strOk_lit _) (by rw [c2]; omega)
  | ac => exact one _ (strOk_lit _) (by rw [c3]; omega)
  | re => exact one _ (strOk_lit _) (by rw [c4]; omega)
  | ctx c =>
    have := isN_iff.mp hn
    exact one _ (ok_app (ok_app (strOk_lit _) (strOk_lit _)) (isN_ok hn)) (by rw [len_app, len_app, c1, dot1]; omega)
  | get p c =>
    have := isN_iff.mp hn
    have hp := ho p (by simp [Nd.ops])
    refine ⟨lgr_nodup (I.nd _ (by omega)), fun t ht => ?_⟩
    obtain ⟨x, hx, rfl⟩ := List.mem_map.mp ht
    obtain ⟨h1, h2⟩ := I.tx _ (by omega) x hx
    exact ⟨ok_app (ok_app h1 (strOk_lit _)) (isN_ok hn), by rw [len_app, len_app, dot1]; omega⟩
  | ife a b c =>
    have hb := ho b (by simp [Nd.ops])
    have hc := ho c (by simp [Nd.ops])
    refine ⟨jn2_nodup (I.nd _ (by omega)) (I.nd _ (by omega)), fun t ht => ?_⟩
    rcases jn2_mem ht with h | h
    · obtain ⟨h1, h2⟩ := I.tx _ (by omega) t h
      exact ⟨h1, by omega⟩
    · obtain ⟨h1, h2⟩ := I.tx _ (by omega) t h
      exact ⟨h1, by omega⟩
  | _ => exact no
theorem KI.step {k : Nat} {kn : List (List Str)} {row st : List Int} {n : Nd} (I : KI k kn row) (hn : n.ok = true) (hs : stp k row n = some st) : KI (k + 1) (kn ++ [G.pth kn n]) st := by
  obtain ⟨g1, g2⟩ := stp_in hs I.ri
  obtain ⟨p1, p2⟩ := I.pth hn g2
  have il := I.len
  have pl := pth_len kn n
  have e : ∃ A : List Int, row = A ++ n.ops ∧ st = A ++ [(k : Int)] := by
    unfold stp at hs
    by_cases c : n.ops.length ≤ row.length ∧ row.drop (row.length - n.ops.length) = n.ops
    · rw [if_pos c] at hs
      obtain ⟨hs⟩ := hs
      have z := List.take_append_drop (row.length - n.ops.length) row
      rw [c.2] at z
      exact ⟨row.take (row.length - n.ops.length), z.symm, rfl⟩
    · rw [if_neg c] at hs; cases hs
  obtain ⟨A, rfl, rfl⟩ := e
  have sm := I.sm
  rw [sumz_app] at sm
  have gd : ∀ i, i < k + 1 → (i < k ∧ (kn ++ [G.pth kn n]).getD i [] = kn.getD i []) ∨ (i = k ∧ (kn ++ [G.pth kn n]).getD i [] = G.pth kn n) := fun i hi => by
    by_cases h : i < k
    · exact .inl ⟨h, getD_app (by omega)⟩
    · have : i = kn.length := by omega
      exact .inr ⟨by omega, by rw [this]; exact getD_end⟩
  refine ⟨by simp [il], fun i hi => ?_, fun i hi => ?_, g1, ?_, fun i hi => ?_⟩
  · rcases gd i hi with ⟨h, e⟩ | ⟨h, e⟩ <;> rw [e]
    · exact I.nd i h
    · exact p1
  · rcases gd i hi with ⟨h, e⟩ | ⟨h, e⟩ <;> rw [e]
    · exact I.tx i h
    · subst h; exact p2
  · rw [sumz_app, sumz_up (fun i hi => by rw [il]; exact I.ri i (List.mem_append_left _ hi))]
    have : sumz (kn ++ [G.pth kn n]) [(k : Int)] = (G.pth kn n).length := by
      show ((kn ++ [G.pth kn n]).getD (k : Int).toNat []).length + 0 = _
      rw [Int.toNat_natCast, ← il, getD_end]; rfl
    rw [this]; omega
  · rcases gd i hi with ⟨h, e⟩ | ⟨h, e⟩ <;> rw [e]
    · exact I.each i h
    · subst h; omega
def kns : List (List Str) → List Nd → List (List Str)
  | kn, [] => kn
  | kn, n :: r => kns (kn ++ [pth kn n]) r
theorem KI.all : ∀ {l : List Nd} {k : Nat} {kn : List (List Str)} {row st : List Int}, KI k kn row → (∀ n ∈ l, n.ok = true) → stk k row l = some st → KI (k + l.length) (kns kn l) st
  | [], k, kn, row, st, I, _, h => by cases h; exact I
  | n :: r, k, kn, row, st, I, hl, h => by
    have h : (stp k row n).bind (fun st' => stk (k + 1) st' r) = some st := h
    cases e : stp k row n with
    | none => rw [e] at h; cases h
    | some st1 =>
      rw [e] at h
      have h : stk (k + 1) st1 r = some st := h
      have z := KI.all (I.step (hl n (by simp)) e) (fun x hx => hl x (List.mem_cons_of_mem _ hx)) h
      rw [List.length_cons, show k + (r.length + 1) = k + 1 + r.length by omega]
      exact z
theorem KI.zero : KI 0 [] [] := ⟨rfl, fun i h => absurd h (Nat.not_lt_zero i), fun i h => absurd h (Nat.not_lt_zero i), fun i h => (by cases h), Nat.le_refl _, fun i h => absurd h (Nat.not_lt_zero i)⟩
def mst (kn : List (List Str)) (m : List Str × List Str) : Nd → List Str × List Str
  | .get p c => (jn2 m.1 (lgr c (kn.getD p.toNat [])), m.2)
  | .has p c => (jn2 m.1 (lgr c (kn.getD p.toNat [])), m.2)
  | .two w a _ => if w = "in" then (m.1, jn2 m.2 (kn.getD a.toNat [])) else m
  | _ => m
def T : Nat → Nat
  | 0 => 0
  | k + 1 => T k + k
structure MI (K k : Nat) (m : List Str × List Str) : Prop where
  len : m.1.length + m.2.length ≤ T k
  tx : ∀ t, (t ∈ m.1 ∨ t ∈ m.2) → PyData.strOk t = true ∧ t.length ≤ 26 + 13 * K
structure KB (K : Nat) (kn : List (List Str)) : Prop where
  len : kn.length = K
  nd : ∀ i, i < K → (kn.getD i []).Nodup
  tx : ∀ i, i < K → ∀ t ∈ kn.getD i [], PyData.strOk t = true ∧ t.length ≤ 26 + 13 * i
  each : ∀ i, i < K → (kn.getD i []).length ≤ i + 1
theorem lgr_len (c : Str) (l : List Str) : (lgr c l).length = l.length := by unfold lgr; rw [List.length_map]
theorem MI.step {K k : Nat} {kn : List (List Str)} {m : List Str × List Str} {n : Nd} (B : KB K kn) (I : MI K k m) (hk : k < K) (hn : n.ok = true) (ho : ∀ i ∈ n.ops, 0 ≤ i ∧ i < (k : Int)) : MI K (k + 1) (mst kn m n) := by
  have lg : ∀ (p : Int) (c : Str), isN c = true → 0 ≤ p ∧ p < (k : Int) → MI K (k + 1) (jn2 m.1 (lgr c (kn.getD p.toNat [])), m.2) := fun p c hc hp => by
    have hc' := isN_iff.mp hc
    have e := B.each p.toNat (by omega)
    have j := jn2_len m.1 (lgr c (kn.getD p.toNat []))
    rw [lgr_len] at j
    refine ⟨?_, fun t ht => ?_⟩
    · have := I.len; show (jn2 _ _).length + m.2.length ≤ T k + k; omega
    · rcases ht with h | h
      · rcases jn2_mem h with h | h
        · exact I.tx t (.inl h)
        · obtain ⟨x, hx, rfl⟩ := List.mem_map.mp h
          obtain ⟨h1, h2⟩ := B.tx _ (by omega) x hx
          exact ⟨ok_app (ok_app h1 (strOk_lit _)) (isN_ok hc), by rw [len_app, len_app, dot1]; omega⟩
      · exact I.tx t (.inr h)
  have same : MI K (k + 1) m := ⟨by have := I.len; show _ ≤ T k + k; omega, I.tx⟩
  cases n with
  | get p c => exact lg p c hn (ho p (by simp [Nd.ops]))
  | has p c => exact lg p c hn (ho p (by simp [Nd.ops]))
  | two w a b =>
    show MI K (k + 1) (if w = "in" then (m.1, jn2 m.2 (kn.getD a.toNat [])) else m)
    split
    · have ha := ho a (by simp [Nd.ops])
      have e := B.each a.toNat (by omega)
      have j := jn2_len m.2 (kn.getD a.toNat [])
      refine ⟨?_, fun t ht => ?_⟩
      · have := I.len; show m.1.length + (jn2 _ _).length ≤ T k + k; omega
      · rcases ht with h | h
        · exact I.tx t (.inl h)
        · rcases jn2_mem h with h | h
          · exact I.tx t (.inr h)
          · obtain ⟨h1, h2⟩ := B.tx _ (by omega) t h
            exact ⟨h1, by omega⟩
    · exact same
  | _ => exact same
theorem MI.zero {K : Nat} : MI K 0 ([], []) := ⟨Nat.le_refl _, fun t h => by rcases h with h | h <;> cases h⟩
end G
namespace Ev
open PySem DL L2 G
def c_LAZY : D := (D.tup [(D.str "and"), (D.str "or"), (D.str "if")])
def c_NO : D := (D.tup [(D.str "truth"), (D.bl false)])
def c_NO_ATTRIBUTE : D := (D.tup [(D.str "fails"), (D.str "no attribute")])
def c_NO_ENTITY : D := (D.tup [(D.str "fails"), (D.str "no entity")])
def c_WRONG_KIND : D := (D.tup [(D.str "fails"), (D.str "wrong kind")])
def c_YES : D := (D.tup [(D.str "truth"), (D.bl true)])
def c_PARTS : List (Str × D) := [("principal", (D.int (0))), ("action", (D.int (1))), ("resource", (D.int (2)))]
def a__expression__Walk : List Str := ["Walk"]
def a__request__Walk : List Str := ["Walk"]
def a__roles__Walk : List Str := ["Walk"]
def a__source__Walk : List Str := ["Walk"]
def a__starts__Walk : List Str := ["Walk"]
def a__values__Walk : List Str := ["Walk"]
def a_reads__Walk : List Str := ["Walk"]
def d__wall : List D := []
noncomputable def l0__wall : SS := bNil
noncomputable def b__wall : SS := (bWhile (sTru (cB true)) l0__wall)
noncomputable def f__wall : Sem1 := semB [false] 1 b__wall
def d_truth : List D := []
noncomputable def e0_truth : SE := (sIf (sTru (sVarB 0)) (cG c_YES) (cG c_NO))
noncomputable def b_truth : SS := (bRet (sTup (sCons (cS "value") (sCons e0_truth sNil))))
noncomputable def f_truth : Sem1 := semB [false] 1 b_truth
def d__uids : List D := []
noncomputable def l0__uids : SS := (bIf (sBl (sBin dNe (sBin oIx (sVarB 1) (cI 0)) (cS "entity"))) (bRet cN) bNil)
noncomputable def e0__uids : SE := (sLc [1] (sItems (sBin oIx (sVarB 0) (cI 1))) (tgName 1) sYes (sBin oIx (sVarB 1) (cI 1)))
noncomputable def b__uids : SS := (bSeq (bIf (sBl (sBin dEq (sBin oIx (sVarB 0) (cI 0)) (cS "entity"))) (bRet (sLst (sCons (sBin oIx (sVarB 0) (cI 1)) sNil))) bNil)
    (bSeq (bIf (sBl (sBin dNe (sBin oIx (sVarB 0) (cI 0)) (cS "set"))) (bRet cN) bNil)
    (bSeq (bFor (sItems (sBin oIx (sVarB 0) (cI 1))) (tgName 1) l0__uids)
    (bRet e0__uids))))
noncomputable def f__uids : Sem1 := semB [false] 2 b__uids
def d__is_passed_on : List D := []
noncomputable def e0__is_passed_on : SE := (sIf (sBl (sBin dEq (sVarB 0) (cS "and"))) (sBin dEq (sVarB 2) (cG c_NO)) (sAndV (sBin dEq (sVarB 0) (cS "or")) (sBin dEq (sVarB 2) (cG c_YES))))
noncomputable def b__is_passed_on : SS := (bSeq (bIf (sBl (sBin dEq (sVarB 0) (cS "if"))) (bRet (sBin oGt (sVarB 1) (cI 0))) bNil)
    (bSeq (bIf (sBl (sBin oGt (sVarB 1) (cI 0))) (bRet (cB false)) bNil)
    (bRet e0__is_passed_on)))
noncomputable def f__is_passed_on : Sem1 := semB [false, false, false] 3 b__is_passed_on
def d__law_alike : List D := []
noncomputable def b__law_alike : SS := (bRet (sBin dEq (sReprO (sCons (sVarB 0) sNil)) (sReprO (sCons (sVarB 1) sNil))))
noncomputable def f__law_alike : Sem1 := semB [false, false] 2 b__law_alike
def d_Walk__behind : List D := []
noncomputable def b_Walk__behind : SS := (bSeq (bAsg (tgTup 2 (tgCons (tgName 2) (tgCons (tgName 3) tgNil))) (sBin oIx (eFld a__roles__Walk "_roles" (sVar 0)) (sVarB 1)))
    (bSeq (bSet 4 (sBin oIx (eFld a__expression__Walk "_expression" (sVar 0)) (sVarB 2)))
    (bSeq (bIf (sAnd (sBl (sBin dEq (sBin oIx (sVarB 4) (cI 0)) (cS "if"))) (sAnd (sBl (sBin dEq (sVarB 3) (cI 0))) (sBl (sBin dEq (sBin oIx (eFld a__values__Walk "_values" (sVar 0)) (sVarB 1)) (cG c_NO))))) (bRet (sBin oIx (eFld a__starts__Walk "_starts" (sVar 0)) (sBin oIx (sVarB 4) (cI 3)))) bNil)
    (bRet (sBin oAdd (sVarB 1) (cI 1))))))
noncomputable def f_Walk__behind : Sem1 := semB [true, false] 5 b_Walk__behind
def d_context_value : List D := []
noncomputable def b_context_value : SS := (bRet (sCallU f_value_named (d_value_named.drop 0) (sCons (sBin oIx (sVarB 0) (cI 3)) (sCons (sVarB 1) sNil))))
noncomputable def f_context_value : Sem1 := semB [false, false] 2 b_context_value
def d_Walk__settle : List D := []
noncomputable def l0_Walk__settle : SS := (bSeq (bAsg (tgTup 2 (tgCons (tgName 2) (tgCons (tgName 3) tgNil))) (sBin oIx (eFld a__roles__Walk "_roles" (sVar 0)) (sVarB 1)))
    (bSeq (bSet 4 (sBin oIx (sBin oIx (eFld a__expression__Walk "_expression" (sVar 0)) (sVarB 2)) (cI 0)))
    (bSeq (bSet 5 (sBin oIx (eFld a__values__Walk "_values" (sVar 0)) (sVarB 1)))
    (bSeq (bIf (sAnd (sBl (sBin (oIn false) (sVarB 4) (cG c_LAZY))) (sAnd (sBl (sBin dEq (sVarB 3) (cI 0))) (sBl (sBin dNe (sBin oIx (sVarB 5) (cI 0)) (cS "truth"))))) (bRet cN) bNil)
    (bSeq (bIf (sNot (sTru (sCallU f__is_passed_on (d__is_passed_on.drop 0) (sCons (sVarB 4) (sCons (sVarB 3) (sCons (sVarB 5) sNil)))))) (bRet (sVar 1)) bNil)
    (bSeq (bSetIxO (eFld a__values__Walk "_values" (sVar 0)) (sVar 2) (sVar 5))
    (bSet 1 (sVar 2))))))))
noncomputable def b_Walk__settle : SS := (bSeq (bWhile (sBl (sIsN true (sBin oIx (eFld a__roles__Walk "_roles" (sVar 0)) (sVarB 1)))) l0_Walk__settle)
    (bRet (sVar 1)))
noncomputable def f_Walk__settle : Sem1 := semB [true, true] 6 b_Walk__settle
def d__leaf : List D := []
noncomputable def e0__leaf : SE := (sIf (sBl (sIsN false (sVarB 2))) (cG c_NO_ATTRIBUTE) (sTup (sCons (cS "value") (sCons (sVar 2) sNil))))
noncomputable def b__leaf : SS := (bSeq (bIf (sBl (sBin dEq (sBin oIx (sVarB 0) (cI 0)) (cS "value"))) (bRet (sTup (sCons (cS "value") (sCons (sBin oIx (sVarB 0) (cI 1)) sNil)))) bNil)
    (bSeq (bIf (sBl (sKU (oKIn false c_PARTS) (sBin oIx (sVarB 0) (cI 0)))) (bRet (sTup (sCons (cS "value") (sCons (sTup (sCons (cS "entity") (sCons (sBin oIx (sVarB 1) (sKU (oKIx c_PARTS) (sBin oIx (sVarB 0) (cI 0)))) sNil))) sNil)))) bNil)
    (bSeq (bSet 2 (sCallU f_context_value (d_context_value.drop 0) (sCons (sVarB 1) (sCons (sBin oIx (sVarB 0) (cI 1)) sNil))))
    (bSeq (bIf (sBl (sBin dEq (sBin oIx (sVarB 0) (cI 0)) (cS "given"))) (bRet (sCallU f_truth (d_truth.drop 0) (sCons (sIsN true (sVarB 2)) sNil))) bNil)
    (bRet e0__leaf)))))
noncomputable def f__leaf : Sem1 := semB [false, false] 3 b__leaf
def d_ask : List D := []
noncomputable def b_ask : SS := (bSeq (bSet 3 (eMeth "Database" "tell" f_Database_tell (d_Database_tell.drop 0) (sVar 0) (sCons (sVarB 1) sNil)))
    (bSeq (bIf (sAnd (sBl (sIsN true (sVarB 3))) (sBl (sBin (oIn true) (sVarB 1) (sVarB 2)))) (bExpr (sMut (sVar 2) uAppend (sCons (sVar 1) sNil))) bNil)
    (bRet (sVar 3))))
noncomputable def f_ask : Sem1 := semB [true, true, true] 4 b_ask
def d__attribute : List D := []
noncomputable def e0__attribute : SE := (sIf (sBl (sBin dEq (sBin oIx (sVarB 5) (cI 0)) (cS "none"))) (cG c_NO_ATTRIBUTE) (sVar 5))
noncomputable def b__attribute : SS := (bSeq (bIf (sBl (sBin dNe (sBin oIx (sVarB 1) (cI 0)) (cS "entity"))) (bRet (cG c_WRONG_KIND)) bNil)
    (bSeq (bSet 4 (sTup (sCons (cS "attribute") (sCons (sBin oIx (sVarB 1) (cI 1)) (sCons (sBin oIx (sVarB 0) (cI 2)) sNil)))))
    (bSeq (bSet 5 (sCallU f_ask (d_ask.drop 0) (sCons (sVar 2) (sCons (sVar 4) (sCons (sVar 3) sNil)))))
    (bSeq (bIf (sBl (sIsN false (sVarB 5))) (bRet (sTup (sCons (cS "needs") (sCons (sVar 4) sNil)))) bNil)
    (bSeq (bIf (sBl (sBin dEq (sBin oIx (sVarB 0) (cI 0)) (cS "has"))) (bRet (sCallU f_truth (d_truth.drop 0) (sCons (sBin dEq (sBin oIx (sVarB 5) (cI 0)) (cS "value")) sNil))) bNil)
    (bSeq (bIf (sBl (sBin dEq (sBin oIx (sVarB 5) (cI 0)) (cS "gone"))) (bRet (cG c_NO_ENTITY)) bNil)
    (bRet e0__attribute)))))))
noncomputable def f__attribute : Sem1 := semB [false, false, true, true] 6 b__attribute
def d__within : List D := []
noncomputable def e0__within : SE := (sLc [7] (sItems (sVarS 4)) (tgName 7) sYes (sBin (oInX false) (sVarB 7) (sBin oIx (sVarB 6) (cI 1))))
noncomputable def b__within : SS := (bSeq (bSet 4 (sCallU f__uids (d__uids.drop 0) (sCons (sVarB 1) sNil)))
    (bSeq (bIf (sOr (sBl (sBin dNe (sBin oIx (sVarB 0) (cI 0)) (cS "entity"))) (sBl (sIsN false (sVarB 4)))) (bRet (cG c_WRONG_KIND)) bNil)
    (bSeq (bIf (sBl (sBin (oIn false) (sBin oIx (sVarB 0) (cI 1)) (sVarB 4))) (bRet (sCallU f_truth (d_truth.drop 0) (sCons (cB true) sNil))) bNil)
    (bSeq (bIf (sNot (sTru (sVarB 4))) (bRet (sCallU f_truth (d_truth.drop 0) (sCons (cB false) sNil))) bNil)
    (bSeq (bSet 5 (sTup (sCons (cS "ancestors") (sCons (sBin oIx (sVarB 0) (cI 1)) sNil))))
    (bSeq (bSet 6 (sCallU f_ask (d_ask.drop 0) (sCons (sVar 2) (sCons (sVar 5) (sCons (sVar 3) sNil)))))
    (bSeq (bIf (sBl (sIsN false (sVarB 6))) (bRet (sTup (sCons (cS "needs") (sCons (sVar 5) sNil)))) bNil)
    (bRet (sCallU f_truth (d_truth.drop 0) (sCons (sCall oAny2 (sCons e0__within sNil)) sNil))))))))))
noncomputable def f__within : Sem1 := semB [false, false, true, true] 8 b__within
def d__one : List D := []
noncomputable def e0__one : SE := (sIf (sBl (sBin dEq (sBin oIx (sVarB 1) (cI 0)) (cS "truth"))) (sCallU f_truth (d_truth.drop 0) (sCons (sNotV (sBin oIx (sVarB 1) (cI 1))) sNil)) (cG c_WRONG_KIND))
noncomputable def e1__one : SE := (sIf (sBl (sBin dEq (sBin oIx (sVarB 1) (cI 0)) (cS "entity"))) (sCallU f_truth (d_truth.drop 0) (sCons (sBin dEq (sCallU f_kind_of (d_kind_of.drop 0) (sCons (sBin oIx (sVarB 1) (cI 1)) sNil)) (sBin oIx (sVarB 0) (cI 2))) sNil)) (cG c_WRONG_KIND))
noncomputable def b__one : SS := (bSeq (bIf (sBl (sBin dEq (sBin oIx (sVarB 0) (cI 0)) (cS "not"))) (bRet e0__one) bNil)
    (bSeq (bIf (sBl (sBin dEq (sBin oIx (sVarB 0) (cI 0)) (cS "is"))) (bRet e1__one) bNil)
    (bRet (sCallU f__attribute (d__attribute.drop 0) (sCons (sVarB 0) (sCons (sVarB 1) (sCons (sVar 2) (sCons (sVar 3) sNil))))))))
noncomputable def f__one : Sem1 := semB [false, false, true, true] 4 b__one
def d__two : List D := []
noncomputable def e0__two : SE := (sIf (sBl (sBin dEq (sBin oIx (sVarB 2) (cI 0)) (cS "truth"))) (sTup (sCons (cS "value") (sCons (sVar 2) sNil))) (cG c_WRONG_KIND))
noncomputable def b__two : SS := (bSeq (bSet 5 (sBin oIx (sVarB 0) (cI 0)))
    (bSeq (bIf (sBl (sBin dEq (sVarB 5) (cS "same"))) (bRet (sCallU f_truth (d_truth.drop 0) (sCons (sBin dEq (sVarB 1) (sVarB 2)) sNil))) bNil)
    (bSeq (bIf (sBl (sBin dEq (sVarB 5) (cS "less"))) (bSeq (bIf (sOr (sBl (sBin dNe (sBin oIx (sVarB 1) (cI 0)) (cS "number"))) (sBl (sBin dNe (sBin oIx (sVarB 2) (cI 0)) (cS "number")))) (bRet (cG c_WRONG_KIND)) bNil)
    (bRet (sCallU f_truth (d_truth.drop 0) (sCons (sBin oLtX (sBin oIx (sVarB 1) (cI 1)) (sBin oIx (sVarB 2) (cI 1))) sNil)))) bNil)
    (bSeq (bIf (sBl (sBin dEq (sVarB 5) (cS "contains"))) (bSeq (bIf (sOr (sBl (sBin dNe (sBin oIx (sVarB 1) (cI 0)) (cS "set"))) (sBl (sBin dEq (sBin oIx (sVarB 2) (cI 0)) (cS "set")))) (bRet (cG c_WRONG_KIND)) bNil)
    (bRet (sCallU f_truth (d_truth.drop 0) (sCons (sBin (oInX false) (sVarB 2) (sBin oIx (sVarB 1) (cI 1))) sNil)))) bNil)
    (bSeq (bIf (sBl (sBin dEq (sVarB 5) (cS "in"))) (bRet (sCallU f__within (d__within.drop 0) (sCons (sVarB 1) (sCons (sVarB 2) (sCons (sVar 3) (sCons (sVar 4) sNil)))))) bNil)
    (bRet e0__two))))))
noncomputable def f__two : Sem1 := semB [false, false, true, true, true] 6 b__two
def d_Walk__outcome : List D := []
noncomputable def e0_Walk__outcome : SE := (sLc [4] (sItems (sCallU f_operands (d_operands.drop 0) (sCons (sVarB 2) sNil))) (tgName 4) sYes (sBin oIx (eFld a__values__Walk "_values" (sVar 0)) (sVarB 4)))
noncomputable def b_Walk__outcome : SS := (bSeq (bSet 2 (sBin oIx (eFld a__expression__Walk "_expression" (sVar 0)) (sVarB 1)))
    (bSeq (bSet 3 e0_Walk__outcome)
    (bSeq (bIf (sNot (sTru (sVarB 3))) (bRet (sCallU f__leaf (d__leaf.drop 0) (sCons (sVarB 2) (sCons (eFld a__request__Walk "_request" (sVar 0)) sNil)))) bNil)
    (bSeq (bIf (sBl (sBin dEq (sCall oLen (sCons (sVarB 3) sNil)) (cI 1))) (bRet (sCallU f__one (d__one.drop 0) (sCons (sVarB 2) (sCons (sBin oIx (sVarB 3) (cI 0)) (sCons (eFld a__source__Walk "_source" (sVar 0)) (sCons (eFld a_reads__Walk "reads" (sVar 0)) sNil)))))) bNil)
    (bRet (sCallU f__two (d__two.drop 0) (sCons (sVarB 2) (sCons (sBin oIx (sVarB 3) (cI 0)) (sCons (sBin oIx (sVarB 3) (cI 1)) (sCons (eFld a__source__Walk "_source" (sVar 0)) (sCons (eFld a_reads__Walk "reads" (sVar 0)) sNil)))))))))))
noncomputable def f_Walk__outcome : Sem1 := semB [true, false] 5 b_Walk__outcome
noncomputable def l0_Walk_run : SS := (bSeq (bSet 2 (eMeth "Walk" "_outcome" f_Walk__outcome (d_Walk__outcome.drop 0) (sVar 0) (sCons (sVarB 1) sNil)))
    (bSeq (bIf (sBl (sBin dNe (sBin oIx (sVarB 2) (cI 0)) (cS "value"))) (bRet (sVar 2)) bNil)
    (bSeq (bSetIxO (eFld a__values__Walk "_values" (sVar 0)) (sVar 1) (sBin oIx (sVarB 2) (cI 1)))
    (bSeq (bSet 3 (eMeth "Walk" "_settle" f_Walk__settle (d_Walk__settle.drop 0) (sVar 0) (sCons (sVar 1) sNil)))
    (bSeq (bIf (sBl (sIsN false (sVarB 3))) (bRet (cG c_WRONG_KIND)) bNil)
    (bSeq (bIf (sBl (sIsN false (sBin oIx (eFld a__roles__Walk "_roles" (sVar 0)) (sVarB 3)))) (bRet (sTup (sCons (cS "value") (sCons (sBin oIx (eFld a__values__Walk "_values" (sVar 0)) (sVarB 3)) sNil)))) bNil)
    (bSet 1 (eMeth "Walk" "_behind" f_Walk__behind (d_Walk__behind.drop 0) (sVar 0) (sCons (sVarB 3) sNil)))))))))
section
variable {S : Sto} {es : List Ent} {us : List Str} {u m : Str}
structure Lv (es : List Ent) (us : List Str) (u : Str) (i : Nat) (F W : List Str) : Prop where
  nd : F.Nodup
  m : ∀ x ∈ F, Reach es u x ∧ x ∈ us
  w : ∀ x ∈ W, x = u ∨ x ∈ F
  c : ∀ e ∈ es, (e.uid = u ∨ e.uid ∈ F) → e.uid ∉ W → ∀ p ∈ e.pars, p ∈ F
  g : W = [] ∨ i ≤ F.length
end
end Ev
namespace K50
open PySem DL Ev
open G hiding b__law_alike d__law_alike f__law_alike
def c_VERSION_MOST : D := (D.int (100000))
def a__newest__Known : List Str := ["Known"]
def a__spans__Known : List Str := ["Known"]
def d__joined : List D := []
noncomputable def l0__joined : SS := (bIf (sAnd (sBl (sBin dEq (sVarB 7) (sVarB 1))) (sAnd (sBl (sBin oLe (sVarB 5) (sBin oAdd (sVarB 3) (cI 1)))) (sBl (sBin oLe (sVarB 2) (sBin oAdd (sVarB 6) (cI 1)))))) (bSeq (bSet 2 (sCall oMin (sCons (sVarB 2) (sCons (sVarB 5) sNil))))
    (bSet 3 (sCall oMax (sCons (sVarB 3) (sCons (sVarB 6) sNil))))) (bExpr (sMut (sVar 4) uAppend (sCons (sTup (sCons (sVar 5) (sCons (sVar 6) (sCons (sVar 7) sNil)))) sNil))))
noncomputable def e0__joined : SE := (sLcO [9] (sVar 4) (tgName 9) (sBl (sBin oLtX (sBin oIx (sVarB 9) (cI 0)) (sVarB 2))) (sVar 9))
noncomputable def b__joined : SS := (bSeq (bSet 4 (sObj (sLst sNil)))
    (bSeq (bFor (sItems (sVarS 0)) (tgTup 3 (tgCons (tgName 5) (tgCons (tgName 6) (tgCons (tgName 7) tgNil)))) l0__joined)
    (bSeq (bSet 8 (sCall oLen (sCons e0__joined sNil)))
    (bSeq (bExpr (sMut (sVar 4) uInsert (sCons (sVar 8) (sCons (sTup (sCons (sVar 2) (sCons (sVar 3) (sCons (sVar 1) sNil)))) sNil))))
    (bRet (sVar 4))))))
noncomputable def f__joined : Sem1 := semB [false, true, true, true] 10 b__joined
def d_Known___init__ : List D := []
noncomputable def b_Known___init__ : SS := (bSeq (bFld a__spans__Known "_spans" (sVar 0) (sObj sNewT))
    (bFld a__newest__Known "_newest" (sVar 0) (sNeg (cI 1))))
noncomputable def f_Known___init__ : Sem1 := semB [true] 1 b_Known___init__
def d_Known_spans : List D := []
noncomputable def b_Known_spans : SS := (bRet (sCall oList (sCons (sTGet2 (eFld a__spans__Known "_spans" (sVar 0)) (sVar 1) (sLst sNil)) sNil)))
noncomputable def f_Known_spans : Sem1 := semB [true, true] 2 b_Known_spans
def d_Known_reads : List D := []
noncomputable def b_Known_reads : SS := (bRet (sCall oSortT (sCons (eFld a__spans__Known "_spans" (sVar 0)) sNil)))
noncomputable def f_Known_reads : Sem1 := semB [true] 1 b_Known_reads
def d_Known_newest : List D := []
noncomputable def b_Known_newest : SS := (bRet (eFld a__newest__Known "_newest" (sVar 0)))
noncomputable def f_Known_newest : Sem1 := semB [true] 1 b_Known_newest
def d__law_facts : List D := []
noncomputable def l0__law_facts : SS := (bSeq (bSet 4 (sCallU f__law_draw (d__law_draw.drop 0) (sCons (sVar 0) (sCons (cI 2) sNil))))
    (bSeq (bSet 5 (sCallU f__law_draw (d__law_draw.drop 0) (sCons (sVar 0) (sCons (cI 30) sNil))))
    (bSeq (bSet 6 (sBin oDiv (sVarB 5) (cI 10)))
    (bSeq (bSet 7 (sCall oMin (sCons (sBin oAdd (sBin oMul (cI 10) (sVarB 6)) (cI 9)) (sCons (sBin oAdd (sVarB 5) (sCallU f__law_draw (d__law_draw.drop 0) (sCons (sVar 0) (sCons (cI 10) sNil)))) sNil))))
    (bSeq (bSet 8 (sTup (sCons (cS "value") (sCons (sTup (sCons (cS "number") (sCons (sBin oMul (sVarB 6) (sBin oSub (cI 1) (sVarB 4))) sNil))) sNil))))
    (bMut 2 uAppend (sCons (sTup (sCons (sTup (sCons (cS "attribute") (sCons (cS "doc:plan") (sCons (sBin oIx (cS "ab") (sVarB 4)) sNil)))) (sCons (sVar 8) (sCons (sVar 5) (sCons (sVar 7) sNil))))) sNil)))))))
noncomputable def b__law_facts : SS := (bSeq (bSetOwn 2 (sLst sNil))
    (bSeq (bFor (sRng (sCons (sVar 1) sNil)) (tgName 3) l0__law_facts)
    (bFz 2 (bRet (sVar 2)))))
noncomputable def f__law_facts : Sem1 := semB [true, false] 9 b__law_facts
def d__law_turned : List D := []
noncomputable def l0__law_turned : SS := (bSeq (bSet 5 (sMut (sVar 2) uPopAt (sCons (sCallU f__law_draw (d__law_draw.drop 0) (sCons (sVar 0) (sCons (sCall oLen (sCons (sVarB 2) sNil)) sNil))) sNil)))
    (bSeq (bMut 3 uAppend (sCons (sVar 5) sNil))
    (bIf (sBl (sBin dEq (sCallU f__law_draw (d__law_draw.drop 0) (sCons (sVar 0) (sCons (cI 3) sNil))) (cI 0))) (bMut 3 uAppend (sCons (sBin oIx (sVarB 3) (sCallU f__law_draw (d__law_draw.drop 0) (sCons (sVar 0) (sCons (sCall oLen (sCons (sVarB 3) sNil)) sNil)))) sNil)) bNil)))
noncomputable def b__law_turned : SS := (bSeq (bSet 2 (sObj (sCall oList (sCons (sVarB 1) sNil))))
    (bSeq (bSetOwn 3 (sLst sNil))
    (bSeq (bFor (sRng (sCons (sCall oLen (sCons (sVarB 1) sNil)) sNil)) (tgName 4) l0__law_turned)
    (bFz 3 (bRet (sVar 3))))))
noncomputable def f__law_turned : Sem1 := semB [true, false] 6 b__law_turned
def d_Known__span_at : List D := []
noncomputable def l0_Known__span_at : SS := (bIf (sBl (sChain oLe oLe (sBin oIx (sVarB 3) (cI 0)) (sVarB 2) (sBin oIx (sVarB 3) (cI 1)))) (bRet (sVar 3)) bNil)
noncomputable def b_Known__span_at : SS := (bSeq (bFor (sItems (eMeth "Known" "spans" f_Known_spans (d_Known_spans.drop 0) (sVar 0) (sCons (sVar 1) sNil))) (tgName 3) l0_Known__span_at)
    (bRet cN))
noncomputable def f_Known__span_at : Sem1 := semB [true, true, false] 4 b_Known__span_at
def d_Known_facts : List D := []
noncomputable def e0_Known_facts : SE := (sLc2O [1, 2, 3, 4] [2, 3, 4] (sItems (eMeth "Known" "reads" f_Known_reads d_Known_reads (sVar 0) sNil)) (tgName 1) (sTIx (eFld a__spans__Known "_spans" (sVar 0)) (sVar 1)) (tgTup 3 (tgCons (tgName 2) (tgCons (tgName 3) (tgCons (tgName 4) tgNil)))) (sTup (sCons (sVar 1) (sCons (sVar 4) (sCons (sVar 2) (sCons (sVar 3) sNil))))))
noncomputable def b_Known_facts : SS := (bRet e0_Known_facts)
noncomputable def f_Known_facts : Sem1 := semB [true] 5 b_Known_facts
def d_Known_view : List D := []
noncomputable def b_Known_view : SS := (bExpr (sCallU f__wall (d__wall.drop 0) (sCons (cI 0) sNil)))
noncomputable def f_Known_view : Sem1 := semB [true, false] 2 b_Known_view
def d_Known_duplicate : List D := []
noncomputable def b_Known_duplicate : SS := (bExpr (sCallU f__wall (d__wall.drop 0) (sCons (cI 1) sNil)))
noncomputable def f_Known_duplicate : Sem1 := semB [true] 1 b_Known_duplicate
def d_Known_at : List D := []
noncomputable def e0_Known_at : SE := (sIf (sBl (sIsN false (sVarB 3))) cN (sBin oIx (sVarB 3) (cI 2)))
noncomputable def b_Known_at : SS := (bSeq (bSet 3 (eMeth "Known" "_span_at" f_Known__span_at (d_Known__span_at.drop 0) (sVar 0) (sCons (sVar 1) (sCons (sVarB 2) sNil))))
    (bRet e0_Known_at))
noncomputable def f_Known_at : Sem1 := semB [true, true, false] 4 b_Known_at
def d_Known_span : List D := []
noncomputable def e0_Known_span : SE := (sIf (sBl (sIsN false (sVarB 3))) cN (sTup (sCons (sBin oIx (sVarB 3) (cI 0)) (sCons (sBin oIx (sVarB 3) (cI 1)) sNil))))
noncomputable def b_Known_span : SS := (bSeq (bSet 3 (eMeth "Known" "_span_at" f_Known__span_at (d_Known__span_at.drop 0) (sVar 0) (sCons (sVar 1) (sCons (sVarB 2) sNil))))
    (bRet e0_Known_span))
noncomputable def f_Known_span : Sem1 := semB [true, true, false] 4 b_Known_span
def d_is_read : List D := []
noncomputable def b_is_read : SS := (bSeq (bIf (sNot (sTru (sCallU f_is_uid (d_is_uid.drop 0) (sCons (sBin oIx (sVarB 0) (cI 1)) sNil)))) (bRet (cB false)) bNil)
    (bSeq (bIf (sBl (sBin dEq (sBin oIx (sVarB 0) (cI 0)) (cS "ancestors"))) (bRet (cB true)) bNil)
    (bSeq (bTryM [(fun c => t_OutOfRange__OutOfRange.lookup c, none, (bRet (cB false)))] (bExpr (sCallU f_check_name (d_check_name.drop 0) (sCons (sBin oIx (sVarB 0) (cI 2)) sNil))))
    (bRet (cB true)))))
noncomputable def f_is_read : Sem1 := semB [false] 1 b_is_read
def d__fits : List D := []
noncomputable def e0__fits : SE := (sLc [2] (sItems (sBin oIx (sVarB 1) (cI 1))) (tgName 2) sYes (sCallU f_is_uid (d_is_uid.drop 0) (sCons (sVarB 2) sNil)))
noncomputable def b__fits : SS := (bSeq (bIf (sBl (sBin dEq (sBin oIx (sVarB 0) (cI 0)) (cS "attribute"))) (bRet (sOrV (sBin dEq (sBin oIx (sVarB 1) (cI 0)) (cS "gone")) (sOrV (sBin dEq (sBin oIx (sVarB 1) (cI 0)) (cS "none")) (sAndV (sBin dEq (sBin oIx (sVarB 1) (cI 0)) (cS "value")) (sCallU f_is_value (d_is_value.drop 0) (sCons (sBin oIx (sVarB 1) (cI 1)) sNil)))))) bNil)
    (bSeq (bIf (sOr (sBl (sBin dNe (sBin oIx (sVarB 1) (cI 0)) (cS "above"))) (sBl (sBin (oInX false) (sBin oIx (sVarB 0) (cI 1)) (sBin oIx (sVarB 1) (cI 1))))) (bRet (cB false)) bNil)
    (bRet (sAndV (sCall oAll2 (sCons e0__fits sNil)) (sCallU f_is_rising (d_is_rising.drop 0) (sCons (sBin oIx (sVarB 1) (cI 1)) sNil))))))
noncomputable def f__fits : Sem1 := semB [false, false] 3 b__fits
def d_check_fact : List D := []
noncomputable def b_check_fact : SS := (bSeq (bAsg (tgTup 4 (tgCons (tgName 1) (tgCons (tgName 2) (tgCons (tgName 3) (tgCons (tgName 4) tgNil))))) (sVar 0))
    (bSeq (bIf (sNot (sTru (sCallU f_is_read (d_is_read.drop 0) (sCons (sVarB 1) sNil)))) (bRaise "OutOfRange" ["name"] (sCons (cS "read") sNil)) bNil)
    (bSeq (bIf (sNot (sTru (sCallU f__fits (d__fits.drop 0) (sCons (sVarB 1) (sCons (sVarB 2) sNil))))) (bRaise "OutOfRange" ["name"] (sCons (cS "told") sNil)) bNil)
    (bIf (sNot (sBl (sChain3 oLe oLe oLe (cI 0) (sVarB 3) (sVarB 4) (cG c_VERSION_MOST)))) (bRaise "OutOfRange" ["name"] (sCons (cS "span") sNil)) bNil))))
noncomputable def f_check_fact : Sem1 := semB [true] 5 b_check_fact
def d_Known_learn : List D := []
noncomputable def l0_Known_learn : SS := (bSeq (bIf (sAnd (sBl (sBin oLe (sVarB 6) (sVarB 5))) (sAnd (sBl (sBin oLe (sVarB 4) (sVarB 7))) (sBl (sBin dNe (sVarB 8) (sVarB 3))))) (bRaiseT "UnlikeFacts" (cS "something else is known")) bNil)
    (bIf (sAnd (sBl (sBin oLe (sVarB 6) (sVarB 4))) (sBl (sBin oLe (sVarB 5) (sVarB 7)))) (bRet (cB false)) bNil))
noncomputable def b_Known_learn : SS := (bSeq (bExpr (sCallU f_check_fact (d_check_fact.drop 0) (sCons (sVar 1) sNil)))
    (bSeq (bAsg (tgTup 4 (tgCons (tgName 2) (tgCons (tgName 3) (tgCons (tgName 4) (tgCons (tgName 5) tgNil))))) (sVar 1))
    (bSeq (bFor (sItems (eMeth "Known" "spans" f_Known_spans (d_Known_spans.drop 0) (sVar 0) (sCons (sVar 2) sNil))) (tgTup 3 (tgCons (tgName 6) (tgCons (tgName 7) (tgCons (tgName 8) tgNil)))) l0_Known_learn)
    (bSeq (bTPut (eFld a__spans__Known "_spans" (sVar 0)) (sVar 2) (sCallU f__joined (d__joined.drop 0) (sCons (eMeth "Known" "spans" f_Known_spans (d_Known_spans.drop 0) (sVar 0) (sCons (sVar 2) sNil)) (sCons (sVar 3) (sCons (sVar 4) (sCons (sVar 5) sNil))))))
    (bSeq (bFld a__newest__Known "_newest" (sVar 0) (sCall oMax (sCons (eFld a__newest__Known "_newest" (sVar 0)) (sCons (sVarB 5) sNil))))
    (bRet (cB true)))))))
noncomputable def f_Known_learn : Sem1 := semB [true, true] 9 b_Known_learn
noncomputable def l0_law : SS := (bExpr (eMeth "Known" "learn" f_Known_learn (d_Known_learn.drop 0) (sVar 3) (sCons (sVar 5) sNil)))
noncomputable def l1_law : SS := (bExpr (eMeth "Known" "learn" f_Known_learn (d_Known_learn.drop 0) (sVar 4) (sCons (sVar 5) sNil)))
noncomputable def l2_law : SS := (bIf (sOr (sNot (sTru (sCallU f__law_alike (d__law_alike.drop 0) (sCons (eMeth "Known" "at" f_Known_at (d_Known_at.drop 0) (sVar 4) (sCons (sBin oIx (sVarB 5) (cI 0)) (sCons (sVarB 6) sNil))) (sCons (sBin oIx (sVarB 5) (cI 1)) sNil))))) (sNot (sTru (sCallU f__law_alike (d__law_alike.drop 0) (sCons (eMeth "Known" "at" f_Known_at (d_Known_at.drop 0) (sVar 3) (sCons (sBin oIx (sVarB 5) (cI 0)) (sCons (sVarB 6) sNil))) (sCons (sBin oIx (sVarB 5) (cI 1)) sNil)))))) (bRet (cB false)) bNil)
noncomputable def l3_law : SS := (bSeq (bIf (sOr (sBl (sBin oNotB (eMeth "Known" "learn" f_Known_learn (d_Known_learn.drop 0) (sVar 4) (sCons (sVar 5) sNil)) (cB false))) (sBl (sBin oNotB (eMeth "Known" "learn" f_Known_learn (d_Known_learn.drop 0) (sVar 3) (sCons (sVar 5) sNil)) (cB false)))) (bRet (cB false)) bNil)
    (bFor (sRng (sCons (sBin oIx (sVarB 5) (cI 2)) (sCons (sBin oAdd (sBin oIx (sVarB 5) (cI 3)) (cI 1)) sNil))) (tgName 6) l2_law))
noncomputable def b_law : SS := (bSeq (bSet 1 (sObj (sLst (sCons (sCallU f__law_digits (d__law_digits.drop 0) (sCons (sVarB 0) (sCons (cI 0) (sCons (cI 63) sNil)))) (sCons (cI 0) sNil)))))
    (bSeq (bSet 2 (sCallU f__law_facts (d__law_facts.drop 0) (sCons (sVar 1) (sCons (sBin oAdd (cI 1) (sCallU f__law_draw (d__law_draw.drop 0) (sCons (sVar 1) (sCons (cI 12) sNil)))) sNil))))
    (bSeq (bSet 3 (eMake "Known" f_Known___init__ d_Known___init__ sNil))
    (bSeq (bSet 4 (eMake "Known" f_Known___init__ d_Known___init__ sNil))
    (bSeq (bFor (sItems (sVarS 2)) (tgName 5) l0_law)
    (bSeq (bFor (sItems (sCallU f__law_turned (d__law_turned.drop 0) (sCons (sVar 1) (sCons (sVarB 2) sNil)))) (tgName 5) l1_law)
    (bSeq (bIf (sOr (sNot (sTru (sCallU f__law_alike (d__law_alike.drop 0) (sCons (eMeth "Known" "facts" f_Known_facts d_Known_facts (sVar 3) sNil) (sCons (eMeth "Known" "facts" f_Known_facts d_Known_facts (sVar 4) sNil) sNil))))) (sBl (sBin dNe (eMeth "Known" "newest" f_Known_newest d_Known_newest (sVar 3) sNil) (eMeth "Known" "newest" f_Known_newest d_Known_newest (sVar 4) sNil)))) (bRet (cB false)) bNil)
    (bSeq (bFor (sItems (sVarS 2)) (tgName 5) l3_law)
    (bRet (sAndV (sIsN false (eMeth "Known" "at" f_Known_at (d_Known_at.drop 0) (sVar 4) (sCons (sTup (sCons (cS "attribute") (sCons (cS "doc:plan") (sCons (cS "a") sNil)))) (sCons (cI 30) sNil)))) (sIsN false (eMeth "Known" "at" f_Known_at (d_Known_at.drop 0) (sVar 4) (sCons (sTup (sCons (cS "ancestors") (sCons (cS "doc:plan") sNil))) (sCons (cI 3) sNil))))))))))))))
noncomputable def f_law : Sem1 := semB [true] 7 b_law
end K50
namespace K50
open PySem PySem.Spec PyProof.Rows L2 DL Ev
open G hiding b__law_alike d__law_alike f__law_alike
abbrev top (i : Nat) : Stmt := PySem.Challenge.pw_farfacts_k50_order_of_facts_does_not_mat.main.body.getD i (.Pass ⟨0, 0, 0, 0⟩)
structure Fs (w : World) (K : PySem.W.Frag) (mg : Str → Option Value) (ca : Ca) : Prop where
  n_all : mg "all" = none
  n_int : mg "int" = none
  n_len : mg "len" = none
  n_list : mg "list" = none
  n_max : mg "max" = none
  n_min : mg "min" = none
  n_ord : mg "ord" = none
  n_range : mg "range" = none
  n_repr : mg "repr" = none
  n_sorted : mg "sorted" = none
  n_zip : mg "zip" = none
  g_NAME_MOST : GlC K mg ca "NAME_MOST" c_NAME_MOST
  g_NAME_SIGNS : GlC K mg ca "NAME_SIGNS" c_NAME_SIGNS
  g_NUMBER_MOST : GlC K mg ca "NUMBER_MOST" c_NUMBER_MOST
  g_SET_MOST : GlC K mg ca "SET_MOST" c_SET_MOST
  g_TEXT_MOST : GlC K mg ca "TEXT_MOST" c_TEXT_MOST
  g_UNFIT : GlC K mg ca "UNFIT" c_UNFIT
  g_VERSION_MOST : GlC K mg ca "VERSION_MOST" c_VERSION_MOST
  s_RANKS : TupS K mg "RANKS" ["truth", "number", "text", "entity"]
  t_OutOfRange__OutOfRange : TrF K mg ca "OutOfRange" t_OutOfRange__OutOfRange
  at__newest__Known : AttF K ca a__newest__Known "_newest"
  at__spans__Known : AttF K ca a__spans__Known "_spans"
  nt : NoT K
section
variable {P : Program} {w : World} {K : PySem.W.Frag} {mg : Str → Option Value} {base : Heap} {ca : Ca}
theorem sc__wall : FnScope ["k"] ["k"] (defScope (top 0)) := ⟨rfl, rfl, rfl, by decide +kernel, rfl, by decide +kernel, by decide +kernel⟩
theorem ok__wall {f : Addr} {fd : FuncData} (F : FunD K "_wall" "_wall" (defArgs (top 0)) (defBody (top 0)) (defScope (top 0)) [] [] f fd) (T : Fs w K mg ca) :
    FnG P w K mg base 1 f fd ["k"] (spD K ca [false] .frz f__wall) := by
  have sc := sc__wall
  refine (show FnG P w K mg base 1 f fd ["k"] (spD K ca [false] .frz (semB [false] (["k"] : List Str).length b__wall)) from okD (ca := ca) (mr := .frz) (fb := b__wall) [false] F sc rfl (fun cdv A outer s H E hG hr => ?_) (.inl rfl))
  have tk : Takes (cxOf (CXP P w) P w K mg base ["k"] "_wall" (defScope (top 0)) f cdv A outer s H E) (fun cls d _ H => E cls d H) := takes_of rfl rfl rfl rfl
  have hp : PassesOwn (model P w) (A.deeper (envOfC "_wall" (defScope (top 0)) s.heap.objs.size f cdv)) (envOfC "_wall" (defScope (top 0)) s.heap.objs.size f cdv) (cxOf (CXP P w) P w K mg base ["k"] "_wall" (defScope (top 0)) f cdv A outer s H E).xe := passes_of (X := cxOf (CXP P w) P w K mg base ["k"] "_wall" (defScope (top 0)) f cdv A outer s H E) rfl
  exact (dss_one (ds_while hp (dt_val de_bl) (dss_one ds_pass)))
theorem sc_is_name : FnScope ["text", "sign"] ["text"] (defScope (top 8)) := ⟨rfl, rfl, rfl, by decide +kernel, rfl, by decide +kernel, by decide +kernel⟩
theorem ok_is_name {f : Addr} {fd : FuncData} (F : FunD K "is_name" "is_name" (defArgs (top 8)) (defBody (top 8)) (defScope (top 8)) [] [] f fd) (T : Fs w K mg ca) :
    FnG P w K mg base 1 f fd ["text"] (spD K ca [false] .frz f_is_name) := by
  have sc := sc_is_name
  refine (show FnG P w K mg base 1 f fd ["text"] (spD K ca [false] .frz (semB [false] (["text", "sign"] : List Str).length b_is_name)) from okD (ca := ca) (mr := .frz) (fb := b_is_name) [false] F sc rfl (fun cdv A outer s H E hG hr => ?_) (.inl rfl))
  have tk : Takes (cxOf (CXP P w) P w K mg base ["text", "sign"] "is_name" (defScope (top 8)) f cdv A outer s H E) (fun cls d _ H => E cls d H) := takes_of rfl rfl rfl rfl
  have hp : PassesOwn (model P w) (A.deeper (envOfC "is_name" (defScope (top 8)) s.heap.objs.size f cdv)) (envOfC "is_name" (defScope (top 8)) s.heap.objs.size f cdv) (cxOf (CXP P w) P w K mg base ["text", "sign"] "is_name" (defScope (top 8)) f cdv A outer s H E).xe := passes_of (X := cxOf (CXP P w) P w K mg base ["text", "sign"] "is_name" (defScope (top 8)) f cdv A outer s H E) rfl
  exact (dss_cons (ds_if (dt_not (dt_chain od_le od_le de_int (de_callB cd_len rfl T.n_len rfl (da_cons (by decide) (de_varB (pv 0)) da_nil)) (de_gl T.g_NAME_MOST))) (dss_one (ds_ret de_bl)) dss_nil)
    (dss_cons (ds_for hp rfl (di_seq (de_varS (pv 0))) (dg_name (i := 1) sc.nd rfl (.inl rfl)) (dss_one (ds_if (dt_cmp (od_notIn (have h := Room.u65 hr; h)) (de_varB (pv 1)) (de_gl T.g_NAME_SIGNS) rfl) (dss_one (ds_ret de_bl)) dss_nil)))
    (dss_one (ds_ret de_bl))))
theorem sc_is_rising : FnScope ["texts", "one", "other"] ["texts"] (defScope (top 11)) := ⟨rfl, rfl, rfl, by decide +kernel, rfl, by decide +kernel, by decide +kernel⟩
theorem ok_is_rising {f : Addr} {fd : FuncData} (F : FunD K "is_rising" "is_rising" (defArgs (top 11)) (defBody (top 11)) (defScope (top 11)) [] [] f fd) (T : Fs w K mg ca) :
    FnG P w K mg base 1 f fd ["texts"] (spD K ca [false] .frz f_is_rising) := by
  have sc := sc_is_rising
  refine (show FnG P w K mg base 1 f fd ["texts"] (spD K ca [false] .frz (semB [false] (["texts", "one", "other"] : List Str).length b_is_rising)) from okD (ca := ca) (mr := .frz) (fb := b_is_rising) [false] F sc rfl (fun cdv A outer s H E hG hr => ?_) (.inl rfl))
  have tk : Takes (cxOf (CXP P w) P w K mg base ["texts", "one", "other"] "is_rising" (defScope (top 11)) f cdv A outer s H E) (fun cls d _ H => E cls d H) := takes_of rfl rfl rfl rfl
  have hp : PassesOwn (model P w) (A.deeper (envOfC "is_rising" (defScope (top 11)) s.heap.objs.size f cdv)) (envOfC "is_rising" (defScope (top 11)) s.heap.objs.size f cdv) (cxOf (CXP P w) P w K mg base ["texts", "one", "other"] "is_rising" (defScope (top 11)) f cdv A outer s H E).xe := passes_of (X := cxOf (CXP P w) P w K mg base ["texts", "one", "other"] "is_rising" (defScope (top 11)) f cdv A outer s H E) rfl
  exact (dss_cons (ds_for hp rfl (di_zipA rfl T.n_zip (da_cons (by decide) (de_varS (pv 0)) (da_cons (by decide) (de_slice (de_varB (pv 0)) (do_some de_int) do_none) da_nil))) (dg_tup rfl (dgs_cons (dg_name (i := 1) sc.nd rfl (.inl rfl)) (dgs_cons (dg_name (i := 2) sc.nd rfl (.inl rfl)) dgs_nil))) (dss_one (ds_if (dt_cmp od_ge (de_varB (pv 1)) (de_varB (pv 2)) rfl) (dss_one (ds_ret de_bl)) dss_nil)))
    (dss_one (ds_ret de_bl)))
theorem sc_is_text : FnScope ["text", "sign"] ["text"] (defScope (top 18)) := ⟨rfl, rfl, rfl, by decide +kernel, rfl, by decide +kernel, by decide +kernel⟩
theorem ok_is_text {f : Addr} {fd : FuncData} (F : FunD K "is_text" "is_text" (defArgs (top 18)) (defBody (top 18)) (defScope (top 18)) [] [] f fd) (T : Fs w K mg ca) :
    FnG P w K mg base 1 f fd ["text"] (spD K ca [false] .frz f_is_text) := by
  have sc := sc_is_text
  refine (show FnG P w K mg base 1 f fd ["text"] (spD K ca [false] .frz (semB [false] (["text", "sign"] : List Str).length b_is_text)) from okD (ca := ca) (mr := .frz) (fb := b_is_text) [false] F sc rfl (fun cdv A outer s H E hG hr => ?_) (.inl rfl))
  have tk : Takes (cxOf (CXP P w) P w K mg base ["text", "sign"] "is_text" (defScope (top 18)) f cdv A outer s H E) (fun cls d _ H => E cls d H) := takes_of rfl rfl rfl rfl
  have hp : PassesOwn (model P w) (A.deeper (envOfC "is_text" (defScope (top 18)) s.heap.objs.size f cdv)) (envOfC "is_text" (defScope (top 18)) s.heap.objs.size f cdv) (cxOf (CXP P w) P w K mg base ["text", "sign"] "is_text" (defScope (top 18)) f cdv A outer s H E).xe := passes_of (X := cxOf (CXP P w) P w K mg base ["text", "sign"] "is_text" (defScope (top 18)) f cdv A outer s H E) rfl
  exact (dss_cons (ds_if (dt_cmp od_gt (de_callB cd_len rfl T.n_len rfl (da_cons (by decide) (de_varB (pv 0)) da_nil)) (de_gl T.g_TEXT_MOST) rfl) (dss_one (ds_ret de_bl)) dss_nil)
    (dss_cons (ds_for hp rfl (di_seq (de_varS (pv 0))) (dg_name (i := 1) sc.nd rfl (.inl rfl)) (dss_one (ds_if (PW.pt (dw_or (dt_not (dt_chain od_le od_le de_int (de_callB cd_ord rfl T.n_ord rfl (da_cons (by decide) (de_varB (pv 1)) da_nil)) de_int)) (dw_one (dt_cmp (od_in (have h := Room.u65 hr; h)) (de_callB cd_ord rfl T.n_ord rfl (da_cons (by decide) (de_varB (pv 1)) da_nil)) (de_gl T.g_UNFIT) rfl)))) (dss_one (ds_ret de_bl)) dss_nil)))
    (dss_one (ds_ret de_bl))))
theorem sc_scalar_before : FnScope ["one", "two"] ["one", "two"] (defScope (top 20)) := ⟨rfl, rfl, rfl, by decide +kernel, rfl, by decide +kernel, by decide +kernel⟩
theorem ok_scalar_before {f : Addr} {fd : FuncData} (F : FunD K "scalar_before" "scalar_before" (defArgs (top 20)) (defBody (top 20)) (defScope (top 20)) [] [] f fd) (T : Fs w K mg ca) :
    FnG P w K mg base 1 f fd ["one", "two"] (spD K ca [false, false] .frz f_scalar_before) := by
  have sc := sc_scalar_before
  refine (show FnG P w K mg base 1 f fd ["one", "two"] (spD K ca [false, false] .frz (semB [false, false] (["one", "two"] : List Str).length b_scalar_before)) from okD (ca := ca) (mr := .frz) (fb := b_scalar_before) [false, false] F sc rfl (fun cdv A outer s H E hG hr => ?_) (.inl rfl))
  have tk : Takes (cxOf (CXP P w) P w K mg base ["one", "two"] "scalar_before" (defScope (top 20)) f cdv A outer s H E) (fun cls d _ H => E cls d H) := takes_of rfl rfl rfl rfl
  have hp : PassesOwn (model P w) (A.deeper (envOfC "scalar_before" (defScope (top 20)) s.heap.objs.size f cdv)) (envOfC "scalar_before" (defScope (top 20)) s.heap.objs.size f cdv) (cxOf (CXP P w) P w K mg base ["one", "two"] "scalar_before" (defScope (top 20)) f cdv A outer s H E).xe := passes_of (X := cxOf (CXP P w) P w K mg base ["one", "two"] "scalar_before" (defScope (top 20)) f cdv A outer s H E) rfl
  exact (dss_cons (ds_if (dt_cmp (od_ne (have h := Room.units hr; h)) (de_ix (by decide) (de_varB (pv 0)) de_int) (de_ix (by decide) (de_varB (pv 1)) de_int) rfl) (dss_one (ds_ret (de_cmp (od_ltX (have h := Room.u66 hr; h)) (de_tix T.s_RANKS (da_cons (by decide) (de_ix (by decide) (de_varB (pv 0)) de_int) da_nil)) (de_tix T.s_RANKS (da_cons (by decide) (de_ix (by decide) (de_varB (pv 1)) de_int) da_nil)) rfl))) dss_nil)
    (dss_one (ds_ret (de_cmp (od_ltX (have h := Room.u66 hr; h)) (de_ix (by decide) (de_varB (pv 0)) de_int) (de_ix (by decide) (de_varB (pv 1)) de_int) rfl))))
theorem sc__joined : FnScope ["spans", "told", "since", "upto", "kept", "first", "last", "other", "place", "span"] ["spans", "told", "since", "upto"] (defScope (top 28)) := ⟨rfl, rfl, rfl, by decide +kernel, rfl, by decide +kernel, by decide +kernel⟩
theorem ok__joined {f : Addr} {fd : FuncData} (F : FunD K "_joined" "_joined" (defArgs (top 28)) (defBody (top 28)) (defScope (top 28)) [] [] f fd) (T : Fs w K mg ca) :
    FnG P w K mg base 1 f fd ["spans", "told", "since", "upto"] (spD K ca [false, true, true, true] .frz f__joined) := by
  have sc := sc__joined
  refine (show FnG P w K mg base 1 f fd ["spans", "told", "since", "upto"] (spD K ca [false, true, true, true] .frz (semB [false, true, true, true] (["spans", "told", "since", "upto", "kept", "first", "last", "other", "place", "span"] : List Str).length b__joined)) from okD (ca := ca) (mr := .frz) (fb := b__joined) [false, true, true, true] F sc rfl (fun cdv A outer s H E hG hr => ?_) (.inl rfl))
  have tk : Takes (cxOf (CXP P w) P w K mg base ["spans", "told", "since", "upto", "kept", "first", "last", "other", "place", "span"] "_joined" (defScope (top 28)) f cdv A outer s H E) (fun cls d _ H => E cls d H) := takes_of rfl rfl rfl rfl
  have hp : PassesOwn (model P w) (A.deeper (envOfC "_joined" (defScope (top 28)) s.heap.objs.size f cdv)) (envOfC "_joined" (defScope (top 28)) s.heap.objs.size f cdv) (cxOf (CXP P w) P w K mg base ["spans", "told", "since", "upto", "kept", "first", "last", "other", "place", "span"] "_joined" (defScope (top 28)) f cdv A outer s H E).xe := passes_of (X := cxOf (CXP P w) P w K mg base ["spans", "told", "since", "upto", "kept", "first", "last", "other", "place", "span"] "_joined" (defScope (top 28)) f cdv A outer s H E) rfl
  exact (dss_cons (ds_set (i := 4) sc.nd rfl (.inl rfl) (de_obj (de_lst da_nil)))
    (dss_cons (ds_for hp rfl (di_seq (de_varS (pv 0))) (dg_tup rfl (dgs_cons (dg_name (i := 5) sc.nd rfl (.inl rfl)) (dgs_cons (dg_name (i := 6) sc.nd rfl (.inl rfl)) (dgs_cons (dg_name (i := 7) sc.nd rfl (.inl rfl)) dgs_nil)))) (dss_one (ds_if (PW.pt (dw_and (dt_cmp (od_eq (have h := Room.units hr; h)) (de_varB (pv 7)) (de_varB (pv 1)) rfl) (dw_and (dt_cmp od_le (de_varB (pv 5)) (de_bin od_add (de_varB (pv 3)) de_int) rfl) (dw_one (dt_cmp od_le (de_varB (pv 2)) (de_bin od_add (de_varB (pv 6)) de_int) rfl))))) (dss_cons (ds_set (i := 2) sc.nd rfl (.inr rfl) (de_callB (cd_min rfl) rfl T.n_min rfl (da_cons (by decide) (de_varB (pv 2)) (da_cons (by decide) (de_varB (pv 5)) da_nil))))
    (dss_one (ds_set (i := 3) sc.nd rfl (.inl rfl) (de_callB (cd_max rfl) rfl T.n_max rfl (da_cons (by decide) (de_varB (pv 3)) (da_cons (by decide) (de_varB (pv 6)) da_nil)))))) (dss_one (ds_expr (de_bor (de_mut PySem.F.plainAttrs_list PySem.F.slot_list_append PySem.F.type_list_append mu_append (de_var (pv 4)) (da_cons (by decide) (de_tup (da_cons (by decide) (de_var (pv 5)) (da_cons (by decide) (de_var (pv 6)) (da_cons (by decide) (de_var (pv 7)) da_nil)))) da_nil))))))))
    (dss_cons (ds_set (i := 8) sc.nd rfl (.inl rfl) (de_callB cd_len rfl T.n_len rfl (da_cons (by decide) (de_lcO (own := [("span", 9)]) rfl sc.nd (di_listO (de_var (pv 4))) (blkOk_by (N := ["spans", "told", "since", "upto", "kept", "first", "last", "other", "place", "span"]) (sc := defScope (top 28)) (by decide +kernel)) (fun _ _ _ _ _ => (dgw_name (i := 9) sc.nd rfl (.inl rfl) (by decide))) (fun _ _ _ _ _ => (dts_one (dt_cmp (od_ltX (have h := Room.u66 hr; h)) (de_ix (by decide) (de_varB (pv 9)) de_int) (de_varB (pv 2)) rfl))) (fun _ _ _ _ _ => (de_var (pv 9)))) da_nil)))
    (dss_cons (ds_expr (de_bor (de_mut PySem.F.plainAttrs_list PySem.F.slot_list_insert PySem.F.type_list_insert mu_insert (de_var (pv 4)) (da_cons (by decide) (de_var (pv 8)) (da_cons (by decide) (de_tup (da_cons (by decide) (de_var (pv 2)) (da_cons (by decide) (de_var (pv 3)) (da_cons (by decide) (de_var (pv 1)) da_nil)))) da_nil)))))
    (dss_one (ds_ret (de_var (pv 4))))))))
theorem sc__law_cell : FnScope ["_law_script", "_law_k"] ["_law_script", "_law_k"] (defScope (top 31)) := ⟨rfl, rfl, rfl, by decide +kernel, rfl, by decide +kernel, by decide +kernel⟩
theorem ok__law_cell {f : Addr} {fd : FuncData} (F : FunD K "_law_cell" "_law_cell" (defArgs (top 31)) (defBody (top 31)) (defScope (top 31)) [] [] f fd) (T : Fs w K mg ca) :
    FnG P w K mg base 1 f fd ["_law_script", "_law_k"] (spD K ca [false, false] .frz f__law_cell) := by
  have sc := sc__law_cell
  refine (show FnG P w K mg base 1 f fd ["_law_script", "_law_k"] (spD K ca [false, false] .frz (semB [false, false] (["_law_script", "_law_k"] : List Str).length b__law_cell)) from okD (ca := ca) (mr := .frz) (fb := b__law_cell) [false, false] F sc rfl (fun cdv A outer s H E hG hr => ?_) (.inl rfl))
  have tk : Takes (cxOf (CXP P w) P w K mg base ["_law_script", "_law_k"] "_law_cell" (defScope (top 31)) f cdv A outer s H E) (fun cls d _ H => E cls d H) := takes_of rfl rfl rfl rfl
  have hp : PassesOwn (model P w) (A.deeper (envOfC "_law_cell" (defScope (top 31)) s.heap.objs.size f cdv)) (envOfC "_law_cell" (defScope (top 31)) s.heap.objs.size f cdv) (cxOf (CXP P w) P w K mg base ["_law_script", "_law_k"] "_law_cell" (defScope (top 31)) f cdv A outer s H E).xe := passes_of (X := cxOf (CXP P w) P w K mg base ["_law_script", "_law_k"] "_law_cell" (defScope (top 31)) f cdv A outer s H E) rfl
  exact (dss_cons (ds_if (dt_cmp (od_ltX (have h := Room.u66 hr; h)) (de_varB (pv 1)) (de_callB cd_len rfl T.n_len rfl (da_cons (by decide) (de_varB (pv 0)) da_nil)) rfl) (dss_one (ds_ret (de_ix (by decide) (de_varB (pv 0)) (de_varB (pv 1))))) dss_nil)
    (dss_one (ds_ret de_int)))
theorem sc__law_draw : FnScope ["_law_box", "_law_many", "_law_at"] ["_law_box", "_law_many"] (defScope (top 33)) := ⟨rfl, rfl, rfl, by decide +kernel, rfl, by decide +kernel, by decide +kernel⟩
theorem ok__law_draw {f : Addr} {fd : FuncData} (F : FunD K "_law_draw" "_law_draw" (defArgs (top 33)) (defBody (top 33)) (defScope (top 33)) [] [] f fd) (T : Fs w K mg ca) :
    FnG P w K mg base 1 f fd ["_law_box", "_law_many"] (spD K ca [true, false] .frz f__law_draw) := by
  have sc := sc__law_draw
  refine (show FnG P w K mg base 1 f fd ["_law_box", "_law_many"] (spD K ca [true, false] .frz (semB [true, false] (["_law_box", "_law_many", "_law_at"] : List Str).length b__law_draw)) from okD (ca := ca) (mr := .frz) (fb := b__law_draw) [true, false] F sc rfl (fun cdv A outer s H E hG hr => ?_) (.inl rfl))
  have tk : Takes (cxOf (CXP P w) P w K mg base ["_law_box", "_law_many", "_law_at"] "_law_draw" (defScope (top 33)) f cdv A outer s H E) (fun cls d _ H => E cls d H) := takes_of rfl rfl rfl rfl
  have hp : PassesOwn (model P w) (A.deeper (envOfC "_law_draw" (defScope (top 33)) s.heap.objs.size f cdv)) (envOfC "_law_draw" (defScope (top 33)) s.heap.objs.size f cdv) (cxOf (CXP P w) P w K mg base ["_law_box", "_law_many", "_law_at"] "_law_draw" (defScope (top 33)) f cdv A outer s H E).xe := passes_of (X := cxOf (CXP P w) P w K mg base ["_law_box", "_law_many", "_law_at"] "_law_draw" (defScope (top 33)) f cdv A outer s H E) rfl
  exact (dss_cons (ds_set (i := 2) sc.nd rfl (.inl rfl) (de_ix (by decide) (de_varB (pv 0)) de_int))
    (dss_cons (ds_setIxO (de_var (pv 0)) de_int (de_bin od_add (de_varB (pv 2)) de_int))
    (dss_cons (ds_if (dt_cmp (od_ltX (have h := Room.u66 hr; h)) (de_varB (pv 2)) (de_callB cd_len rfl T.n_len rfl (da_cons (by decide) (de_ix (by decide) (de_varB (pv 0)) de_int) da_nil)) rfl) (dss_one (ds_ret (de_bin od_mod (de_callTy cd_int rfl T.n_int rfl (da_cons (by decide) (de_ix (by decide) (de_ix (by decide) (de_varB (pv 0)) de_int) (de_varB (pv 2))) da_nil)) (de_varB (pv 1))))) dss_nil)
    (dss_one (ds_ret (de_bin od_mod (de_callTy cd_int rfl T.n_int rfl (da_cons (by decide) (de_bin od_add (de_bin od_mul (de_varB (pv 2)) de_int) de_int) da_nil)) (de_varB (pv 1))))))))
theorem sc__law_alike : FnScope ["_law_one", "_law_two"] ["_law_one", "_law_two"] (defScope (top 34)) := ⟨rfl, rfl, rfl, by decide +kernel, rfl, by decide +kernel, by decide +kernel⟩
theorem ok__law_alike {f : Addr} {fd : FuncData} (F : FunD K "_law_alike" "_law_alike" (defArgs (top 34)) (defBody (top 34)) (defScope (top 34)) [] [] f fd) (T : Fs w K mg ca) :
    FnG P w K mg base 1 f fd ["_law_one", "_law_two"] (spD K ca [false, false] .frz f__law_alike) := by
  have sc := sc__law_alike
  refine (show FnG P w K mg base 1 f fd ["_law_one", "_law_two"] (spD K ca [false, false] .frz (semB [false, false] (["_law_one", "_law_two"] : List Str).length b__law_alike)) from okD (ca := ca) (mr := .frz) (fb := b__law_alike) [false, false] F sc rfl (fun cdv A outer s H E hG hr => ?_) (.inl rfl))
  have tk : Takes (cxOf (CXP P w) P w K mg base ["_law_one", "_law_two"] "_law_alike" (defScope (top 34)) f cdv A outer s H E) (fun cls d _ H => E cls d H) := takes_of rfl rfl rfl rfl
  have hp : PassesOwn (model P w) (A.deeper (envOfC "_law_alike" (defScope (top 34)) s.heap.objs.size f cdv)) (envOfC "_law_alike" (defScope (top 34)) s.heap.objs.size f cdv) (cxOf (CXP P w) P w K mg base ["_law_one", "_law_two"] "_law_alike" (defScope (top 34)) f cdv A outer s H E).xe := passes_of (X := cxOf (CXP P w) P w K mg base ["_law_one", "_law_two"] "_law_alike" (defScope (top 34)) f cdv A outer s H E) rfl
  exact (dss_one (ds_ret (de_cmp (od_eq (have h := Room.units hr; h)) (de_reprO hG (Room.u66 hr) T.n_repr (da_cons (by decide) (de_varB (pv 0)) da_nil)) (de_reprO hG (Room.u66 hr) T.n_repr (da_cons (by decide) (de_varB (pv 1)) da_nil)) rfl)))
theorem sc_Known___init__ : FnScope ["self"] ["self"] (defScope (clsDef (top 29) 0)) := ⟨rfl, rfl, rfl, by decide +kernel, rfl, by decide +kernel, by decide +kernel⟩
theorem ok_Known___init__ {f : Addr} {fd : FuncData} (F : FunD K "__init__" "Known.__init__" (defArgs (clsDef (top 29) 0)) (defBody (clsDef (top 29) 0)) (defScope (clsDef (top 29) 0)) [] [] f fd) (T : Fs w K mg ca) :
    FnG P w K mg base 1 f fd ["self"] (spD K ca [true] .frz f_Known___init__) := by
  have sc := sc_Known___init__
  refine (show FnG P w K mg base 1 f fd ["self"] (spD K ca [true] .frz (semB [true] (["self"] : List Str).length b_Known___init__)) from okD (ca := ca) (mr := .frz) (fb := b_Known___init__) [true] F sc rfl (fun cdv A outer s H E hG hr => ?_) (.inl rfl))
  have tk : Takes (cxOf (CXP P w) P w K mg base ["self"] "Known.__init__" (defScope (clsDef (top 29) 0)) f cdv A outer s H E) (fun cls d _ H => E cls d H) := takes_of rfl rfl rfl rfl
  have hp : PassesOwn (model P w) (A.deeper (envOfC "Known.__init__" (defScope (clsDef (top 29) 0)) s.heap.objs.size f cdv)) (envOfC "Known.__init__" (defScope (clsDef (top 29) 0)) s.heap.objs.size f cdv) (cxOf (CXP P w) P w K mg base ["self"] "Known.__init__" (defScope (clsDef (top 29) 0)) f cdv A outer s H E).xe := passes_of (X := cxOf (CXP P w) P w K mg base ["self"] "Known.__init__" (defScope (clsDef (top 29) 0)) f cdv A outer s H E) rfl
  exact (dss_cons (ds_fld T.at__spans__Known (de_var (pv 0)) (de_obj de_newT))
    (dss_one (ds_fld T.at__newest__Known (de_var (pv 0)) (de_neg de_int))))
theorem sc_Known_spans : FnScope ["self", "read"] ["self", "read"] (defScope (clsDef (top 29) 5)) := ⟨rfl, rfl, rfl, by decide +kernel, rfl, by decide +kernel, by decide +kernel⟩
theorem ok_Known_spans {f : Addr} {fd : FuncData} (F : FunD K "spans" "Known.spans" (defArgs (clsDef (top 29) 5)) (defBody (clsDef (top 29) 5)) (defScope (clsDef (top 29) 5)) [] [] f fd) (T : Fs w K mg ca) :
    FnG P w K mg base 1 f fd ["self", "read"] (spD K ca [true, true] .frz f_Known_spans) := by
  have sc := sc_Known_spans
  refine (show FnG P w K mg base 1 f fd ["self", "read"] (spD K ca [true, true] .frz (semB [true, true] (["self", "read"] : List Str).length b_Known_spans)) from okD (ca := ca) (mr := .frz) (fb := b_Known_spans) [true, true] F sc rfl (fun cdv A outer s H E hG hr => ?_) (.inl rfl))
  have tk : Takes (cxOf (CXP P w) P w K mg base ["self", "read"] "Known.spans" (defScope (clsDef (top 29) 5)) f cdv A outer s H E) (fun cls d _ H => E cls d H) := takes_of rfl rfl rfl rfl
  have hp : PassesOwn (model P w) (A.deeper (envOfC "Known.spans" (defScope (clsDef (top 29) 5)) s.heap.objs.size f cdv)) (envOfC "Known.spans" (defScope (clsDef (top 29) 5)) s.heap.objs.size f cdv) (cxOf (CXP P w) P w K mg base ["self", "read"] "Known.spans" (defScope (clsDef (top 29) 5)) f cdv A outer s H E).xe := passes_of (X := cxOf (CXP P w) P w K mg base ["self", "read"] "Known.spans" (defScope (clsDef (top 29) 5)) f cdv A outer s H E) rfl
  exact (dss_one (ds_ret (de_callTy cd_list rfl T.n_list rfl (da_cons (by decide) (de_tget2 T.nt (Room.u65 hr) (by decide) (de_fld (by decide) T.at__spans__Known (de_var (pv 0))) (de_var (pv 1)) (de_lst da_nil)) da_nil))))
theorem sc_Known_reads : FnScope ["self"] ["self"] (defScope (clsDef (top 29) 6)) := ⟨rfl, rfl, rfl, by decide +kernel, rfl, by decide +kernel, by decide +kernel⟩
theorem ok_Known_reads {f : Addr} {fd : FuncData} (F : FunD K "reads" "Known.reads" (defArgs (clsDef (top 29) 6)) (defBody (clsDef (top 29) 6)) (defScope (clsDef (top 29) 6)) [] [] f fd) (T : Fs w K mg ca) :
    FnG P w K mg base 1 f fd ["self"] (spD K ca [true] .frz f_Known_reads) := by
  have sc := sc_Known_reads
  refine (show FnG P w K mg base 1 f fd ["self"] (spD K ca [true] .frz (semB [true] (["self"] : List Str).length b_Known_reads)) from okD (ca := ca) (mr := .frz) (fb := b_Known_reads) [true] F sc rfl (fun cdv A outer s H E hG hr => ?_) (.inl rfl))
  have tk : Takes (cxOf (CXP P w) P w K mg base ["self"] "Known.reads" (defScope (clsDef (top 29) 6)) f cdv A outer s H E) (fun cls d _ H => E cls d H) := takes_of rfl rfl rfl rfl
  have hp : PassesOwn (model P w) (A.deeper (envOfC "Known.reads" (defScope (clsDef (top 29) 6)) s.heap.objs.size f cdv)) (envOfC "Known.reads" (defScope (clsDef (top 29) 6)) s.heap.objs.size f cdv) (cxOf (CXP P w) P w K mg base ["self"] "Known.reads" (defScope (clsDef (top 29) 6)) f cdv A outer s H E).xe := passes_of (X := cxOf (CXP P w) P w K mg base ["self"] "Known.reads" (defScope (clsDef (top 29) 6)) f cdv A outer s H E) rfl
  exact (dss_one (ds_ret (de_callB (cd_sortT rfl (Room.u65 hr)) rfl T.n_sorted rfl (da_cons (by decide) (de_fld (by decide) T.at__spans__Known (de_var (pv 0))) da_nil))))
theorem sc_Known_newest : FnScope ["self"] ["self"] (defScope (clsDef (top 29) 8)) := ⟨rfl, rfl, rfl, by decide +kernel, rfl, by decide +kernel, by decide +kernel⟩
theorem ok_Known_newest {f : Addr} {fd : FuncData} (F : FunD K "newest" "Known.newest" (defArgs (clsDef (top 29) 8)) (defBody (clsDef (top 29) 8)) (defScope (clsDef (top 29) 8)) [] [] f fd) (T : Fs w K mg ca) :
    FnG P w K mg base 1 f fd ["self"] (spD K ca [true] .frz f_Known_newest) := by
  have sc := sc_Known_newest
  refine (show FnG P w K mg base 1 f fd ["self"] (spD K ca [true] .frz (semB [true] (["self"] : List Str).length b_Known_newest)) from okD (ca := ca) (mr := .frz) (fb := b_Known_newest) [true] F sc rfl (fun cdv A outer s H E hG hr => ?_) (.inl rfl))
  have tk : Takes (cxOf (CXP P w) P w K mg base ["self"] "Known.newest" (defScope (clsDef (top 29) 8)) f cdv A outer s H E) (fun cls d _ H => E cls d H) := takes_of rfl rfl rfl rfl
  have hp : PassesOwn (model P w) (A.deeper (envOfC "Known.newest" (defScope (clsDef (top 29) 8)) s.heap.objs.size f cdv)) (envOfC "Known.newest" (defScope (clsDef (top 29) 8)) s.heap.objs.size f cdv) (cxOf (CXP P w) P w K mg base ["self"] "Known.newest" (defScope (clsDef (top 29) 8)) f cdv A outer s H E).xe := passes_of (X := cxOf (CXP P w) P w K mg base ["self"] "Known.newest" (defScope (clsDef (top 29) 8)) f cdv A outer s H E) rfl
  exact (dss_one (ds_ret (de_fld (by decide) T.at__newest__Known (de_var (pv 0)))))
theorem sc_is_uid : FnScope ["text", "parts"] ["text"] (defScope (top 9)) := ⟨rfl, rfl, rfl, by decide +kernel, rfl, by decide +kernel, by decide +kernel⟩
theorem ok_is_uid {f : Addr} {fd : FuncData} (F : FunD K "is_uid" "is_uid" (defArgs (top 9)) (defBody (top 9)) (defScope (top 9)) [] [] f fd) (T : Fs w K mg ca) (C_is_name : CalF P w K mg base ca "is_name" 1 [false] .frz f_is_name d_is_name []) :
    FnG P w K mg base 2 f fd ["text"] (spD K ca [false] .frz f_is_uid) := by
  have sc := sc_is_uid
  refine (show FnG P w K mg base 2 f fd ["text"] (spD K ca [false] .frz (semB [false] (["text", "parts"] : List Str).length b_is_uid)) from okD (ca := ca) (mr := .frz) (fb := b_is_uid) [false] F sc rfl (fun cdv A outer s H E hG hr => ?_) (.inl rfl))
  have tk : Takes (cxOf (CXP P w) P w K mg base ["text", "parts"] "is_uid" (defScope (top 9)) f cdv A outer s H E) (fun cls d _ H => E cls d H) := takes_of rfl rfl rfl rfl
  have hp : PassesOwn (model P w) (A.deeper (envOfC "is_uid" (defScope (top 9)) s.heap.objs.size f cdv)) (envOfC "is_uid" (defScope (top 9)) s.heap.objs.size f cdv) (cxOf (CXP P w) P w K mg base ["text", "parts"] "is_uid" (defScope (top 9)) f cdv A outer s H E).xe := passes_of (X := cxOf (CXP P w) P w K mg base ["text", "parts"] "is_uid" (defScope (top 9)) f cdv A outer s H E) rfl
  exact (dss_cons (ds_set (i := 1) sc.nd rfl (.inl rfl) (de_m1 PySem.F.slot_str_split PySem.F.type_str_split md_split (de_var (pv 0)) de_str))
    (dss_one (ds_ret (de_and (de_cmp (od_eq (have h := Room.units hr; h)) (de_callB cd_len rfl T.n_len rfl (da_cons (by decide) (de_varB (pv 1)) da_nil)) de_int rfl) (de_and (de_callF 1 0 C_is_name hG (hr.mono (by decide)) rfl tk (dam_cons (de_ix (by decide) (de_varB (pv 1)) de_int) dam_nil)) (de_one (de_callF 1 0 C_is_name hG (hr.mono (by decide)) rfl tk (dam_cons (de_ix (by decide) (de_varB (pv 1)) de_int) dam_nil))))))))
theorem sc__law_digits : FnScope ["_law_script", "_law_first", "_law_last", "_law_digits_here", "_law_k", "_law_cell_here", "_law_turn", "_law_seed"] ["_law_script", "_law_first", "_law_last"] (defScope (top 32)) := ⟨rfl, rfl, rfl, by decide +kernel, rfl, by decide +kernel, by decide +kernel⟩
theorem ok__law_digits {f : Addr} {fd : FuncData} (F : FunD K "_law_digits" "_law_digits" (defArgs (top 32)) (defBody (top 32)) (defScope (top 32)) [] [] f fd) (T : Fs w K mg ca) (C__law_cell : CalF P w K mg base ca "_law_cell" 1 [false, false] .frz f__law_cell d__law_cell []) :
    FnG P w K mg base 2 f fd ["_law_script", "_law_first", "_law_last"] (spD K ca [false, false, false] .frz f__law_digits) := by
  have sc := sc__law_digits
  refine (show FnG P w K mg base 2 f fd ["_law_script", "_law_first", "_law_last"] (spD K ca [false, false, false] .frz (semB [false, false, false] (["_law_script", "_law_first", "_law_last", "_law_digits_here", "_law_k", "_law_cell_here", "_law_turn", "_law_seed"] : List Str).length b__law_digits)) from okD (ca := ca) (mr := .frz) (fb := b__law_digits) [false, false, false] F sc rfl (fun cdv A outer s H E hG hr => ?_) (.inl rfl))
  have tk : Takes (cxOf (CXP P w) P w K mg base ["_law_script", "_law_first", "_law_last", "_law_digits_here", "_law_k", "_law_cell_here", "_law_turn", "_law_seed"] "_law_digits" (defScope (top 32)) f cdv A outer s H E) (fun cls d _ H => E cls d H) := takes_of rfl rfl rfl rfl
  have hp : PassesOwn (model P w) (A.deeper (envOfC "_law_digits" (defScope (top 32)) s.heap.objs.size f cdv)) (envOfC "_law_digits" (defScope (top 32)) s.heap.objs.size f cdv) (cxOf (CXP P w) P w K mg base ["_law_script", "_law_first", "_law_last", "_law_digits_here", "_law_k", "_law_cell_here", "_law_turn", "_law_seed"] "_law_digits" (defScope (top 32)) f cdv A outer s H E).xe := passes_of (X := cxOf (CXP P w) P w K mg base ["_law_script", "_law_first", "_law_last", "_law_digits_here", "_law_k", "_law_cell_here", "_law_turn", "_law_seed"] "_law_digits" (defScope (top 32)) f cdv A outer s H E) rfl
  exact (dss_cons (ds_setOwn (i := 3) sc.nd rfl (.inl rfl) (de_lst da_nil))
    (dss_cons (ds_for hp rfl (di_range2 rfl T.n_range (da_cons (by decide) (de_var (pv 1)) (da_cons (by decide) (de_var (pv 2)) da_nil)) (len_cons (len_cons len_nil))) (dg_name (i := 4) sc.nd rfl (.inl rfl)) (dss_cons (ds_set (i := 5) sc.nd rfl (.inl rfl) (de_callF 2 0 C__law_cell hG (hr.mono (by decide)) rfl tk (dam_cons (de_varB (pv 0)) (dam_cons (de_varB (pv 4)) dam_nil))))
    (dss_cons (ds_if (dt_cmp (od_ltX (have h := Room.u66 hr; h)) (de_varB (pv 5)) de_int rfl) (dss_one (ds_set (i := 5) sc.nd rfl (.inl rfl) (de_bin od_sub de_int (de_bin od_mul de_int (de_varB (pv 5)))))) dss_nil)
    (dss_one (ds_if (dt_cmp od_ge (de_varB (pv 5)) de_int rfl) (dss_one (ds_for hp rfl (di_range1 rfl T.n_range (da_cons (by decide) de_int da_nil) (len_cons len_nil)) (dg_name (i := 6) sc.nd rfl (.inl rfl)) (dss_one (ds_if (dt_cmp od_gt (de_varB (pv 5)) de_int rfl) (dss_cons (ds_mut PySem.F.plainAttrs_list PySem.F.slot_list_append PySem.F.type_list_append mu_append (pv 3) (da_cons (by decide) (de_bin od_mod (de_callTy cd_int rfl T.n_int rfl (da_cons (by decide) (de_varB (pv 5)) da_nil)) de_int) da_nil))
    (dss_one (ds_set (i := 5) sc.nd rfl (.inl rfl) (de_bin od_div (de_varB (pv 5)) de_int)))) dss_nil)))) (dss_cons (ds_set (i := 7) sc.nd rfl (.inl rfl) (de_bin od_mod (de_callTy cd_int rfl T.n_int rfl (da_cons (by decide) (de_bin od_add (de_bin od_add (de_bin od_mul (de_varB (pv 5)) de_int) (de_bin od_mul (de_varB (pv 4)) de_int)) de_int) da_nil)) de_int))
    (dss_one (ds_for hp rfl (di_range1 rfl T.n_range (da_cons (by decide) de_int da_nil) (len_cons len_nil)) (dg_name (i := 6) sc.nd rfl (.inl rfl)) (dss_cons (ds_set (i := 7) sc.nd rfl (.inl rfl) (de_bin od_mod (de_callTy cd_int rfl T.n_int rfl (da_cons (by decide) (de_bin od_add (de_bin od_add (de_bin od_mul (de_varB (pv 7)) de_int) (de_bin od_mul de_int (de_varB (pv 6)))) de_int) da_nil)) de_int))
    (dss_one (ds_mut PySem.F.plainAttrs_list PySem.F.slot_list_append PySem.F.type_list_append mu_append (pv 3) (da_cons (by decide) (de_bin od_mod (de_callTy cd_int rfl T.n_int rfl (da_cons (by decide) (de_bin od_div (de_varB (pv 7)) de_int) da_nil)) de_int) da_nil))))))))))))
    (dss_one (ds_fz 3 (ds_ret (de_var (pv 3)))))))
theorem sc__law_facts : FnScope ["_law_box", "_law_many", "_law_facts_here", "_law_turn", "_law_k", "_law_first", "_law_stretch", "_law_last", "_law_told"] ["_law_box", "_law_many"] (defScope (top 35)) := ⟨rfl, rfl, rfl, by decide +kernel, rfl, by decide +kernel, by decide +kernel⟩
theorem ok__law_facts {f : Addr} {fd : FuncData} (F : FunD K "_law_facts" "_law_facts" (defArgs (top 35)) (defBody (top 35)) (defScope (top 35)) [] [] f fd) (T : Fs w K mg ca) (C__law_draw : CalF P w K mg base ca "_law_draw" 1 [true, false] .frz f__law_draw d__law_draw []) :
    FnG P w K mg base 2 f fd ["_law_box", "_law_many"] (spD K ca [true, false] .frz f__law_facts) := by
  have sc := sc__law_facts
  refine (show FnG P w K mg base 2 f fd ["_law_box", "_law_many"] (spD K ca [true, false] .frz (semB [true, false] (["_law_box", "_law_many", "_law_facts_here", "_law_turn", "_law_k", "_law_first", "_law_stretch", "_law_last", "_law_told"] : List Str).length b__law_facts)) from okD (ca := ca) (mr := .frz) (fb := b__law_facts) [true, false] F sc rfl (fun cdv A outer s H E hG hr => ?_) (.inl rfl))
  have tk : Takes (cxOf (CXP P w) P w K mg base ["_law_box", "_law_many", "_law_facts_here", "_law_turn", "_law_k", "_law_first", "_law_stretch", "_law_last", "_law_told"] "_law_facts" (defScope (top 35)) f cdv A outer s H E) (fun cls d _ H => E cls d H) := takes_of rfl rfl rfl rfl
  have hp : PassesOwn (model P w) (A.deeper (envOfC "_law_facts" (defScope (top 35)) s.heap.objs.size f cdv)) (envOfC "_law_facts" (defScope (top 35)) s.heap.objs.size f cdv) (cxOf (CXP P w) P w K mg base ["_law_box", "_law_many", "_law_facts_here", "_law_turn", "_law_k", "_law_first", "_law_stretch", "_law_last", "_law_told"] "_law_facts" (defScope (top 35)) f cdv A outer s H E).xe := passes_of (X := cxOf (CXP P w) P w K mg base ["_law_box", "_law_many", "_law_facts_here", "_law_turn", "_law_k", "_law_first", "_law_stretch", "_law_last", "_law_told"] "_law_facts" (defScope (top 35)) f cdv A outer s H E) rfl
  exact (dss_cons (ds_setOwn (i := 2) sc.nd rfl (.inl rfl) (de_lst da_nil))
    (dss_cons (ds_for hp rfl (di_range1 rfl T.n_range (da_cons (by decide) (de_var (pv 1)) da_nil) (len_cons len_nil)) (dg_name (i := 3) sc.nd rfl (.inl rfl)) (dss_cons (ds_set (i := 4) sc.nd rfl (.inl rfl) (de_callF 2 0 C__law_draw hG (hr.mono (by decide)) rfl tk (dam_cons (de_var (pv 0)) (dam_cons de_int dam_nil))))
    (dss_cons (ds_set (i := 5) sc.nd rfl (.inl rfl) (de_callF 2 0 C__law_draw hG (hr.mono (by decide)) rfl tk (dam_cons (de_var (pv 0)) (dam_cons de_int dam_nil))))
    (dss_cons (ds_set (i := 6) sc.nd rfl (.inl rfl) (de_bin od_div (de_varB (pv 5)) de_int))
    (dss_cons (ds_set (i := 7) sc.nd rfl (.inl rfl) (de_callB (cd_min rfl) rfl T.n_min rfl (da_cons (by decide) (de_bin od_add (de_bin od_mul de_int (de_varB (pv 6))) de_int) (da_cons (by decide) (de_bin od_add (de_varB (pv 5)) (de_bor (de_callF 2 0 C__law_draw hG (hr.mono (by decide)) rfl tk (dam_cons (de_var (pv 0)) (dam_cons de_int dam_nil))))) da_nil))))
    (dss_cons (ds_set (i := 8) sc.nd rfl (.inl rfl) (de_tup (da_cons (by decide) de_str (da_cons (by decide) (de_tup (da_cons (by decide) de_str (da_cons (by decide) (de_bin od_mul (de_varB (pv 6)) (de_bin od_sub de_int (de_varB (pv 4)))) da_nil))) da_nil))))
    (dss_one (ds_mut PySem.F.plainAttrs_list PySem.F.slot_list_append PySem.F.type_list_append mu_append (pv 2) (da_cons (by decide) (de_tup (da_cons (by decide) (de_tup (da_cons (by decide) de_str (da_cons (by decide) de_str (da_cons (by decide) (de_ix (by decide) de_str (de_varB (pv 4))) da_nil)))) (da_cons (by decide) (de_var (pv 8)) (da_cons (by decide) (de_var (pv 5)) (da_cons (by decide) (de_var (pv 7)) da_nil))))) da_nil)))))))))
    (dss_one (ds_fz 2 (ds_ret (de_var (pv 2)))))))
theorem sc__law_turned : FnScope ["_law_box", "_law_facts_here", "_law_rest", "_law_turned_here", "_law_turn", "_law_fact"] ["_law_box", "_law_facts_here"] (defScope (top 36)) := ⟨rfl, rfl, rfl, by decide +kernel, rfl, by decide +kernel, by decide +kernel⟩
theorem ok__law_turned {f : Addr} {fd : FuncData} (F : FunD K "_law_turned" "_law_turned" (defArgs (top 36)) (defBody (top 36)) (defScope (top 36)) [] [] f fd) (T : Fs w K mg ca) (C__law_draw : CalF P w K mg base ca "_law_draw" 1 [true, false] .frz f__law_draw d__law_draw []) :
    FnG P w K mg base 2 f fd ["_law_box", "_law_facts_here"] (spD K ca [true, false] .frz f__law_turned) := by
  have sc := sc__law_turned
  refine (show FnG P w K mg base 2 f fd ["_law_box", "_law_facts_here"] (spD K ca [true, false] .frz (semB [true, false] (["_law_box", "_law_facts_here", "_law_rest", "_law_turned_here", "_law_turn", "_law_fact"] : List Str).length b__law_turned)) from okD (ca := ca) (mr := .frz) (fb := b__law_turned) [true, false] F sc rfl (fun cdv A outer s H E hG hr => ?_) (.inl rfl))
  have tk : Takes (cxOf (CXP P w) P w K mg base ["_law_box", "_law_facts_here", "_law_rest", "_law_turned_here", "_law_turn", "_law_fact"] "_law_turned" (defScope (top 36)) f cdv A outer s H E) (fun cls d _ H => E cls d H) := takes_of rfl rfl rfl rfl
  have hp : PassesOwn (model P w) (A.deeper (envOfC "_law_turned" (defScope (top 36)) s.heap.objs.size f cdv)) (envOfC "_law_turned" (defScope (top 36)) s.heap.objs.size f cdv) (cxOf (CXP P w) P w K mg base ["_law_box", "_law_facts_here", "_law_rest", "_law_turned_here", "_law_turn", "_law_fact"] "_law_turned" (defScope (top 36)) f cdv A outer s H E).xe := passes_of (X := cxOf (CXP P w) P w K mg base ["_law_box", "_law_facts_here", "_law_rest", "_law_turned_here", "_law_turn", "_law_fact"] "_law_turned" (defScope (top 36)) f cdv A outer s H E) rfl
  exact (dss_cons (ds_set (i := 2) sc.nd rfl (.inl rfl) (de_obj (de_callTy cd_list rfl T.n_list rfl (da_cons (by decide) (de_varB (pv 1)) da_nil))))
    (dss_cons (ds_setOwn (i := 3) sc.nd rfl (.inl rfl) (de_lst da_nil))
    (dss_cons (ds_for hp rfl (di_range1 rfl T.n_range (da_cons (by decide) (de_callB cd_len rfl T.n_len rfl (da_cons (by decide) (de_varB (pv 1)) da_nil)) da_nil) (len_cons len_nil)) (dg_name (i := 4) sc.nd rfl (.inl rfl)) (dss_cons (ds_set (i := 5) sc.nd rfl (.inl rfl) (de_mut PySem.F.plainAttrs_list PySem.F.slot_list_pop PySem.F.type_list_pop mu_popAt (de_var (pv 2)) (da_cons (by decide) (de_callF 2 0 C__law_draw hG (hr.mono (by decide)) rfl tk (dam_cons (de_var (pv 0)) (dam_cons (de_callB cd_len rfl T.n_len rfl (da_cons (by decide) (de_varB (pv 2)) da_nil)) dam_nil))) da_nil)))
    (dss_cons (ds_mut PySem.F.plainAttrs_list PySem.F.slot_list_append PySem.F.type_list_append mu_append (pv 3) (da_cons (by decide) (de_var (pv 5)) da_nil))
    (dss_one (ds_if (dt_cmp (od_eq (have h := Room.units hr; h)) (de_bor (de_callF 2 0 C__law_draw hG (hr.mono (by decide)) rfl tk (dam_cons (de_var (pv 0)) (dam_cons de_int dam_nil)))) de_int rfl) (dss_one (ds_mut PySem.F.plainAttrs_list PySem.F.slot_list_append PySem.F.type_list_append mu_append (pv 3) (da_cons (by decide) (de_ix (by decide) (de_varB (pv 3)) (de_bor (de_callF 2 0 C__law_draw hG (hr.mono (by decide)) rfl tk (dam_cons (de_var (pv 0)) (dam_cons (de_callB cd_len rfl T.n_len rfl (da_cons (by decide) (de_varB (pv 3)) da_nil)) dam_nil))))) da_nil))) dss_nil)))))
    (dss_one (ds_fz 3 (ds_ret (de_var (pv 3))))))))
theorem sc_Known__span_at : FnScope ["self", "read", "version", "span"] ["self", "read", "version"] (defScope (clsDef (top 29) 2)) := ⟨rfl, rfl, rfl, by decide +kernel, rfl, by decide +kernel, by decide +kernel⟩
theorem ok_Known__span_at {f : Addr} {fd : FuncData} (F : FunD K "_span_at" "Known._span_at" (defArgs (clsDef (top 29) 2)) (defBody (clsDef (top 29) 2)) (defScope (clsDef (top 29) 2)) [] [] f fd) (T : Fs w K mg ca) (M_Known_spans : MetF P w K mg base ca "Known" "spans" 1 [true, true] .frz f_Known_spans d_Known_spans) :
    FnG P w K mg base 2 f fd ["self", "read", "version"] (spD K ca [true, true, false] .frz f_Known__span_at) := by
  have sc := sc_Known__span_at
  refine (show FnG P w K mg base 2 f fd ["self", "read", "version"] (spD K ca [true, true, false] .frz (semB [true, true, false] (["self", "read", "version", "span"] : List Str).length b_Known__span_at)) from okD (ca := ca) (mr := .frz) (fb := b_Known__span_at) [true, true, false] F sc rfl (fun cdv A outer s H E hG hr => ?_) (.inl rfl))
  have tk : Takes (cxOf (CXP P w) P w K mg base ["self", "read", "version", "span"] "Known._span_at" (defScope (clsDef (top 29) 2)) f cdv A outer s H E) (fun cls d _ H => E cls d H) := takes_of rfl rfl rfl rfl
  have hp : PassesOwn (model P w) (A.deeper (envOfC "Known._span_at" (defScope (clsDef (top 29) 2)) s.heap.objs.size f cdv)) (envOfC "Known._span_at" (defScope (clsDef (top 29) 2)) s.heap.objs.size f cdv) (cxOf (CXP P w) P w K mg base ["self", "read", "version", "span"] "Known._span_at" (defScope (clsDef (top 29) 2)) f cdv A outer s H E).xe := passes_of (X := cxOf (CXP P w) P w K mg base ["self", "read", "version", "span"] "Known._span_at" (defScope (clsDef (top 29) 2)) f cdv A outer s H E) rfl
  exact (dss_cons (ds_for hp rfl (di_seq (de_sta (de_meth 1 0 M_Known_spans hG (hr.mono (by decide)) tk (de_var (pv 0)) (dam_cons (de_var (pv 1)) dam_nil)))) (dg_name (i := 3) sc.nd rfl (.inl rfl)) (dss_one (ds_if (dt_chain od_le od_le (de_ix (by decide) (de_varB (pv 3)) de_int) (de_varB (pv 2)) (de_ix (by decide) (de_varB (pv 3)) de_int)) (dss_one (ds_ret (de_var (pv 3)))) dss_nil)))
    (dss_one (ds_ret de_non)))
theorem sc_Known_facts : FnScope ["self", "read", "since", "upto", "told"] ["self"] (defScope (clsDef (top 29) 7)) := ⟨rfl, rfl, rfl, by decide +kernel, rfl, by decide +kernel, by decide +kernel⟩
theorem ok_Known_facts {f : Addr} {fd : FuncData} (F : FunD K "facts" "Known.facts" (defArgs (clsDef (top 29) 7)) (defBody (clsDef (top 29) 7)) (defScope (clsDef (top 29) 7)) [] [] f fd) (T : Fs w K mg ca) (M_Known_reads : MetF P w K mg base ca "Known" "reads" 1 [true] .frz f_Known_reads d_Known_reads) :
    FnG P w K mg base 2 f fd ["self"] (spD K ca [true] .frz f_Known_facts) := by
  have sc := sc_Known_facts
  refine (show FnG P w K mg base 2 f fd ["self"] (spD K ca [true] .frz (semB [true] (["self", "read", "since", "upto", "told"] : List Str).length b_Known_facts)) from okD (ca := ca) (mr := .frz) (fb := b_Known_facts) [true] F sc rfl (fun cdv A outer s H E hG hr => ?_) (.inl rfl))
  have tk : Takes (cxOf (CXP P w) P w K mg base ["self", "read", "since", "upto", "told"] "Known.facts" (defScope (clsDef (top 29) 7)) f cdv A outer s H E) (fun cls d _ H => E cls d H) := takes_of rfl rfl rfl rfl
  have hp : PassesOwn (model P w) (A.deeper (envOfC "Known.facts" (defScope (clsDef (top 29) 7)) s.heap.objs.size f cdv)) (envOfC "Known.facts" (defScope (clsDef (top 29) 7)) s.heap.objs.size f cdv) (cxOf (CXP P w) P w K mg base ["self", "read", "since", "upto", "told"] "Known.facts" (defScope (clsDef (top 29) 7)) f cdv A outer s H E).xe := passes_of (X := cxOf (CXP P w) P w K mg base ["self", "read", "since", "upto", "told"] "Known.facts" (defScope (clsDef (top 29) 7)) f cdv A outer s H E) rfl
  exact (dss_one (ds_ret (de_lc2O (own := [("read", 1), ("since", 2), ("upto", 3), ("told", 4)]) (vs1 := [2, 3, 4]) rfl sc.nd (di_seq (de_sta (de_meth0 M_Known_reads hG (hr.mono (by decide)) tk (de_var (pv 0))))) (blkOk_by (N := ["self", "read", "since", "upto", "told"]) (sc := defScope (clsDef (top 29) 7)) (by decide +kernel)) (by decide) (fun _ _ _ _ _ => (dgw_name (i := 1) sc.nd rfl (.inl rfl) (by decide))) (fun _ _ _ _ _ => (di_listO (de_tkix T.nt (Room.u65 hr) (by decide) (de_fld (by decide) T.at__spans__Known (de_var (pv 0))) (de_var (pv 1))))) (fun _ _ _ _ _ => (dgw_tup rfl (dgws_cons (dgw_name (i := 2) sc.nd rfl (.inl rfl) (by decide)) (dgws_cons (dgw_name (i := 3) sc.nd rfl (.inl rfl) (by decide)) (dgws_cons (dgw_name (i := 4) sc.nd rfl (.inl rfl) (by decide)) dgws_nil))))) (fun _ _ _ _ _ => (de_tup (da_cons (by decide) (de_var (pv 1)) (da_cons (by decide) (de_var (pv 4)) (da_cons (by decide) (de_var (pv 2)) (da_cons (by decide) (de_var (pv 3)) da_nil)))))))))
theorem sc_Known_view : FnScope ["self", "version"] ["self", "version"] (defScope (clsDef (top 29) 9)) := ⟨rfl, rfl, rfl, by decide +kernel, rfl, by decide +kernel, by decide +kernel⟩
theorem ok_Known_view {f : Addr} {fd : FuncData} (F : FunD K "view" "Known.view" (defArgs (clsDef (top 29) 9)) (defBody (clsDef (top 29) 9)) (defScope (clsDef (top 29) 9)) [] [] f fd) (T : Fs w K mg ca) (C__wall : CalF P w K mg base ca "_wall" 1 [false] .frz f__wall d__wall []) :
    FnG P w K mg base 2 f fd ["self", "version"] (spD K ca [true, false] .frz f_Known_view) := by
  have sc := sc_Known_view
  refine (show FnG P w K mg base 2 f fd ["self", "version"] (spD K ca [true, false] .frz (semB [true, false] (["self", "version"] : List Str).length b_Known_view)) from okD (ca := ca) (mr := .frz) (fb := b_Known_view) [true, false] F sc rfl (fun cdv A outer s H E hG hr => ?_) (.inl rfl))
  have tk : Takes (cxOf (CXP P w) P w K mg base ["self", "version"] "Known.view" (defScope (clsDef (top 29) 9)) f cdv A outer s H E) (fun cls d _ H => E cls d H) := takes_of rfl rfl rfl rfl
  have hp : PassesOwn (model P w) (A.deeper (envOfC "Known.view" (defScope (clsDef (top 29) 9)) s.heap.objs.size f cdv)) (envOfC "Known.view" (defScope (clsDef (top 29) 9)) s.heap.objs.size f cdv) (cxOf (CXP P w) P w K mg base ["self", "version"] "Known.view" (defScope (clsDef (top 29) 9)) f cdv A outer s H E).xe := passes_of (X := cxOf (CXP P w) P w K mg base ["self", "version"] "Known.view" (defScope (clsDef (top 29) 9)) f cdv A outer s H E) rfl
  exact (dss_one (ds_expr (de_bor (de_callF 1 0 C__wall hG (hr.mono (by decide)) rfl tk (dam_cons de_int dam_nil)))))
theorem sc_Known_duplicate : FnScope ["self"] ["self"] (defScope (clsDef (top 29) 10)) := ⟨rfl, rfl, rfl, by decide +kernel, rfl, by decide +kernel, by decide +kernel⟩
theorem ok_Known_duplicate {f : Addr} {fd : FuncData} (F : FunD K "duplicate" "Known.duplicate" (defArgs (clsDef (top 29) 10)) (defBody (clsDef (top 29) 10)) (defScope (clsDef (top 29) 10)) [] [] f fd) (T : Fs w K mg ca) (C__wall : CalF P w K mg base ca "_wall" 1 [false] .frz f__wall d__wall []) :
    FnG P w K mg base 2 f fd ["self"] (spD K ca [true] .frz f_Known_duplicate) := by
  have sc := sc_Known_duplicate
  refine (show FnG P w K mg base 2 f fd ["self"] (spD K ca [true] .frz (semB [true] (["self"] : List Str).length b_Known_duplicate)) from okD (ca := ca) (mr := .frz) (fb := b_Known_duplicate) [true] F sc rfl (fun cdv A outer s H E hG hr => ?_) (.inl rfl))
  have tk : Takes (cxOf (CXP P w) P w K mg base ["self"] "Known.duplicate" (defScope (clsDef (top 29) 10)) f cdv A outer s H E) (fun cls d _ H => E cls d H) := takes_of rfl rfl rfl rfl
  have hp : PassesOwn (model P w) (A.deeper (envOfC "Known.duplicate" (defScope (clsDef (top 29) 10)) s.heap.objs.size f cdv)) (envOfC "Known.duplicate" (defScope (clsDef (top 29) 10)) s.heap.objs.size f cdv) (cxOf (CXP P w) P w K mg base ["self"] "Known.duplicate" (defScope (clsDef (top 29) 10)) f cdv A outer s H E).xe := passes_of (X := cxOf (CXP P w) P w K mg base ["self"] "Known.duplicate" (defScope (clsDef (top 29) 10)) f cdv A outer s H E) rfl
  exact (dss_one (ds_expr (de_bor (de_callF 1 0 C__wall hG (hr.mono (by decide)) rfl tk (dam_cons de_int dam_nil)))))
theorem sc_check_name : FnScope ["text", "what"] ["text", "what"] (defScope (top 10)) := ⟨rfl, rfl, rfl, by decide +kernel, rfl, by decide +kernel, by decide +kernel⟩
theorem ok_check_name {f : Addr} {fd : FuncData} (F : FunD K "check_name" "check_name" (defArgs (top 10)) (defBody (top 10)) (defScope (top 10)) [(V.str "name")] [] f fd) (T : Fs w K mg ca) (C_is_name : CalF P w K mg base ca "is_name" 1 [false] .frz f_is_name d_is_name []) (X_OutOfRange : ExI P w K mg base ca "OutOfRange" ["name"]) :
    FnG P w K mg base 3 f fd ["text", "what"] (spD K ca [false, false] .frz f_check_name) := by
  have sc := sc_check_name
  refine (show FnG P w K mg base 3 f fd ["text", "what"] (spD K ca [false, false] .frz (semB [false, false] (["text", "what"] : List Str).length b_check_name)) from okD (ca := ca) (mr := .frz) (fb := b_check_name) [false, false] F sc rfl (fun cdv A outer s H E hG hr => ?_) (.inl rfl))
  have tk : Takes (cxOf (CXP P w) P w K mg base ["text", "what"] "check_name" (defScope (top 10)) f cdv A outer s H E) (fun cls d _ H => E cls d H) := takes_of rfl rfl rfl rfl
  have hp : PassesOwn (model P w) (A.deeper (envOfC "check_name" (defScope (top 10)) s.heap.objs.size f cdv)) (envOfC "check_name" (defScope (top 10)) s.heap.objs.size f cdv) (cxOf (CXP P w) P w K mg base ["text", "what"] "check_name" (defScope (top 10)) f cdv A outer s H E).xe := passes_of (X := cxOf (CXP P w) P w K mg base ["text", "what"] "check_name" (defScope (top 10)) f cdv A outer s H E) rfl
  exact (dss_one (ds_if (dt_not (dt_val (de_bor (de_callF 1 0 C_is_name hG (hr.mono (by decide)) rfl tk (dam_cons (de_varB (pv 0)) dam_nil))))) (dss_one (ds_raiseF rfl tk X_OutOfRange (hr.mono (by decide)) (da_cons (by decide) (de_var (pv 1)) da_nil))) dss_nil))
theorem sc_is_scalar : FnScope ["value"] ["value"] (defScope (top 19)) := ⟨rfl, rfl, rfl, by decide +kernel, rfl, by decide +kernel, by decide +kernel⟩
theorem ok_is_scalar {f : Addr} {fd : FuncData} (F : FunD K "is_scalar" "is_scalar" (defArgs (top 19)) (defBody (top 19)) (defScope (top 19)) [] [] f fd) (T : Fs w K mg ca) (C_is_text : CalF P w K mg base ca "is_text" 1 [false] .frz f_is_text d_is_text []) (C_is_uid : CalF P w K mg base ca "is_uid" 2 [false] .frz f_is_uid d_is_uid []) :
    FnG P w K mg base 3 f fd ["value"] (spD K ca [false] .frz f_is_scalar) := by
  have sc := sc_is_scalar
  refine (show FnG P w K mg base 3 f fd ["value"] (spD K ca [false] .frz (semB [false] (["value"] : List Str).length b_is_scalar)) from okD (ca := ca) (mr := .frz) (fb := b_is_scalar) [false] F sc rfl (fun cdv A outer s H E hG hr => ?_) (.inl rfl))
  have tk : Takes (cxOf (CXP P w) P w K mg base ["value"] "is_scalar" (defScope (top 19)) f cdv A outer s H E) (fun cls d _ H => E cls d H) := takes_of rfl rfl rfl rfl
  have hp : PassesOwn (model P w) (A.deeper (envOfC "is_scalar" (defScope (top 19)) s.heap.objs.size f cdv)) (envOfC "is_scalar" (defScope (top 19)) s.heap.objs.size f cdv) (cxOf (CXP P w) P w K mg base ["value"] "is_scalar" (defScope (top 19)) f cdv A outer s H E).xe := passes_of (X := cxOf (CXP P w) P w K mg base ["value"] "is_scalar" (defScope (top 19)) f cdv A outer s H E) rfl
  exact (dss_cons (ds_if (dt_cmp (od_eq (have h := Room.units hr; h)) (de_ix (by decide) (de_varB (pv 0)) de_int) de_str rfl) (dss_one (ds_ret (de_chain od_le od_le (de_neg (de_gl T.g_NUMBER_MOST)) (de_ix (by decide) (de_varB (pv 0)) de_int) (de_gl T.g_NUMBER_MOST)))) dss_nil)
    (dss_cons (ds_if (dt_cmp (od_eq (have h := Room.units hr; h)) (de_ix (by decide) (de_varB (pv 0)) de_int) de_str rfl) (dss_one (ds_ret (de_callF 1 0 C_is_text hG (hr.mono (by decide)) rfl tk (dam_cons (de_ix (by decide) (de_varB (pv 0)) de_int) dam_nil)))) dss_nil)
    (dss_cons (ds_if (dt_cmp (od_eq (have h := Room.units hr; h)) (de_ix (by decide) (de_varB (pv 0)) de_int) de_str rfl) (dss_one (ds_ret (de_callF 1 0 C_is_uid hG (hr.mono (by decide)) rfl tk (dam_cons (de_ix (by decide) (de_varB (pv 0)) de_int) dam_nil)))) dss_nil)
    (dss_one (ds_ret (de_cmp (od_eq (have h := Room.units hr; h)) (de_ix (by decide) (de_varB (pv 0)) de_int) de_str rfl))))))
theorem sc_Known_at : FnScope ["self", "read", "version", "span"] ["self", "read", "version"] (defScope (clsDef (top 29) 3)) := ⟨rfl, rfl, rfl, by decide +kernel, rfl, by decide +kernel, by decide +kernel⟩
theorem ok_Known_at {f : Addr} {fd : FuncData} (F : FunD K "at" "Known.at" (defArgs (clsDef (top 29) 3)) (defBody (clsDef (top 29) 3)) (defScope (clsDef (top 29) 3)) [] [] f fd) (T : Fs w K mg ca) (M_Known__span_at : MetF P w K mg base ca "Known" "_span_at" 2 [true, true, false] .frz f_Known__span_at d_Known__span_at) :
    FnG P w K mg base 3 f fd ["self", "read", "version"] (spD K ca [true, true, false] .frz f_Known_at) := by
  have sc := sc_Known_at
  refine (show FnG P w K mg base 3 f fd ["self", "read", "version"] (spD K ca [true, true, false] .frz (semB [true, true, false] (["self", "read", "version", "span"] : List Str).length b_Known_at)) from okD (ca := ca) (mr := .frz) (fb := b_Known_at) [true, true, false] F sc rfl (fun cdv A outer s H E hG hr => ?_) (.inl rfl))
  have tk : Takes (cxOf (CXP P w) P w K mg base ["self", "read", "version", "span"] "Known.at" (defScope (clsDef (top 29) 3)) f cdv A outer s H E) (fun cls d _ H => E cls d H) := takes_of rfl rfl rfl rfl
  have hp : PassesOwn (model P w) (A.deeper (envOfC "Known.at" (defScope (clsDef (top 29) 3)) s.heap.objs.size f cdv)) (envOfC "Known.at" (defScope (clsDef (top 29) 3)) s.heap.objs.size f cdv) (cxOf (CXP P w) P w K mg base ["self", "read", "version", "span"] "Known.at" (defScope (clsDef (top 29) 3)) f cdv A outer s H E).xe := passes_of (X := cxOf (CXP P w) P w K mg base ["self", "read", "version", "span"] "Known.at" (defScope (clsDef (top 29) 3)) f cdv A outer s H E) rfl
  exact (dss_cons (ds_set (i := 3) sc.nd rfl (.inl rfl) (de_meth 2 0 M_Known__span_at hG (hr.mono (by decide)) tk (de_var (pv 0)) (dam_cons (de_var (pv 1)) (dam_cons (de_varB (pv 2)) dam_nil))))
    (dss_one (ds_ret (de_if (dt_isN (de_varB (pv 3))) de_non (de_ix (by decide) (de_varB (pv 3)) de_int)))))
theorem sc_Known_span : FnScope ["self", "read", "version", "span"] ["self", "read", "version"] (defScope (clsDef (top 29) 4)) := ⟨rfl, rfl, rfl, by decide +kernel, rfl, by decide +kernel, by decide +kernel⟩
theorem ok_Known_span {f : Addr} {fd : FuncData} (F : FunD K "span" "Known.span" (defArgs (clsDef (top 29) 4)) (defBody (clsDef (top 29) 4)) (defScope (clsDef (top 29) 4)) [] [] f fd) (T : Fs w K mg ca) (M_Known__span_at : MetF P w K mg base ca "Known" "_span_at" 2 [true, true, false] .frz f_Known__span_at d_Known__span_at) :
    FnG P w K mg base 3 f fd ["self", "read", "version"] (spD K ca [true, true, false] .frz f_Known_span) := by
  have sc := sc_Known_span
  refine (show FnG P w K mg base 3 f fd ["self", "read", "version"] (spD K ca [true, true, false] .frz (semB [true, true, false] (["self", "read", "version", "span"] : List Str).length b_Known_span)) from okD (ca := ca) (mr := .frz) (fb := b_Known_span) [true, true, false] F sc rfl (fun cdv A outer s H E hG hr => ?_) (.inl rfl))
  have tk : Takes (cxOf (CXP P w) P w K mg base ["self", "read", "version", "span"] "Known.span" (defScope (clsDef (top 29) 4)) f cdv A outer s H E) (fun cls d _ H => E cls d H) := takes_of rfl rfl rfl rfl
  have hp : PassesOwn (model P w) (A.deeper (envOfC "Known.span" (defScope (clsDef (top 29) 4)) s.heap.objs.size f cdv)) (envOfC "Known.span" (defScope (clsDef (top 29) 4)) s.heap.objs.size f cdv) (cxOf (CXP P w) P w K mg base ["self", "read", "version", "span"] "Known.span" (defScope (clsDef (top 29) 4)) f cdv A outer s H E).xe := passes_of (X := cxOf (CXP P w) P w K mg base ["self", "read", "version", "span"] "Known.span" (defScope (clsDef (top 29) 4)) f cdv A outer s H E) rfl
  exact (dss_cons (ds_set (i := 3) sc.nd rfl (.inl rfl) (de_meth 2 0 M_Known__span_at hG (hr.mono (by decide)) tk (de_var (pv 0)) (dam_cons (de_var (pv 1)) (dam_cons (de_varB (pv 2)) dam_nil))))
    (dss_one (ds_ret (de_if (dt_isN (de_varB (pv 3))) de_non (de_tup (da_cons (by decide) (de_ix (by decide) (de_varB (pv 3)) de_int) (da_cons (by decide) (de_ix (by decide) (de_varB (pv 3)) de_int) da_nil)))))))
theorem sc_is_value : FnScope ["value", "item", "one", "other"] ["value"] (defScope (top 21)) := ⟨rfl, rfl, rfl, by decide +kernel, rfl, by decide +kernel, by decide +kernel⟩
theorem ok_is_value {f : Addr} {fd : FuncData} (F : FunD K "is_value" "is_value" (defArgs (top 21)) (defBody (top 21)) (defScope (top 21)) [] [] f fd) (T : Fs w K mg ca) (C_scalar_before : CalF P w K mg base ca "scalar_before" 1 [false, false] .frz f_scalar_before d_scalar_before []) (C_is_scalar : CalF P w K mg base ca "is_scalar" 3 [false] .frz f_is_scalar d_is_scalar []) :
    FnG P w K mg base 4 f fd ["value"] (spD K ca [false] .frz f_is_value) := by
  have sc := sc_is_value
  refine (show FnG P w K mg base 4 f fd ["value"] (spD K ca [false] .frz (semB [false] (["value", "item", "one", "other"] : List Str).length b_is_value)) from okD (ca := ca) (mr := .frz) (fb := b_is_value) [false] F sc rfl (fun cdv A outer s H E hG hr => ?_) (.inl rfl))
  have tk : Takes (cxOf (CXP P w) P w K mg base ["value", "item", "one", "other"] "is_value" (defScope (top 21)) f cdv A outer s H E) (fun cls d _ H => E cls d H) := takes_of rfl rfl rfl rfl
  have hp : PassesOwn (model P w) (A.deeper (envOfC "is_value" (defScope (top 21)) s.heap.objs.size f cdv)) (envOfC "is_value" (defScope (top 21)) s.heap.objs.size f cdv) (cxOf (CXP P w) P w K mg base ["value", "item", "one", "other"] "is_value" (defScope (top 21)) f cdv A outer s H E).xe := passes_of (X := cxOf (CXP P w) P w K mg base ["value", "item", "one", "other"] "is_value" (defScope (top 21)) f cdv A outer s H E) rfl
  exact (dss_cons (ds_if (dt_cmp (od_ne (have h := Room.units hr; h)) (de_ix (by decide) (de_varB (pv 0)) de_int) de_str rfl) (dss_one (ds_ret (de_callF 1 0 C_is_scalar hG (hr.mono (by decide)) rfl tk (dam_cons (de_varB (pv 0)) dam_nil)))) dss_nil)
    (dss_cons (ds_if (dt_cmp od_gt (de_callB cd_len rfl T.n_len rfl (da_cons (by decide) (de_ix (by decide) (de_varB (pv 0)) de_int) da_nil)) (de_gl T.g_SET_MOST) rfl) (dss_one (ds_ret de_bl)) dss_nil)
    (dss_cons (ds_for hp rfl (di_seq (de_ix (by decide) (de_varB (pv 0)) de_int)) (dg_name (i := 1) sc.nd rfl (.inl rfl)) (dss_one (ds_if (dt_not (dt_val (de_bor (de_callF 1 0 C_is_scalar hG (hr.mono (by decide)) rfl tk (dam_cons (de_varB (pv 1)) dam_nil))))) (dss_one (ds_ret de_bl)) dss_nil)))
    (dss_cons (ds_for hp rfl (di_zipA rfl T.n_zip (da_cons (by decide) (de_ix (by decide) (de_varB (pv 0)) de_int) (da_cons (by decide) (de_slice (de_ix (by decide) (de_varB (pv 0)) de_int) (do_some de_int) do_none) da_nil))) (dg_tup rfl (dgs_cons (dg_name (i := 2) sc.nd rfl (.inl rfl)) (dgs_cons (dg_name (i := 3) sc.nd rfl (.inl rfl)) dgs_nil))) (dss_one (ds_if (dt_not (dt_val (de_bor (de_callF 2 0 C_scalar_before hG (hr.mono (by decide)) rfl tk (dam_cons (de_varB (pv 2)) (dam_cons (de_varB (pv 3)) dam_nil)))))) (dss_one (ds_ret de_bl)) dss_nil)))
    (dss_one (ds_ret de_bl))))))
theorem sc_is_read : FnScope ["read"] ["read"] (defScope (top 23)) := ⟨rfl, rfl, rfl, by decide +kernel, rfl, by decide +kernel, by decide +kernel⟩
theorem ok_is_read {f : Addr} {fd : FuncData} (F : FunD K "is_read" "is_read" (defArgs (top 23)) (defBody (top 23)) (defScope (top 23)) [] [] f fd) (T : Fs w K mg ca) (C_is_uid : CalF P w K mg base ca "is_uid" 2 [false] .frz f_is_uid d_is_uid []) (C_check_name : CalF P w K mg base ca "check_name" 3 [false, false] .frz f_check_name d_check_name []) :
    FnG P w K mg base 4 f fd ["read"] (spD K ca [false] .frz f_is_read) := by
  have sc := sc_is_read
  refine (show FnG P w K mg base 4 f fd ["read"] (spD K ca [false] .frz (semB [false] (["read"] : List Str).length b_is_read)) from okD (ca := ca) (mr := .frz) (fb := b_is_read) [false] F sc rfl (fun cdv A outer s H E hG hr => ?_) (.inl rfl))
  have tk : Takes (cxOf (CXP P w) P w K mg base ["read"] "is_read" (defScope (top 23)) f cdv A outer s H E) (fun cls d _ H => E cls d H) := takes_of rfl rfl rfl rfl
  have hp : PassesOwn (model P w) (A.deeper (envOfC "is_read" (defScope (top 23)) s.heap.objs.size f cdv)) (envOfC "is_read" (defScope (top 23)) s.heap.objs.size f cdv) (cxOf (CXP P w) P w K mg base ["read"] "is_read" (defScope (top 23)) f cdv A outer s H E).xe := passes_of (X := cxOf (CXP P w) P w K mg base ["read"] "is_read" (defScope (top 23)) f cdv A outer s H E) rfl
  exact (dss_cons (ds_if (dt_not (dt_val (de_bor (de_callF 1 0 C_is_uid hG (hr.mono (by decide)) rfl tk (dam_cons (de_ix (by decide) (de_varB (pv 0)) de_int) dam_nil))))) (dss_one (ds_ret de_bl)) dss_nil)
    (dss_cons (ds_if (dt_cmp (od_eq (have h := Room.units hr; h)) (de_ix (by decide) (de_varB (pv 0)) de_int) de_str rfl) (dss_one (ds_ret de_bl)) dss_nil)
    (dss_cons (ds_tryMF sc.nd tk (fun _ _ _ tk1 hp1 => (dss_one (ds_expr (de_bor (de_callF 1 0 C_check_name hG (hr.mono (by decide)) rfl tk1 (dam_cons (de_ix (by decide) (de_varB (pv 0)) de_int) dam_nil)))))) (mx_plain T.t_OutOfRange__OutOfRange (fun _ _ _ _ _ hz hf => (dss_one (ds_ret de_bl))) mx_nil))
    (dss_one (ds_ret de_bl)))))
theorem sc__fits : FnScope ["read", "told", "uid"] ["read", "told"] (defScope (top 26)) := ⟨rfl, rfl, rfl, by decide +kernel, rfl, by decide +kernel, by decide +kernel⟩
theorem ok__fits {f : Addr} {fd : FuncData} (F : FunD K "_fits" "_fits" (defArgs (top 26)) (defBody (top 26)) (defScope (top 26)) [] [] f fd) (T : Fs w K mg ca) (C_is_rising : CalF P w K mg base ca "is_rising" 1 [false] .frz f_is_rising d_is_rising []) (C_is_uid : CalF P w K mg base ca "is_uid" 2 [false] .frz f_is_uid d_is_uid []) (C_is_value : CalF P w K mg base ca "is_value" 4 [false] .frz f_is_value d_is_value []) :
    FnG P w K mg base 5 f fd ["read", "told"] (spD K ca [false, false] .frz f__fits) := by
  have sc := sc__fits
  refine (show FnG P w K mg base 5 f fd ["read", "told"] (spD K ca [false, false] .frz (semB [false, false] (["read", "told", "uid"] : List Str).length b__fits)) from okD (ca := ca) (mr := .frz) (fb := b__fits) [false, false] F sc rfl (fun cdv A outer s H E hG hr => ?_) (.inl rfl))
  have tk : Takes (cxOf (CXP P w) P w K mg base ["read", "told", "uid"] "_fits" (defScope (top 26)) f cdv A outer s H E) (fun cls d _ H => E cls d H) := takes_of rfl rfl rfl rfl
  have hp : PassesOwn (model P w) (A.deeper (envOfC "_fits" (defScope (top 26)) s.heap.objs.size f cdv)) (envOfC "_fits" (defScope (top 26)) s.heap.objs.size f cdv) (cxOf (CXP P w) P w K mg base ["read", "told", "uid"] "_fits" (defScope (top 26)) f cdv A outer s H E).xe := passes_of (X := cxOf (CXP P w) P w K mg base ["read", "told", "uid"] "_fits" (defScope (top 26)) f cdv A outer s H E) rfl
  exact (dss_cons (ds_if (dt_cmp (od_eq (have h := Room.units hr; h)) (de_ix (by decide) (de_varB (pv 0)) de_int) de_str rfl) (dss_one (ds_ret (de_or (de_cmp (od_eq (have h := Room.units hr; h)) (de_ix (by decide) (de_varB (pv 1)) de_int) de_str rfl) (de_or (de_cmp (od_eq (have h := Room.units hr; h)) (de_ix (by decide) (de_varB (pv 1)) de_int) de_str rfl) (de_one (de_and (de_cmp (od_eq (have h := Room.units hr; h)) (de_ix (by decide) (de_varB (pv 1)) de_int) de_str rfl) (de_one (de_callF 1 0 C_is_value hG (hr.mono (by decide)) rfl tk (dam_cons (de_ix (by decide) (de_varB (pv 1)) de_int) dam_nil))))))))) dss_nil)
    (dss_cons (ds_if (PW.pt (dw_or (dt_cmp (od_ne (have h := Room.units hr; h)) (de_ix (by decide) (de_varB (pv 1)) de_int) de_str rfl) (dw_one (dt_cmp (od_inX (Room.u65 hr)) (de_ix (by decide) (de_varB (pv 0)) de_int) (de_ix (by decide) (de_varB (pv 1)) de_int) rfl)))) (dss_one (ds_ret de_bl)) dss_nil)
    (dss_one (ds_ret (de_and (de_callB (cd_all2 rfl) rfl T.n_all rfl (da_cons (by decide) (de_lc (own := [("uid", 2)]) rfl sc.nd (di_seq (de_ix (by decide) (de_varB (pv 1)) de_int)) (blkOk_by (N := ["read", "told", "uid"]) (sc := defScope (top 26)) (by decide +kernel)) (fun _ _ _ _ _ => (dgw_name (i := 2) sc.nd rfl (.inl rfl) (by decide))) (fun _ _ _ _ _ => dts_nil) (fun _ _ _ _ _ => (de_callF 1 0 C_is_uid hG (hr.mono (by decide)) rfl takes0 (dam_cons (de_varB (pv 2)) dam_nil)))) da_nil)) (de_one (de_callF 1 0 C_is_rising hG (hr.mono (by decide)) rfl tk (dam_cons (de_ix (by decide) (de_varB (pv 1)) de_int) dam_nil))))))))
theorem sc_check_fact : FnScope ["fact", "read", "told", "since", "upto"] ["fact"] (defScope (top 27)) := ⟨rfl, rfl, rfl, by decide +kernel, rfl, by decide +kernel, by decide +kernel⟩
theorem ok_check_fact {f : Addr} {fd : FuncData} (F : FunD K "check_fact" "check_fact" (defArgs (top 27)) (defBody (top 27)) (defScope (top 27)) [] [] f fd) (T : Fs w K mg ca) (C_is_read : CalF P w K mg base ca "is_read" 4 [false] .frz f_is_read d_is_read []) (C__fits : CalF P w K mg base ca "_fits" 5 [false, false] .frz f__fits d__fits []) (X_OutOfRange : ExI P w K mg base ca "OutOfRange" ["name"]) :
    FnG P w K mg base 6 f fd ["fact"] (spD K ca [true] .frz f_check_fact) := by
  have sc := sc_check_fact
  refine (show FnG P w K mg base 6 f fd ["fact"] (spD K ca [true] .frz (semB [true] (["fact", "read", "told", "since", "upto"] : List Str).length b_check_fact)) from okD (ca := ca) (mr := .frz) (fb := b_check_fact) [true] F sc rfl (fun cdv A outer s H E hG hr => ?_) (.inl rfl))
  have tk : Takes (cxOf (CXP P w) P w K mg base ["fact", "read", "told", "since", "upto"] "check_fact" (defScope (top 27)) f cdv A outer s H E) (fun cls d _ H => E cls d H) := takes_of rfl rfl rfl rfl
  have hp : PassesOwn (model P w) (A.deeper (envOfC "check_fact" (defScope (top 27)) s.heap.objs.size f cdv)) (envOfC "check_fact" (defScope (top 27)) s.heap.objs.size f cdv) (cxOf (CXP P w) P w K mg base ["fact", "read", "told", "since", "upto"] "check_fact" (defScope (top 27)) f cdv A outer s H E).xe := passes_of (X := cxOf (CXP P w) P w K mg base ["fact", "read", "told", "since", "upto"] "check_fact" (defScope (top 27)) f cdv A outer s H E) rfl
  exact (dss_cons (ds_asg (de_var (pv 0)) (dg_tup rfl (dgs_cons (dg_name (i := 1) sc.nd rfl (.inl rfl)) (dgs_cons (dg_name (i := 2) sc.nd rfl (.inl rfl)) (dgs_cons (dg_name (i := 3) sc.nd rfl (.inl rfl)) (dgs_cons (dg_name (i := 4) sc.nd rfl (.inl rfl)) dgs_nil))))))
    (dss_cons (ds_if (dt_not (dt_val (de_bor (de_callF 1 0 C_is_read hG (hr.mono (by decide)) rfl tk (dam_cons (de_varB (pv 1)) dam_nil))))) (dss_one (ds_raiseF rfl tk X_OutOfRange (hr.mono (by decide)) (da_cons (by decide) de_str da_nil))) dss_nil)
    (dss_cons (ds_if (dt_not (dt_val (de_bor (de_callF 2 0 C__fits hG (hr.mono (by decide)) rfl tk (dam_cons (de_varB (pv 1)) (dam_cons (de_varB (pv 2)) dam_nil)))))) (dss_one (ds_raiseF rfl tk X_OutOfRange (hr.mono (by decide)) (da_cons (by decide) de_str da_nil))) dss_nil)
    (dss_one (ds_if (dt_not (dt_chain3 od_le od_le od_le de_int (de_varB (pv 3)) (de_varB (pv 4)) (de_gl T.g_VERSION_MOST))) (dss_one (ds_raiseF rfl tk X_OutOfRange (hr.mono (by decide)) (da_cons (by decide) de_str da_nil))) dss_nil)))))
theorem sc_Known_learn : FnScope ["self", "fact", "read", "told", "since", "upto", "first", "last", "other"] ["self", "fact"] (defScope (clsDef (top 29) 1)) := ⟨rfl, rfl, rfl, by decide +kernel, rfl, by decide +kernel, by decide +kernel⟩
theorem ok_Known_learn {f : Addr} {fd : FuncData} (F : FunD K "learn" "Known.learn" (defArgs (clsDef (top 29) 1)) (defBody (clsDef (top 29) 1)) (defScope (clsDef (top 29) 1)) [] [] f fd) (T : Fs w K mg ca) (C__joined : CalF P w K mg base ca "_joined" 1 [false, true, true, true] .frz f__joined d__joined []) (M_Known_spans : MetF P w K mg base ca "Known" "spans" 1 [true, true] .frz f_Known_spans d_Known_spans) (C_check_fact : CalF P w K mg base ca "check_fact" 6 [true] .frz f_check_fact d_check_fact []) (X_UnlikeFacts : ExT K mg ca "UnlikeFacts") :
    FnG P w K mg base 7 f fd ["self", "fact"] (spD K ca [true, true] .frz f_Known_learn) := by
  have sc := sc_Known_learn
  refine (show FnG P w K mg base 7 f fd ["self", "fact"] (spD K ca [true, true] .frz (semB [true, true] (["self", "fact", "read", "told", "since", "upto", "first", "last", "other"] : List Str).length b_Known_learn)) from okD (ca := ca) (mr := .frz) (fb := b_Known_learn) [true, true] F sc rfl (fun cdv A outer s H E hG hr => ?_) (.inl rfl))
  have tk : Takes (cxOf (CXP P w) P w K mg base ["self", "fact", "read", "told", "since", "upto", "first", "last", "other"] "Known.learn" (defScope (clsDef (top 29) 1)) f cdv A outer s H E) (fun cls d _ H => E cls d H) := takes_of rfl rfl rfl rfl
  have hp : PassesOwn (model P w) (A.deeper (envOfC "Known.learn" (defScope (clsDef (top 29) 1)) s.heap.objs.size f cdv)) (envOfC "Known.learn" (defScope (clsDef (top 29) 1)) s.heap.objs.size f cdv) (cxOf (CXP P w) P w K mg base ["self", "fact", "read", "told", "since", "upto", "first", "last", "other"] "Known.learn" (defScope (clsDef (top 29) 1)) f cdv A outer s H E).xe := passes_of (X := cxOf (CXP P w) P w K mg base ["self", "fact", "read", "told", "since", "upto", "first", "last", "other"] "Known.learn" (defScope (clsDef (top 29) 1)) f cdv A outer s H E) rfl
  exact (dss_cons (ds_expr (de_bor (de_callF 1 0 C_check_fact hG (hr.mono (by decide)) rfl tk (dam_cons (de_var (pv 1)) dam_nil))))
    (dss_cons (ds_asg (de_var (pv 1)) (dg_tup rfl (dgs_cons (dg_name (i := 2) sc.nd rfl (.inl rfl)) (dgs_cons (dg_name (i := 3) sc.nd rfl (.inl rfl)) (dgs_cons (dg_name (i := 4) sc.nd rfl (.inl rfl)) (dgs_cons (dg_name (i := 5) sc.nd rfl (.inl rfl)) dgs_nil))))))
    (dss_cons (ds_for hp rfl (di_seq (de_sta (de_meth 1 0 M_Known_spans hG (hr.mono (by decide)) tk (de_var (pv 0)) (dam_cons (de_var (pv 2)) dam_nil)))) (dg_tup rfl (dgs_cons (dg_name (i := 6) sc.nd rfl (.inl rfl)) (dgs_cons (dg_name (i := 7) sc.nd rfl (.inl rfl)) (dgs_cons (dg_name (i := 8) sc.nd rfl (.inl rfl)) dgs_nil)))) (dss_cons (ds_if (PW.pt (dw_and (dt_cmp od_le (de_varB (pv 6)) (de_varB (pv 5)) rfl) (dw_and (dt_cmp od_le (de_varB (pv 4)) (de_varB (pv 7)) rfl) (dw_one (dt_cmp (od_ne (have h := Room.units hr; h)) (de_varB (pv 8)) (de_varB (pv 3)) rfl))))) (dss_one (ds_raiseTF rfl tk X_UnlikeFacts de_str)) dss_nil)
    (dss_one (ds_if (PW.pt (dw_and (dt_cmp od_le (de_varB (pv 6)) (de_varB (pv 4)) rfl) (dw_one (dt_cmp od_le (de_varB (pv 5)) (de_varB (pv 7)) rfl)))) (dss_one (ds_ret de_bl)) dss_nil))))
    (dss_cons (ds_tput T.nt (Room.u65 hr) (de_fld (by decide) T.at__spans__Known (de_var (pv 0))) (de_var (pv 2)) (de_callF 4 0 C__joined hG (hr.mono (by decide)) rfl tk (dam_cons (de_bor (de_meth 1 0 M_Known_spans hG (hr.mono (by decide)) tk (de_var (pv 0)) (dam_cons (de_var (pv 2)) dam_nil))) (dam_cons (de_var (pv 3)) (dam_cons (de_var (pv 4)) (dam_cons (de_var (pv 5)) dam_nil))))))
    (dss_cons (ds_fld T.at__newest__Known (de_var (pv 0)) (de_callB (cd_max rfl) rfl T.n_max rfl (da_cons (by decide) (de_fld (by decide) T.at__newest__Known (de_var (pv 0))) (da_cons (by decide) (de_varB (pv 5)) da_nil))))
    (dss_one (ds_ret de_bl)))))))
theorem sc_law : FnScope ["_law_script", "_law_box", "_law_facts_here", "_law_one", "_law_two", "_law_fact", "_law_version"] ["_law_script"] (defScope (top 37)) := ⟨rfl, rfl, rfl, by decide +kernel, rfl, by decide +kernel, by decide +kernel⟩
theorem ok_law {f : Addr} {fd : FuncData} (F : FunD K "law" "law" (defArgs (top 37)) (defBody (top 37)) (defScope (top 37)) [] [] f fd) (T : Fs w K mg ca) (C__law_draw : CalF P w K mg base ca "_law_draw" 1 [true, false] .frz f__law_draw d__law_draw []) (C__law_alike : CalF P w K mg base ca "_law_alike" 1 [false, false] .frz f__law_alike d__law_alike []) (K_Known : MakF P w K mg base ca "Known" 1 [true] f_Known___init__ d_Known___init__) (M_Known_newest : MetF P w K mg base ca "Known" "newest" 1 [true] .frz f_Known_newest d_Known_newest) (C__law_digits : CalF P w K mg base ca "_law_digits" 2 [false, false, false] .frz f__law_digits d__law_digits []) (C__law_facts : CalF P w K mg base ca "_law_facts" 2 [true, false] .frz f__law_facts d__law_facts []) (C__law_turned : CalF P w K mg base ca "_law_turned" 2 [true, false] .frz f__law_turned d__law_turned []) (M_Known_facts : MetF P w K mg base ca "Known" "facts" 2 [true] .frz f_Known_facts d_Known_facts) (M_Known_at : MetF P w K mg base ca "Known" "at" 3 [true, true, false] .frz f_Known_at d_Known_at) (M_Known_learn : MetF P w K mg base ca "Known" "learn" 7 [true, true] .frz f_Known_learn d_Known_learn) :
    FnG P w K mg base 8 f fd ["_law_script"] (spD K ca [true] .frz f_law) := by
  have sc := sc_law
  refine (show FnG P w K mg base 8 f fd ["_law_script"] (spD K ca [true] .frz (semB [true] (["_law_script", "_law_box", "_law_facts_here", "_law_one", "_law_two", "_law_fact", "_law_version"] : List Str).length b_law)) from okD (ca := ca) (mr := .frz) (fb := b_law) [true] F sc rfl (fun cdv A outer s H E hG hr => ?_) (.inl rfl))
  have tk : Takes (cxOf (CXP P w) P w K mg base ["_law_script", "_law_box", "_law_facts_here", "_law_one", "_law_two", "_law_fact", "_law_version"] "law" (defScope (top 37)) f cdv A outer s H E) (fun cls d _ H => E cls d H) := takes_of rfl rfl rfl rfl
  have hp : PassesOwn (model P w) (A.deeper (envOfC "law" (defScope (top 37)) s.heap.objs.size f cdv)) (envOfC "law" (defScope (top 37)) s.heap.objs.size f cdv) (cxOf (CXP P w) P w K mg base ["_law_script", "_law_box", "_law_facts_here", "_law_one", "_law_two", "_law_fact", "_law_version"] "law" (defScope (top 37)) f cdv A outer s H E).xe := passes_of (X := cxOf (CXP P w) P w K mg base ["_law_script", "_law_box", "_law_facts_here", "_law_one", "_law_two", "_law_fact", "_law_version"] "law" (defScope (top 37)) f cdv A outer s H E) rfl
  exact (dss_cons (ds_set (i := 1) sc.nd rfl (.inl rfl) (de_obj (de_lst (da_cons (by decide) (de_callF 3 0 C__law_digits hG (hr.mono (by decide)) rfl tk (dam_cons (de_varB (pv 0)) (dam_cons de_int (dam_cons de_int dam_nil)))) (da_cons (by decide) de_int da_nil)))))
    (dss_cons (ds_set (i := 2) sc.nd rfl (.inl rfl) (de_callF 2 0 C__law_facts hG (hr.mono (by decide)) rfl tk (dam_cons (de_var (pv 1)) (dam_cons (de_bin od_add de_int (de_bor (de_callF 2 0 C__law_draw hG (hr.mono (by decide)) rfl tk (dam_cons (de_var (pv 1)) (dam_cons de_int dam_nil))))) dam_nil))))
    (dss_cons (ds_set (i := 3) sc.nd rfl (.inl rfl) (de_make0 K_Known hG (hr.mono (by decide)) rfl tk))
    (dss_cons (ds_set (i := 4) sc.nd rfl (.inl rfl) (de_make0 K_Known hG (hr.mono (by decide)) rfl tk))
    (dss_cons (ds_for hp rfl (di_seq (de_varS (pv 2))) (dg_name (i := 5) sc.nd rfl (.inl rfl)) (dss_one (ds_expr (de_bor (de_meth 1 0 M_Known_learn hG (hr.mono (by decide)) tk (de_var (pv 3)) (dam_cons (de_var (pv 5)) dam_nil))))))
    (dss_cons (ds_for hp rfl (di_seq (de_sta (de_callF 2 0 C__law_turned hG (hr.mono (by decide)) rfl tk (dam_cons (de_var (pv 1)) (dam_cons (de_varB (pv 2)) dam_nil))))) (dg_name (i := 5) sc.nd rfl (.inl rfl)) (dss_one (ds_expr (de_bor (de_meth 1 0 M_Known_learn hG (hr.mono (by decide)) tk (de_var (pv 4)) (dam_cons (de_var (pv 5)) dam_nil))))))
    (dss_cons (ds_if (PW.pt (dw_or (dt_not (dt_val (de_bor (de_callF 2 0 C__law_alike hG (hr.mono (by decide)) rfl tk (dam_cons (de_bor (de_meth0 M_Known_facts hG (hr.mono (by decide)) tk (de_var (pv 3)))) (dam_cons (de_bor (de_meth0 M_Known_facts hG (hr.mono (by decide)) tk (de_var (pv 4)))) dam_nil)))))) (dw_one (dt_cmp (od_ne (have h := Room.units hr; h)) (de_bor (de_meth0 M_Known_newest hG (hr.mono (by decide)) tk (de_var (pv 3)))) (de_bor (de_meth0 M_Known_newest hG (hr.mono (by decide)) tk (de_var (pv 4)))) rfl)))) (dss_one (ds_ret de_bl)) dss_nil)
    (dss_cons (ds_for hp rfl (di_seq (de_varS (pv 2))) (dg_name (i := 5) sc.nd rfl (.inl rfl)) (dss_cons (ds_if (PW.pt (dw_or (dt_cmp od_notB (de_bor (de_meth 1 0 M_Known_learn hG (hr.mono (by decide)) tk (de_var (pv 4)) (dam_cons (de_var (pv 5)) dam_nil))) de_bl rfl) (dw_one (dt_cmp od_notB (de_bor (de_meth 1 0 M_Known_learn hG (hr.mono (by decide)) tk (de_var (pv 3)) (dam_cons (de_var (pv 5)) dam_nil))) de_bl rfl)))) (dss_one (ds_ret de_bl)) dss_nil)
    (dss_one (ds_for hp rfl (di_range2 rfl T.n_range (da_cons (by decide) (de_ix (by decide) (de_varB (pv 5)) de_int) (da_cons (by decide) (de_bin od_add (de_ix (by decide) (de_varB (pv 5)) de_int) de_int) da_nil)) (len_cons (len_cons len_nil))) (dg_name (i := 6) sc.nd rfl (.inl rfl)) (dss_one (ds_if (PW.pt (dw_or (dt_not (dt_val (de_bor (de_callF 2 0 C__law_alike hG (hr.mono (by decide)) rfl tk (dam_cons (de_bor (de_meth 2 0 M_Known_at hG (hr.mono (by decide)) tk (de_var (pv 4)) (dam_cons (de_ix (by decide) (de_varB (pv 5)) de_int) (dam_cons (de_varB (pv 6)) dam_nil)))) (dam_cons (de_ix (by decide) (de_varB (pv 5)) de_int) dam_nil)))))) (dw_one (dt_not (dt_val (de_bor (de_callF 2 0 C__law_alike hG (hr.mono (by decide)) rfl tk (dam_cons (de_bor (de_meth 2 0 M_Known_at hG (hr.mono (by decide)) tk (de_var (pv 3)) (dam_cons (de_ix (by decide) (de_varB (pv 5)) de_int) (dam_cons (de_varB (pv 6)) dam_nil)))) (dam_cons (de_ix (by decide) (de_varB (pv 5)) de_int) dam_nil))))))))) (dss_one (ds_ret de_bl)) dss_nil))))))
    (dss_one (ds_ret (de_and (de_isN (de_bor (de_meth 2 0 M_Known_at hG (hr.mono (by decide)) tk (de_var (pv 4)) (dam_cons (de_tup (da_cons (by decide) de_str (da_cons (by decide) de_str (da_cons (by decide) de_str da_nil)))) (dam_cons de_int dam_nil))))) (de_one (de_isN (de_bor (de_meth 2 0 M_Known_at hG (hr.mono (by decide)) tk (de_var (pv 4)) (dam_cons (de_tup (da_cons (by decide) de_str (da_cons (by decide) de_str da_nil))) (dam_cons de_int dam_nil)))))))))))))))))
end
section
theorem fin {P : Program} {w : World} {mg : Str → Option Value} {fa : Addr} {h : Heap} {K : PySem.W.Frag} (X : K.In h) (G : h.Ns mainGlobals mg) (hfa : mg "law" = some (.ref fa))
    {tk_gNAME_MOST : Tok}
    {tk_gNAME_SIGNS : Tok}
    {tk_gNUMBER_MOST : Tok}
    {tk_gSET_MOST : Tok}
    {tk_gTEXT_MOST : Tok}
    {tk0_gUNFIT : Tok}
    {tk1_gUNFIT : Tok}
    {A_gUNFIT : Addr}
    {td_gUNFIT : Option Addr}
    {tn_gUNFIT : Nat}
    {ts_gUNFIT : Array (Option Value)}
    {tk_gVERSION_MOST : Tok}
    {tk0_sRANKS : Tok}
    {tk1_sRANKS : Tok}
    {tk2_sRANKS : Tok}
    {tk3_sRANKS : Tok}
    {A_sRANKS : Addr}
    {tn_sRANKS : Nat}
    {ts_sRANKS : Array (Option Value)}
    {C_OutOfRange : Addr}
    {ad_OutOfRange N_OutOfRange : Addr}
    {nm_OutOfRange qn_OutOfRange : Str}
    {bs_OutOfRange bm_OutOfRange sub_OutOfRange : List Value}
    {sn_OutOfRange : List Str}
    {ab_OutOfRange : Bool}
    {col_OutOfRange : Option Bool}
    {dd_OutOfRange od_OutOfRange an_OutOfRange : Option Addr}
    {m0_OutOfRange m1_OutOfRange m2_OutOfRange m3_OutOfRange m5_OutOfRange : Option Value}
    {oc_OutOfRange kV_OutOfRange dc_OutOfRange pm_OutOfRange cd_OutOfRange ct_OutOfRange : Value}
    {sl_OutOfRange : Array (Option Value)}
    {C_UnlikeFacts : Addr}
    {C_Known : Addr}
    {ad__wall : Addr}
    {od__wall an__wall : Option Addr}
    {oc__wall kV__wall dc__wall pm__wall cd__wall ct__wall : Value}
    {sl__wall : Array (Option Value)}
    {ad_is_name : Addr}
    {od_is_name an_is_name : Option Addr}
    {oc_is_name kV_is_name dc_is_name pm_is_name cd_is_name ct_is_name : Value}
    {sl_is_name : Array (Option Value)}
    {ad_is_rising : Addr}
    {od_is_rising an_is_rising : Option Addr}
    {oc_is_rising kV_is_rising dc_is_rising pm_is_rising cd_is_rising ct_is_rising : Value}
    {sl_is_rising : Array (Option Value)}
    {ad_is_text : Addr}
    {od_is_text an_is_text : Option Addr}
    {oc_is_text kV_is_text dc_is_text pm_is_text cd_is_text ct_is_text : Value}
    {sl_is_text : Array (Option Value)}
    {ad_scalar_before : Addr}
    {od_scalar_before an_scalar_before : Option Addr}
    {oc_scalar_before kV_scalar_before dc_scalar_before pm_scalar_before cd_scalar_before ct_scalar_before : Value}
    {sl_scalar_before : Array (Option Value)}
    {ad__joined : Addr}
    {od__joined an__joined : Option Addr}
    {oc__joined kV__joined dc__joined pm__joined cd__joined ct__joined : Value}
    {sl__joined : Array (Option Value)}
    {ad__law_cell : Addr}
    {od__law_cell an__law_cell : Option Addr}
    {oc__law_cell kV__law_cell dc__law_cell pm__law_cell cd__law_cell ct__law_cell : Value}
    {sl__law_cell : Array (Option Value)}
    {ad__law_draw : Addr}
    {od__law_draw an__law_draw : Option Addr}
    {oc__law_draw kV__law_draw dc__law_draw pm__law_draw cd__law_draw ct__law_draw : Value}
    {sl__law_draw : Array (Option Value)}
    {ad__law_alike : Addr}
    {od__law_alike an__law_alike : Option Addr}
    {oc__law_alike kV__law_alike dc__law_alike pm__law_alike cd__law_alike ct__law_alike : Value}
    {sl__law_alike : Array (Option Value)}
    {ad_Known___init__ : Addr}
    {od_Known___init__ an_Known___init__ : Option Addr}
    {oc_Known___init__ kV_Known___init__ dc_Known___init__ pm_Known___init__ cd_Known___init__ ct_Known___init__ : Value}
    {sl_Known___init__ : Array (Option Value)}
    {ad_Known_spans : Addr}
    {od_Known_spans an_Known_spans : Option Addr}
    {oc_Known_spans kV_Known_spans dc_Known_spans pm_Known_spans cd_Known_spans ct_Known_spans : Value}
    {sl_Known_spans : Array (Option Value)}
    {ad_Known_reads : Addr}
    {od_Known_reads an_Known_reads : Option Addr}
    {oc_Known_reads kV_Known_reads dc_Known_reads pm_Known_reads cd_Known_reads ct_Known_reads : Value}
    {sl_Known_reads : Array (Option Value)}
    {ad_Known_newest : Addr}
    {od_Known_newest an_Known_newest : Option Addr}
    {oc_Known_newest kV_Known_newest dc_Known_newest pm_Known_newest cd_Known_newest ct_Known_newest : Value}
    {sl_Known_newest : Array (Option Value)}
    {ad_is_uid : Addr}
    {od_is_uid an_is_uid : Option Addr}
    {oc_is_uid kV_is_uid dc_is_uid pm_is_uid cd_is_uid ct_is_uid : Value}
    {sl_is_uid : Array (Option Value)}
    {ad__law_digits : Addr}
    {od__law_digits an__law_digits : Option Addr}
    {oc__law_digits kV__law_digits dc__law_digits pm__law_digits cd__law_digits ct__law_digits : Value}
    {sl__law_digits : Array (Option Value)}
    {ad__law_facts : Addr}
    {od__law_facts an__law_facts : Option Addr}
    {oc__law_facts kV__law_facts dc__law_facts pm__law_facts cd__law_facts ct__law_facts : Value}
    {sl__law_facts : Array (Option Value)}
    {ad__law_turned : Addr}
    {od__law_turned an__law_turned : Option Addr}
    {oc__law_turned kV__law_turned dc__law_turned pm__law_turned cd__law_turned ct__law_turned : Value}
    {sl__law_turned : Array (Option Value)}
    {ad_Known__span_at : Addr}
    {od_Known__span_at an_Known__span_at : Option Addr}
    {oc_Known__span_at kV_Known__span_at dc_Known__span_at pm_Known__span_at cd_Known__span_at ct_Known__span_at : Value}
    {sl_Known__span_at : Array (Option Value)}
    {ad_Known_facts : Addr}
    {od_Known_facts an_Known_facts : Option Addr}
    {oc_Known_facts kV_Known_facts dc_Known_facts pm_Known_facts cd_Known_facts ct_Known_facts : Value}
    {sl_Known_facts : Array (Option Value)}
    {ad_Known_view : Addr}
    {od_Known_view an_Known_view : Option Addr}
    {oc_Known_view kV_Known_view dc_Known_view pm_Known_view cd_Known_view ct_Known_view : Value}
    {sl_Known_view : Array (Option Value)}
    {ad_Known_duplicate : Addr}
    {od_Known_duplicate an_Known_duplicate : Option Addr}
    {oc_Known_duplicate kV_Known_duplicate dc_Known_duplicate pm_Known_duplicate cd_Known_duplicate ct_Known_duplicate : Value}
    {sl_Known_duplicate : Array (Option Value)}
    {ad_check_name : Addr}
    {od_check_name an_check_name : Option Addr}
    {oc_check_name kV_check_name dc_check_name pm_check_name cd_check_name ct_check_name : Value}
    {sl_check_name : Array (Option Value)}
    {T_check_name : Addr}
    {tc_check_name : Value}
    {td_check_name : Option Addr}
    {tn_check_name : Nat}
    {ts_check_name : Array (Option Value)}
    {tt0_check_name : Tok}
    {ad_is_scalar : Addr}
    {od_is_scalar an_is_scalar : Option Addr}
    {oc_is_scalar kV_is_scalar dc_is_scalar pm_is_scalar cd_is_scalar ct_is_scalar : Value}
    {sl_is_scalar : Array (Option Value)}
    {ad_Known_at : Addr}
    {od_Known_at an_Known_at : Option Addr}
    {oc_Known_at kV_Known_at dc_Known_at pm_Known_at cd_Known_at ct_Known_at : Value}
    {sl_Known_at : Array (Option Value)}
    {ad_Known_span : Addr}
    {od_Known_span an_Known_span : Option Addr}
    {oc_Known_span kV_Known_span dc_Known_span pm_Known_span cd_Known_span ct_Known_span : Value}
    {sl_Known_span : Array (Option Value)}
    {ad_is_value : Addr}
    {od_is_value an_is_value : Option Addr}
    {oc_is_value kV_is_value dc_is_value pm_is_value cd_is_value ct_is_value : Value}
    {sl_is_value : Array (Option Value)}
    {ad_is_read : Addr}
    {od_is_read an_is_read : Option Addr}
    {oc_is_read kV_is_read dc_is_read pm_is_read cd_is_read ct_is_read : Value}
    {sl_is_read : Array (Option Value)}
    {ad__fits : Addr}
    {od__fits an__fits : Option Addr}
    {oc__fits kV__fits dc__fits pm__fits cd__fits ct__fits : Value}
    {sl__fits : Array (Option Value)}
    {ad_check_fact : Addr}
    {od_check_fact an_check_fact : Option Addr}
    {oc_check_fact kV_check_fact dc_check_fact pm_check_fact cd_check_fact ct_check_fact : Value}
    {sl_check_fact : Array (Option Value)}
    {ad_Known_learn : Addr}
    {od_Known_learn an_Known_learn : Option Addr}
    {oc_Known_learn kV_Known_learn dc_Known_learn pm_Known_learn cd_Known_learn ct_Known_learn : Value}
    {sl_Known_learn : Array (Option Value)}
    {ad_law : Addr}
    {od_law an_law : Option Addr}
    {oc_law kV_law dc_law pm_law cd_law ct_law : Value}
    {sl_law : Array (Option Value)}
    (z_all : W.nsIn K mainGlobals "all" = some none)
    (z_int : W.nsIn K mainGlobals "int" = some none)
    (z_len : W.nsIn K mainGlobals "len" = some none)
    (z_list : W.nsIn K mainGlobals "list" = some none)
    (z_max : W.nsIn K mainGlobals "max" = some none)
    (z_min : W.nsIn K mainGlobals "min" = some none)
    (z_ord : W.nsIn K mainGlobals "ord" = some none)
    (z_range : W.nsIn K mainGlobals "range" = some none)
    (z_repr : W.nsIn K mainGlobals "repr" = some none)
    (z_sorted : W.nsIn K mainGlobals "sorted" = some none)
    (z_zip : W.nsIn K mainGlobals "zip" = some none)
    (g_NAME_MOST : W.nsIn K mainGlobals "NAME_MOST" = some (some (.int (12) tk_gNAME_MOST)))
    (g_NAME_SIGNS : W.nsIn K mainGlobals "NAME_SIGNS" = some (some (.str "abcdefghijklmnopqrstuvwxyz0123456789" tk_gNAME_SIGNS)))
    (g_NUMBER_MOST : W.nsIn K mainGlobals "NUMBER_MOST" = some (some (.int (1000000) tk_gNUMBER_MOST)))
    (g_SET_MOST : W.nsIn K mainGlobals "SET_MOST" = some (some (.int (8) tk_gSET_MOST)))
    (g_TEXT_MOST : W.nsIn K mainGlobals "TEXT_MOST" = some (some (.int (40) tk_gTEXT_MOST)))
    (g_UNFIT : W.nsIn K mainGlobals "UNFIT" = some (some (.ref A_gUNFIT)))
    (gl_UNFIT : K.lookup A_gUNFIT = some ⟨.type "tuple", td_gUNFIT, .seq ([.int (34) tk0_gUNFIT, .int (37) tk1_gUNFIT] : List Value).toArray tn_gUNFIT, ts_gUNFIT⟩)
    (g_VERSION_MOST : W.nsIn K mainGlobals "VERSION_MOST" = some (some (.int (100000) tk_gVERSION_MOST)))
    (sg_RANKS : W.nsIn K mainGlobals "RANKS" = some (some (.ref A_sRANKS)))
    (sl_RANKS : K.lookup A_sRANKS = some ⟨.type "tuple", none, .seq ([.str "truth" tk0_sRANKS, .str "number" tk1_sRANKS, .str "text" tk2_sRANKS, .str "entity" tk3_sRANKS] : List Value).toArray tn_sRANKS, ts_sRANKS⟩)
    (z_nt : NoT K)
    (a_OutOfRange : W.nsIn K mainGlobals "OutOfRange" = some (some (.ref C_OutOfRange)))
    (eC_OutOfRange : PySem.W.subIn K (.ref C_OutOfRange) (.type "BaseException") = some true)
    (tC_OutOfRange : PySem.W.typeIn K (.ref C_OutOfRange) = some (.type "type"))
    (kC_OutOfRange : W.keepIn K (.ref C_OutOfRange) = true)
    (hC_OutOfRange : PySem.W.hasDictIn K C_OutOfRange = true)
    (x_OutOfRange : K.lookup C_OutOfRange = some (excClassObj nm_OutOfRange qn_OutOfRange C_OutOfRange N_OutOfRange bs_OutOfRange bm_OutOfRange true sn_OutOfRange sub_OutOfRange ab_OutOfRange col_OutOfRange dd_OutOfRange m0_OutOfRange m1_OutOfRange m2_OutOfRange m3_OutOfRange m5_OutOfRange "ValueError.__new__"))
    (r_OutOfRange : PySem.HandSPX.refsVE bm_OutOfRange = true)
    (sa_OutOfRange : W.findIn K (.ref C_OutOfRange) "__setattr__" = some (some (.builtin "object.__setattr__")))
    (i_OutOfRange : W.findIn K (.ref C_OutOfRange) "__init__" = some (some (.ref ad_OutOfRange)))
    (ti_OutOfRange : PySem.W.typeIn K (.ref ad_OutOfRange) = some (.type "function"))
    (l_OutOfRange : K.lookup ad_OutOfRange = some ⟨oc_OutOfRange, od_OutOfRange, .func (PySem.W.fnOf "__init__" "OutOfRange.__init__" (defArgs (clsDef (top 3) 0)) (defBody (clsDef (top 3) 0)) (defScope (clsDef (top 3) 0)) .none kV_OutOfRange dc_OutOfRange pm_OutOfRange an_OutOfRange cd_OutOfRange ct_OutOfRange), sl_OutOfRange⟩)
    (c_OutOfRange : W.codeIn K cd_OutOfRange "OutOfRange.__init__" = true)
    (k_OutOfRange : W.keepIn K (.ref ad_OutOfRange) = true)
    (nname_OutOfRange : W.findIn K (.ref C_OutOfRange) "name" = some none)
    (a_UnlikeFacts : W.nsIn K mainGlobals "UnlikeFacts" = some (some (.ref C_UnlikeFacts)))
    (eC_UnlikeFacts : PySem.W.subIn K (.ref C_UnlikeFacts) (.type "BaseException") = some true)
    (tC_UnlikeFacts : PySem.W.typeIn K (.ref C_UnlikeFacts) = some (.type "type"))
    (kC_UnlikeFacts : W.keepIn K (.ref C_UnlikeFacts) = true)
    (hC_UnlikeFacts : PySem.W.hasDictIn K C_UnlikeFacts = true)
    (xt_UnlikeFacts : PySem.W.excIn K C_UnlikeFacts [.type "ValueError", .type "Exception", .type "BaseException", .type "object"] "ValueError.__new__" = true)
    (a_Known : W.nsIn K mainGlobals "Known" = some (some (.ref C_Known)))
    (pg_Known : PySem.W.plainGet K C_Known Str.empty = true)
    (hd_Known : PySem.W.hasDictIn K C_Known = true)
    (po_Known : PySem.W.plainOver K C_Known = true)
    (sa_Known : W.findIn K (.ref C_Known) "__setattr__" = some (some (.builtin "object.__setattr__")))
    (mk_Known : PySem.W.makesIn K C_Known = true)
    (kC_Known : W.keepIn K (.ref C_Known) = true)
    (na_newest_Known : W.findIn K (.ref C_Known) "_newest" = some none)
    (na_spans_Known : W.findIn K (.ref C_Known) "_spans" = some none)
    (e_OutOfRange_OutOfRange : PySem.W.subIn K (.ref C_OutOfRange) (.ref C_OutOfRange) = some true)
    (a__wall : W.nsIn K mainGlobals "_wall" = some (some (.ref ad__wall)))
    (l__wall : K.lookup ad__wall = some ⟨oc__wall, od__wall, .func (PySem.W.fnOf "_wall" "_wall" (defArgs (top 0)) (defBody (top 0)) (defScope (top 0)) .none kV__wall dc__wall pm__wall an__wall cd__wall ct__wall), sl__wall⟩)
    (c__wall : W.codeIn K cd__wall "_wall" = true)
    (k__wall : W.keepIn K (.ref ad__wall) = true)
    (a_is_name : W.nsIn K mainGlobals "is_name" = some (some (.ref ad_is_name)))
    (l_is_name : K.lookup ad_is_name = some ⟨oc_is_name, od_is_name, .func (PySem.W.fnOf "is_name" "is_name" (defArgs (top 8)) (defBody (top 8)) (defScope (top 8)) .none kV_is_name dc_is_name pm_is_name an_is_name cd_is_name ct_is_name), sl_is_name⟩)
    (c_is_name : W.codeIn K cd_is_name "is_name" = true)
    (k_is_name : W.keepIn K (.ref ad_is_name) = true)
    (a_is_rising : W.nsIn K mainGlobals "is_rising" = some (some (.ref ad_is_rising)))
    (l_is_rising : K.lookup ad_is_rising = some ⟨oc_is_rising, od_is_rising, .func (PySem.W.fnOf "is_rising" "is_rising" (defArgs (top 11)) (defBody (top 11)) (defScope (top 11)) .none kV_is_rising dc_is_rising pm_is_rising an_is_rising cd_is_rising ct_is_rising), sl_is_rising⟩)
    (c_is_rising : W.codeIn K cd_is_rising "is_rising" = true)
    (k_is_rising : W.keepIn K (.ref ad_is_rising) = true)
    (a_is_text : W.nsIn K mainGlobals "is_text" = some (some (.ref ad_is_text)))
    (l_is_text : K.lookup ad_is_text = some ⟨oc_is_text, od_is_text, .func (PySem.W.fnOf "is_text" "is_text" (defArgs (top 18)) (defBody (top 18)) (defScope (top 18)) .none kV_is_text dc_is_text pm_is_text an_is_text cd_is_text ct_is_text), sl_is_text⟩)
    (c_is_text : W.codeIn K cd_is_text "is_text" = true)
    (k_is_text : W.keepIn K (.ref ad_is_text) = true)
    (a_scalar_before : W.nsIn K mainGlobals "scalar_before" = some (some (.ref ad_scalar_before)))
    (l_scalar_before : K.lookup ad_scalar_before = some ⟨oc_scalar_before, od_scalar_before, .func (PySem.W.fnOf "scalar_before" "scalar_before" (defArgs (top 20)) (defBody (top 20)) (defScope (top 20)) .none kV_scalar_before dc_scalar_before pm_scalar_before an_scalar_before cd_scalar_before ct_scalar_before), sl_scalar_before⟩)
    (c_scalar_before : W.codeIn K cd_scalar_before "scalar_before" = true)
    (k_scalar_before : W.keepIn K (.ref ad_scalar_before) = true)
    (a__joined : W.nsIn K mainGlobals "_joined" = some (some (.ref ad__joined)))
    (l__joined : K.lookup ad__joined = some ⟨oc__joined, od__joined, .func (PySem.W.fnOf "_joined" "_joined" (defArgs (top 28)) (defBody (top 28)) (defScope (top 28)) .none kV__joined dc__joined pm__joined an__joined cd__joined ct__joined), sl__joined⟩)
    (c__joined : W.codeIn K cd__joined "_joined" = true)
    (k__joined : W.keepIn K (.ref ad__joined) = true)
    (a__law_cell : W.nsIn K mainGlobals "_law_cell" = some (some (.ref ad__law_cell)))
    (l__law_cell : K.lookup ad__law_cell = some ⟨oc__law_cell, od__law_cell, .func (PySem.W.fnOf "_law_cell" "_law_cell" (defArgs (top 31)) (defBody (top 31)) (defScope (top 31)) .none kV__law_cell dc__law_cell pm__law_cell an__law_cell cd__law_cell ct__law_cell), sl__law_cell⟩)
    (c__law_cell : W.codeIn K cd__law_cell "_law_cell" = true)
    (k__law_cell : W.keepIn K (.ref ad__law_cell) = true)
    (a__law_draw : W.nsIn K mainGlobals "_law_draw" = some (some (.ref ad__law_draw)))
    (l__law_draw : K.lookup ad__law_draw = some ⟨oc__law_draw, od__law_draw, .func (PySem.W.fnOf "_law_draw" "_law_draw" (defArgs (top 33)) (defBody (top 33)) (defScope (top 33)) .none kV__law_draw dc__law_draw pm__law_draw an__law_draw cd__law_draw ct__law_draw), sl__law_draw⟩)
    (c__law_draw : W.codeIn K cd__law_draw "_law_draw" = true)
    (k__law_draw : W.keepIn K (.ref ad__law_draw) = true)
    (a__law_alike : W.nsIn K mainGlobals "_law_alike" = some (some (.ref ad__law_alike)))
    (l__law_alike : K.lookup ad__law_alike = some ⟨oc__law_alike, od__law_alike, .func (PySem.W.fnOf "_law_alike" "_law_alike" (defArgs (top 34)) (defBody (top 34)) (defScope (top 34)) .none kV__law_alike dc__law_alike pm__law_alike an__law_alike cd__law_alike ct__law_alike), sl__law_alike⟩)
    (c__law_alike : W.codeIn K cd__law_alike "_law_alike" = true)
    (k__law_alike : W.keepIn K (.ref ad__law_alike) = true)
    (mf_Known___init__ : W.findIn K (.ref C_Known) "__init__" = some (some (.ref ad_Known___init__)))
    (fn_Known___init__ : PySem.W.isFn K (.ref ad_Known___init__) = true)
    (l_Known___init__ : K.lookup ad_Known___init__ = some ⟨oc_Known___init__, od_Known___init__, .func (PySem.W.fnOf "__init__" "Known.__init__" (defArgs (clsDef (top 29) 0)) (defBody (clsDef (top 29) 0)) (defScope (clsDef (top 29) 0)) .none kV_Known___init__ dc_Known___init__ pm_Known___init__ an_Known___init__ cd_Known___init__ ct_Known___init__), sl_Known___init__⟩)
    (c_Known___init__ : W.codeIn K cd_Known___init__ "Known.__init__" = true)
    (k_Known___init__ : W.keepIn K (.ref ad_Known___init__) = true)
    (mf_Known_spans : W.findIn K (.ref C_Known) "spans" = some (some (.ref ad_Known_spans)))
    (fn_Known_spans : PySem.W.isFn K (.ref ad_Known_spans) = true)
    (l_Known_spans : K.lookup ad_Known_spans = some ⟨oc_Known_spans, od_Known_spans, .func (PySem.W.fnOf "spans" "Known.spans" (defArgs (clsDef (top 29) 5)) (defBody (clsDef (top 29) 5)) (defScope (clsDef (top 29) 5)) .none kV_Known_spans dc_Known_spans pm_Known_spans an_Known_spans cd_Known_spans ct_Known_spans), sl_Known_spans⟩)
    (c_Known_spans : W.codeIn K cd_Known_spans "Known.spans" = true)
    (k_Known_spans : W.keepIn K (.ref ad_Known_spans) = true)
    (mf_Known_reads : W.findIn K (.ref C_Known) "reads" = some (some (.ref ad_Known_reads)))
    (fn_Known_reads : PySem.W.isFn K (.ref ad_Known_reads) = true)
    (l_Known_reads : K.lookup ad_Known_reads = some ⟨oc_Known_reads, od_Known_reads, .func (PySem.W.fnOf "reads" "Known.reads" (defArgs (clsDef (top 29) 6)) (defBody (clsDef (top 29) 6)) (defScope (clsDef (top 29) 6)) .none kV_Known_reads dc_Known_reads pm_Known_reads an_Known_reads cd_Known_reads ct_Known_reads), sl_Known_reads⟩)
    (c_Known_reads : W.codeIn K cd_Known_reads "Known.reads" = true)
    (k_Known_reads : W.keepIn K (.ref ad_Known_reads) = true)
    (mf_Known_newest : W.findIn K (.ref C_Known) "newest" = some (some (.ref ad_Known_newest)))
    (fn_Known_newest : PySem.W.isFn K (.ref ad_Known_newest) = true)
    (l_Known_newest : K.lookup ad_Known_newest = some ⟨oc_Known_newest, od_Known_newest, .func (PySem.W.fnOf "newest" "Known.newest" (defArgs (clsDef (top 29) 8)) (defBody (clsDef (top 29) 8)) (defScope (clsDef (top 29) 8)) .none kV_Known_newest dc_Known_newest pm_Known_newest an_Known_newest cd_Known_newest ct_Known_newest), sl_Known_newest⟩)
    (c_Known_newest : W.codeIn K cd_Known_newest "Known.newest" = true)
    (k_Known_newest : W.keepIn K (.ref ad_Known_newest) = true)
    (a_is_uid : W.nsIn K mainGlobals "is_uid" = some (some (.ref ad_is_uid)))
    (l_is_uid : K.lookup ad_is_uid = some ⟨oc_is_uid, od_is_uid, .func (PySem.W.fnOf "is_uid" "is_uid" (defArgs (top 9)) (defBody (top 9)) (defScope (top 9)) .none kV_is_uid dc_is_uid pm_is_uid an_is_uid cd_is_uid ct_is_uid), sl_is_uid⟩)
    (c_is_uid : W.codeIn K cd_is_uid "is_uid" = true)
    (k_is_uid : W.keepIn K (.ref ad_is_uid) = true)
    (a__law_digits : W.nsIn K mainGlobals "_law_digits" = some (some (.ref ad__law_digits)))
    (l__law_digits : K.lookup ad__law_digits = some ⟨oc__law_digits, od__law_digits, .func (PySem.W.fnOf "_law_digits" "_law_digits" (defArgs (top 32)) (defBody (top 32)) (defScope (top 32)) .none kV__law_digits dc__law_digits pm__law_digits an__law_digits cd__law_digits ct__law_digits), sl__law_digits⟩)
    (c__law_digits : W.codeIn K cd__law_digits "_law_digits" = true)
    (k__law_digits : W.keepIn K (.ref ad__law_digits) = true)
    (a__law_facts : W.nsIn K mainGlobals "_law_facts" = some (some (.ref ad__law_facts)))
    (l__law_facts : K.lookup ad__law_facts = some ⟨oc__law_facts, od__law_facts, .func (PySem.W.fnOf "_law_facts" "_law_facts" (defArgs (top 35)) (defBody (top 35)) (defScope (top 35)) .none kV__law_facts dc__law_facts pm__law_facts an__law_facts cd__law_facts ct__law_facts), sl__law_facts⟩)
    (c__law_facts : W.codeIn K cd__law_facts "_law_facts" = true)
    (k__law_facts : W.keepIn K (.ref ad__law_facts) = true)
    (a__law_turned : W.nsIn K mainGlobals "_law_turned" = some (some (.ref ad__law_turned)))
    (l__law_turned : K.lookup ad__law_turned = some ⟨oc__law_turned, od__law_turned, .func (PySem.W.fnOf "_law_turned" "_law_turned" (defArgs (top 36)) (defBody (top 36)) (defScope (top 36)) .none kV__law_turned dc__law_turned pm__law_turned an__law_turned cd__law_turned ct__law_turned), sl__law_turned⟩)
    (c__law_turned : W.codeIn K cd__law_turned "_law_turned" = true)
    (k__law_turned : W.keepIn K (.ref ad__law_turned) = true)
    (mf_Known__span_at : W.findIn K (.ref C_Known) "_span_at" = some (some (.ref ad_Known__span_at)))
    (fn_Known__span_at : PySem.W.isFn K (.ref ad_Known__span_at) = true)
    (l_Known__span_at : K.lookup ad_Known__span_at = some ⟨oc_Known__span_at, od_Known__span_at, .func (PySem.W.fnOf "_span_at" "Known._span_at" (defArgs (clsDef (top 29) 2)) (defBody (clsDef (top 29) 2)) (defScope (clsDef (top 29) 2)) .none kV_Known__span_at dc_Known__span_at pm_Known__span_at an_Known__span_at cd_Known__span_at ct_Known__span_at), sl_Known__span_at⟩)
    (c_Known__span_at : W.codeIn K cd_Known__span_at "Known._span_at" = true)
    (k_Known__span_at : W.keepIn K (.ref ad_Known__span_at) = true)
    (mf_Known_facts : W.findIn K (.ref C_Known) "facts" = some (some (.ref ad_Known_facts)))
    (fn_Known_facts : PySem.W.isFn K (.ref ad_Known_facts) = true)
    (l_Known_facts : K.lookup ad_Known_facts = some ⟨oc_Known_facts, od_Known_facts, .func (PySem.W.fnOf "facts" "Known.facts" (defArgs (clsDef (top 29) 7)) (defBody (clsDef (top 29) 7)) (defScope (clsDef (top 29) 7)) .none kV_Known_facts dc_Known_facts pm_Known_facts an_Known_facts cd_Known_facts ct_Known_facts), sl_Known_facts⟩)
    (c_Known_facts : W.codeIn K cd_Known_facts "Known.facts" = true)
    (k_Known_facts : W.keepIn K (.ref ad_Known_facts) = true)
    (mf_Known_view : W.findIn K (.ref C_Known) "view" = some (some (.ref ad_Known_view)))
    (fn_Known_view : PySem.W.isFn K (.ref ad_Known_view) = true)
    (l_Known_view : K.lookup ad_Known_view = some ⟨oc_Known_view, od_Known_view, .func (PySem.W.fnOf "view" "Known.view" (defArgs (clsDef (top 29) 9)) (defBody (clsDef (top 29) 9)) (defScope (clsDef (top 29) 9)) .none kV_Known_view dc_Known_view pm_Known_view an_Known_view cd_Known_view ct_Known_view), sl_Known_view⟩)
    (c_Known_view : W.codeIn K cd_Known_view "Known.view" = true)
    (k_Known_view : W.keepIn K (.ref ad_Known_view) = true)
    (mf_Known_duplicate : W.findIn K (.ref C_Known) "duplicate" = some (some (.ref ad_Known_duplicate)))
    (fn_Known_duplicate : PySem.W.isFn K (.ref ad_Known_duplicate) = true)
    (l_Known_duplicate : K.lookup ad_Known_duplicate = some ⟨oc_Known_duplicate, od_Known_duplicate, .func (PySem.W.fnOf "duplicate" "Known.duplicate" (defArgs (clsDef (top 29) 10)) (defBody (clsDef (top 29) 10)) (defScope (clsDef (top 29) 10)) .none kV_Known_duplicate dc_Known_duplicate pm_Known_duplicate an_Known_duplicate cd_Known_duplicate ct_Known_duplicate), sl_Known_duplicate⟩)
    (c_Known_duplicate : W.codeIn K cd_Known_duplicate "Known.duplicate" = true)
    (k_Known_duplicate : W.keepIn K (.ref ad_Known_duplicate) = true)
    (a_check_name : W.nsIn K mainGlobals "check_name" = some (some (.ref ad_check_name)))
    (l_check_name : K.lookup ad_check_name = some ⟨oc_check_name, od_check_name, .func (PySem.W.fnOf "check_name" "check_name" (defArgs (top 10)) (defBody (top 10)) (defScope (top 10)) (.ref T_check_name) kV_check_name dc_check_name pm_check_name an_check_name cd_check_name ct_check_name), sl_check_name⟩)
    (c_check_name : W.codeIn K cd_check_name "check_name" = true)
    (k_check_name : W.keepIn K (.ref ad_check_name) = true)
    (t_check_name : K.lookup T_check_name = some ⟨tc_check_name, td_check_name, .seq ([.str "name" tt0_check_name] : List Value).toArray tn_check_name, ts_check_name⟩)
    (a_is_scalar : W.nsIn K mainGlobals "is_scalar" = some (some (.ref ad_is_scalar)))
    (l_is_scalar : K.lookup ad_is_scalar = some ⟨oc_is_scalar, od_is_scalar, .func (PySem.W.fnOf "is_scalar" "is_scalar" (defArgs (top 19)) (defBody (top 19)) (defScope (top 19)) .none kV_is_scalar dc_is_scalar pm_is_scalar an_is_scalar cd_is_scalar ct_is_scalar), sl_is_scalar⟩)
    (c_is_scalar : W.codeIn K cd_is_scalar "is_scalar" = true)
    (k_is_scalar : W.keepIn K (.ref ad_is_scalar) = true)
    (mf_Known_at : W.findIn K (.ref C_Known) "at" = some (some (.ref ad_Known_at)))
    (fn_Known_at : PySem.W.isFn K (.ref ad_Known_at) = true)
    (l_Known_at : K.lookup ad_Known_at = some ⟨oc_Known_at, od_Known_at, .func (PySem.W.fnOf "at" "Known.at" (defArgs (clsDef (top 29) 3)) (defBody (clsDef (top 29) 3)) (defScope (clsDef (top 29) 3)) .none kV_Known_at dc_Known_at pm_Known_at an_Known_at cd_Known_at ct_Known_at), sl_Known_at⟩)
    (c_Known_at : W.codeIn K cd_Known_at "Known.at" = true)
    (k_Known_at : W.keepIn K (.ref ad_Known_at) = true)
    (mf_Known_span : W.findIn K (.ref C_Known) "span" = some (some (.ref ad_Known_span)))
    (fn_Known_span : PySem.W.isFn K (.ref ad_Known_span) = true)
    (l_Known_span : K.lookup ad_Known_span = some ⟨oc_Known_span, od_Known_span, .func (PySem.W.fnOf "span" "Known.span" (defArgs (clsDef (top 29) 4)) (defBody (clsDef (top 29) 4)) (defScope (clsDef (top 29) 4)) .none kV_Known_span dc_Known_span pm_Known_span an_Known_span cd_Known_span ct_Known_span), sl_Known_span⟩)
    (c_Known_span : W.codeIn K cd_Known_span "Known.span" = true)
    (k_Known_span : W.keepIn K (.ref ad_Known_span) = true)
    (a_is_value : W.nsIn K mainGlobals "is_value" = some (some (.ref ad_is_value)))
    (l_is_value : K.lookup ad_is_value = some ⟨oc_is_value, od_is_value, .func (PySem.W.fnOf "is_value" "is_value" (defArgs (top 21)) (defBody (top 21)) (defScope (top 21)) .none kV_is_value dc_is_value pm_is_value an_is_value cd_is_value ct_is_value), sl_is_value⟩)
    (c_is_value : W.codeIn K cd_is_value "is_value" = true)
    (k_is_value : W.keepIn K (.ref ad_is_value) = true)
    (a_is_read : W.nsIn K mainGlobals "is_read" = some (some (.ref ad_is_read)))
    (l_is_read : K.lookup ad_is_read = some ⟨oc_is_read, od_is_read, .func (PySem.W.fnOf "is_read" "is_read" (defArgs (top 23)) (defBody (top 23)) (defScope (top 23)) .none kV_is_read dc_is_read pm_is_read an_is_read cd_is_read ct_is_read), sl_is_read⟩)
    (c_is_read : W.codeIn K cd_is_read "is_read" = true)
    (k_is_read : W.keepIn K (.ref ad_is_read) = true)
    (a__fits : W.nsIn K mainGlobals "_fits" = some (some (.ref ad__fits)))
    (l__fits : K.lookup ad__fits = some ⟨oc__fits, od__fits, .func (PySem.W.fnOf "_fits" "_fits" (defArgs (top 26)) (defBody (top 26)) (defScope (top 26)) .none kV__fits dc__fits pm__fits an__fits cd__fits ct__fits), sl__fits⟩)
    (c__fits : W.codeIn K cd__fits "_fits" = true)
    (k__fits : W.keepIn K (.ref ad__fits) = true)
    (a_check_fact : W.nsIn K mainGlobals "check_fact" = some (some (.ref ad_check_fact)))
    (l_check_fact : K.lookup ad_check_fact = some ⟨oc_check_fact, od_check_fact, .func (PySem.W.fnOf "check_fact" "check_fact" (defArgs (top 27)) (defBody (top 27)) (defScope (top 27)) .none kV_check_fact dc_check_fact pm_check_fact an_check_fact cd_check_fact ct_check_fact), sl_check_fact⟩)
    (c_check_fact : W.codeIn K cd_check_fact "check_fact" = true)
    (k_check_fact : W.keepIn K (.ref ad_check_fact) = true)
    (mf_Known_learn : W.findIn K (.ref C_Known) "learn" = some (some (.ref ad_Known_learn)))
    (fn_Known_learn : PySem.W.isFn K (.ref ad_Known_learn) = true)
    (l_Known_learn : K.lookup ad_Known_learn = some ⟨oc_Known_learn, od_Known_learn, .func (PySem.W.fnOf "learn" "Known.learn" (defArgs (clsDef (top 29) 1)) (defBody (clsDef (top 29) 1)) (defScope (clsDef (top 29) 1)) .none kV_Known_learn dc_Known_learn pm_Known_learn an_Known_learn cd_Known_learn ct_Known_learn), sl_Known_learn⟩)
    (c_Known_learn : W.codeIn K cd_Known_learn "Known.learn" = true)
    (k_Known_learn : W.keepIn K (.ref ad_Known_learn) = true)
    (a_law : W.nsIn K mainGlobals "law" = some (some (.ref ad_law)))
    (l_law : K.lookup ad_law = some ⟨oc_law, od_law, .func (PySem.W.fnOf "law" "law" (defArgs (top 37)) (defBody (top 37)) (defScope (top 37)) .none kV_law dc_law pm_law an_law cd_law ct_law), sl_law⟩)
    (c_law : W.codeIn K cd_law "law" = true)
    (k_law : W.keepIn K (.ref ad_law) = true) :
    ∃ (fd : FuncData) (ca : Ca), (∀ (s : Shared) (u : Value), BindsTo s fd ⟨[u], []⟩ [("_law_script", u)]) ∧ ∀ base : Heap, K.In base → base.Ns mainGlobals mg → FnG P w K mg base 8 fa fd ["_law_script"] (spD K ca [true] .frz f_law) := by
  have hh := hfa.symm.trans (PySem.W.mg_of X G a_law)
  cases hh
  obtain ⟨ca, q_OutOfRange, q_UnlikeFacts, q_Known⟩ : ∃ ca : Ca, ca "OutOfRange" = C_OutOfRange ∧ ca "UnlikeFacts" = C_UnlikeFacts ∧ ca "Known" = C_Known := ⟨caOf [("OutOfRange", C_OutOfRange), ("UnlikeFacts", C_UnlikeFacts), ("Known", C_Known)], rfl, rfl, rfl⟩
  have T : Fs w K mg ca := { n_all := PySem.W.mg_none_of X G z_all, n_int := PySem.W.mg_none_of X G z_int, n_len := PySem.W.mg_none_of X G z_len, n_list := PySem.W.mg_none_of X G z_list, n_max := PySem.W.mg_none_of X G z_max, n_min := PySem.W.mg_none_of X G z_min, n_ord := PySem.W.mg_none_of X G z_ord, n_range := PySem.W.mg_none_of X G z_range, n_repr := PySem.W.mg_none_of X G z_repr, n_sorted := PySem.W.mg_none_of X G z_sorted, n_zip := PySem.W.mg_none_of X G z_zip, g_NAME_MOST := ⟨_, (V.int (12)), PySem.W.mg_of X G g_NAME_MOST, ⟨_, rfl⟩, .int _⟩, g_NAME_SIGNS := ⟨_, (V.str "abcdefghijklmnopqrstuvwxyz0123456789"), PySem.W.mg_of X G g_NAME_SIGNS, ⟨_, rfl⟩, .str _⟩, g_NUMBER_MOST := ⟨_, (V.int (1000000)), PySem.W.mg_of X G g_NUMBER_MOST, ⟨_, rfl⟩, .int _⟩, g_SET_MOST := ⟨_, (V.int (8)), PySem.W.mg_of X G g_SET_MOST, ⟨_, rfl⟩, .int _⟩, g_TEXT_MOST := ⟨_, (V.int (40)), PySem.W.mg_of X G g_TEXT_MOST, ⟨_, rfl⟩, .int _⟩, g_UNFIT := glTup (vs := [(V.int (34)), (V.int (37))]) (PySem.W.mg_of X G g_UNFIT) gl_UNFIT (by show (2 : Nat) ≤ sizeLine; decide) (.cons ⟨_, rfl⟩ (.cons ⟨_, rfl⟩ .nil)) (.cons (.int _) (.cons (.int _) .nil)), g_VERSION_MOST := ⟨_, (V.int (100000)), PySem.W.mg_of X G g_VERSION_MOST, ⟨_, rfl⟩, .int _⟩, nt := z_nt, s_RANKS := mkTupS (PySem.W.mg_of X G sg_RANKS) sl_RANKS (by show (4 : Nat) ≤ sizeLine; decide) (.cons ⟨_, rfl⟩ (.cons ⟨_, rfl⟩ (.cons ⟨_, rfl⟩ (.cons ⟨_, rfl⟩ .nil)))), t_OutOfRange__OutOfRange := ⟨_, PySem.W.mg_of X G a_OutOfRange, (List.forall_mem_cons.mpr ⟨(by show PySem.W.exmOne K (.ref (ca "OutOfRange")) (.ref C_OutOfRange) = some true; rw [q_OutOfRange]; exact PySem.W.exm_ref eC_OutOfRange hC_OutOfRange tC_OutOfRange e_OutOfRange_OutOfRange), (List.forall_mem_nil _)⟩)⟩, at__newest__Known := (List.forall_mem_cons.mpr ⟨(by show Cls K (ca "Known") ∧ NoAttr K (ca "Known") "_newest"; rw [q_Known]; exact ⟨⟨pg_Known, hd_Known, po_Known, sa_Known⟩, na_newest_Known⟩), (List.forall_mem_nil _)⟩), at__spans__Known := (List.forall_mem_cons.mpr ⟨(by show Cls K (ca "Known") ∧ NoAttr K (ca "Known") "_spans"; rw [q_Known]; exact ⟨⟨pg_Known, hd_Known, po_Known, sa_Known⟩, na_spans_Known⟩), (List.forall_mem_nil _)⟩) }
  have F_OutOfRange := mkF (x := "__init__") (st := (clsDef (top 3) 0)) l_OutOfRange c_OutOfRange k_OutOfRange
  have O_OutOfRange : OexC K C_OutOfRange := ⟨⟨nm_OutOfRange, qn_OutOfRange, N_OutOfRange, bs_OutOfRange, bm_OutOfRange, sn_OutOfRange, sub_OutOfRange, ab_OutOfRange, col_OutOfRange, dd_OutOfRange, m0_OutOfRange, m1_OutOfRange, m2_OutOfRange, m3_OutOfRange, m5_OutOfRange, x_OutOfRange, r_OutOfRange⟩, sa_OutOfRange, eC_OutOfRange, tC_OutOfRange, kC_OutOfRange⟩
  have B_OutOfRange : Binds K _ ["self", "name"] [] := F_OutOfRange.bindsN fun _ _ _ _ _ _ us hl => match us, hl with | [_, _], _ => rfl
  have S_OutOfRange : FnScope ["self", "name"] ["self", "name"] (defScope (clsDef (top 3) 0)) := ⟨rfl, rfl, rfl, by decide +kernel, rfl, by decide +kernel, by decide +kernel⟩
  have F__wall := mkF (x := "_wall") (st := (top 0)) l__wall c__wall k__wall
  have B__wall : Binds K _ ["k"] [] := F__wall.bindsN fun _ _ _ _ _ _ us hl => match us, hl with | [_], _ => rfl
  have F_is_name := mkF (x := "is_name") (st := (top 8)) l_is_name c_is_name k_is_name
  have B_is_name : Binds K _ ["text"] [] := F_is_name.bindsN fun _ _ _ _ _ _ us hl => match us, hl with | [_], _ => rfl
  have F_is_rising := mkF (x := "is_rising") (st := (top 11)) l_is_rising c_is_rising k_is_rising
  have B_is_rising : Binds K _ ["texts"] [] := F_is_rising.bindsN fun _ _ _ _ _ _ us hl => match us, hl with | [_], _ => rfl
  have F_is_text := mkF (x := "is_text") (st := (top 18)) l_is_text c_is_text k_is_text
  have B_is_text : Binds K _ ["text"] [] := F_is_text.bindsN fun _ _ _ _ _ _ us hl => match us, hl with | [_], _ => rfl
  have F_scalar_before := mkF (x := "scalar_before") (st := (top 20)) l_scalar_before c_scalar_before k_scalar_before
  have B_scalar_before : Binds K _ ["one", "two"] [] := F_scalar_before.bindsN fun _ _ _ _ _ _ us hl => match us, hl with | [_, _], _ => rfl
  have F__joined := mkF (x := "_joined") (st := (top 28)) l__joined c__joined k__joined
  have B__joined : Binds K _ ["spans", "told", "since", "upto"] [] := F__joined.bindsN fun _ _ _ _ _ _ us hl => match us, hl with | [_, _, _, _], _ => rfl
  have F__law_cell := mkF (x := "_law_cell") (st := (top 31)) l__law_cell c__law_cell k__law_cell
  have B__law_cell : Binds K _ ["_law_script", "_law_k"] [] := F__law_cell.bindsN fun _ _ _ _ _ _ us hl => match us, hl with | [_, _], _ => rfl
  have F__law_draw := mkF (x := "_law_draw") (st := (top 33)) l__law_draw c__law_draw k__law_draw
  have B__law_draw : Binds K _ ["_law_box", "_law_many"] [] := F__law_draw.bindsN fun _ _ _ _ _ _ us hl => match us, hl with | [_, _], _ => rfl
  have F__law_alike := mkF (x := "_law_alike") (st := (top 34)) l__law_alike c__law_alike k__law_alike
  have B__law_alike : Binds K _ ["_law_one", "_law_two"] [] := F__law_alike.bindsN fun _ _ _ _ _ _ us hl => match us, hl with | [_, _], _ => rfl
  have F_Known___init__ := mkF (x := "__init__") (st := (clsDef (top 29) 0)) l_Known___init__ c_Known___init__ k_Known___init__
  have B_Known___init__ : Binds K _ ["self"] [] := F_Known___init__.bindsN fun _ _ _ _ _ _ us hl => match us, hl with | [_], _ => rfl
  have F_Known_spans := mkF (x := "spans") (st := (clsDef (top 29) 5)) l_Known_spans c_Known_spans k_Known_spans
  have B_Known_spans : Binds K _ ["self", "read"] [] := F_Known_spans.bindsN fun _ _ _ _ _ _ us hl => match us, hl with | [_, _], _ => rfl
  have F_Known_reads := mkF (x := "reads") (st := (clsDef (top 29) 6)) l_Known_reads c_Known_reads k_Known_reads
  have B_Known_reads : Binds K _ ["self"] [] := F_Known_reads.bindsN fun _ _ _ _ _ _ us hl => match us, hl with | [_], _ => rfl
  have F_Known_newest := mkF (x := "newest") (st := (clsDef (top 29) 8)) l_Known_newest c_Known_newest k_Known_newest
  have B_Known_newest : Binds K _ ["self"] [] := F_Known_newest.bindsN fun _ _ _ _ _ _ us hl => match us, hl with | [_], _ => rfl
  have F_is_uid := mkF (x := "is_uid") (st := (top 9)) l_is_uid c_is_uid k_is_uid
  have B_is_uid : Binds K _ ["text"] [] := F_is_uid.bindsN fun _ _ _ _ _ _ us hl => match us, hl with | [_], _ => rfl
  have F__law_digits := mkF (x := "_law_digits") (st := (top 32)) l__law_digits c__law_digits k__law_digits
  have B__law_digits : Binds K _ ["_law_script", "_law_first", "_law_last"] [] := F__law_digits.bindsN fun _ _ _ _ _ _ us hl => match us, hl with | [_, _, _], _ => rfl
  have F__law_facts := mkF (x := "_law_facts") (st := (top 35)) l__law_facts c__law_facts k__law_facts
  have B__law_facts : Binds K _ ["_law_box", "_law_many"] [] := F__law_facts.bindsN fun _ _ _ _ _ _ us hl => match us, hl with | [_, _], _ => rfl
  have F__law_turned := mkF (x := "_law_turned") (st := (top 36)) l__law_turned c__law_turned k__law_turned
  have B__law_turned : Binds K _ ["_law_box", "_law_facts_here"] [] := F__law_turned.bindsN fun _ _ _ _ _ _ us hl => match us, hl with | [_, _], _ => rfl
  have F_Known__span_at := mkF (x := "_span_at") (st := (clsDef (top 29) 2)) l_Known__span_at c_Known__span_at k_Known__span_at
  have B_Known__span_at : Binds K _ ["self", "read", "version"] [] := F_Known__span_at.bindsN fun _ _ _ _ _ _ us hl => match us, hl with | [_, _, _], _ => rfl
  have F_Known_facts := mkF (x := "facts") (st := (clsDef (top 29) 7)) l_Known_facts c_Known_facts k_Known_facts
  have B_Known_facts : Binds K _ ["self"] [] := F_Known_facts.bindsN fun _ _ _ _ _ _ us hl => match us, hl with | [_], _ => rfl
  have F_Known_view := mkF (x := "view") (st := (clsDef (top 29) 9)) l_Known_view c_Known_view k_Known_view
  have B_Known_view : Binds K _ ["self", "version"] [] := F_Known_view.bindsN fun _ _ _ _ _ _ us hl => match us, hl with | [_, _], _ => rfl
  have F_Known_duplicate := mkF (x := "duplicate") (st := (clsDef (top 29) 10)) l_Known_duplicate c_Known_duplicate k_Known_duplicate
  have B_Known_duplicate : Binds K _ ["self"] [] := F_Known_duplicate.bindsN fun _ _ _ _ _ _ us hl => match us, hl with | [_], _ => rfl
  have F_check_name := mkFD (x := "check_name") (st := (top 10)) (dvs := [(V.str "name")]) (its := ([.str "name" tt0_check_name] : List Value)) l_check_name c_check_name k_check_name t_check_name rfl (.cons ⟨_, rfl⟩ .nil) (by simp)
  have F_is_scalar := mkF (x := "is_scalar") (st := (top 19)) l_is_scalar c_is_scalar k_is_scalar
  have B_is_scalar : Binds K _ ["value"] [] := F_is_scalar.bindsN fun _ _ _ _ _ _ us hl => match us, hl with | [_], _ => rfl
  have F_Known_at := mkF (x := "at") (st := (clsDef (top 29) 3)) l_Known_at c_Known_at k_Known_at
  have B_Known_at : Binds K _ ["self", "read", "version"] [] := F_Known_at.bindsN fun _ _ _ _ _ _ us hl => match us, hl with | [_, _, _], _ => rfl
  have F_Known_span := mkF (x := "span") (st := (clsDef (top 29) 4)) l_Known_span c_Known_span k_Known_span
  have B_Known_span : Binds K _ ["self", "read", "version"] [] := F_Known_span.bindsN fun _ _ _ _ _ _ us hl => match us, hl with | [_, _, _], _ => rfl
  have F_is_value := mkF (x := "is_value") (st := (top 21)) l_is_value c_is_value k_is_value
  have B_is_value : Binds K _ ["value"] [] := F_is_value.bindsN fun _ _ _ _ _ _ us hl => match us, hl with | [_], _ => rfl
  have F_is_read := mkF (x := "is_read") (st := (top 23)) l_is_read c_is_read k_is_read
  have B_is_read : Binds K _ ["read"] [] := F_is_read.bindsN fun _ _ _ _ _ _ us hl => match us, hl with | [_], _ => rfl
  have F__fits := mkF (x := "_fits") (st := (top 26)) l__fits c__fits k__fits
  have B__fits : Binds K _ ["read", "told"] [] := F__fits.bindsN fun _ _ _ _ _ _ us hl => match us, hl with | [_, _], _ => rfl
  have F_check_fact := mkF (x := "check_fact") (st := (top 27)) l_check_fact c_check_fact k_check_fact
  have B_check_fact : Binds K _ ["fact"] [] := F_check_fact.bindsN fun _ _ _ _ _ _ us hl => match us, hl with | [_], _ => rfl
  have F_Known_learn := mkF (x := "learn") (st := (clsDef (top 29) 1)) l_Known_learn c_Known_learn k_Known_learn
  have B_Known_learn : Binds K _ ["self", "fact"] [] := F_Known_learn.bindsN fun _ _ _ _ _ _ us hl => match us, hl with | [_, _], _ => rfl
  have F_law := mkF (x := "law") (st := (top 37)) l_law c_law k_law
  have B_law : Binds K _ ["_law_script"] [] := F_law.bindsN fun _ _ _ _ _ _ us hl => match us, hl with | [_], _ => rfl
  refine ⟨_, ca, fun s u => F_law.bindsA (ps := ["_law_script"]) (fun _ _ _ _ _ _ us hl => match us, hl with | [_], _ => rfl) s [u] rfl, fun base _ _ => ?_⟩
  have X_OutOfRange : ExI P w K mg base ca "OutOfRange" ["name"] := ⟨C_OutOfRange, ad_OutOfRange, _, _, q_OutOfRange, PySem.W.mg_of X G a_OutOfRange, O_OutOfRange, i_OutOfRange, ti_OutOfRange, okXI1 F_OutOfRange S_OutOfRange O_OutOfRange nname_OutOfRange, B_OutOfRange⟩
  have X_UnlikeFacts : ExT K mg ca "UnlikeFacts" := mkXT q_UnlikeFacts (PySem.W.mg_of X G a_UnlikeFacts) PySem.F.excBase_ValueError xt_UnlikeFacts kC_UnlikeFacts eC_UnlikeFacts tC_UnlikeFacts
  have C__wall := calF0 (x := "_wall") (PySem.W.mg_of X G a__wall) k__wall (ok__wall (P := P) (w := w) (base := base) F__wall T ) B__wall
  have C_is_name := calF0 (x := "is_name") (PySem.W.mg_of X G a_is_name) k_is_name (ok_is_name (P := P) (w := w) (base := base) F_is_name T ) B_is_name
  have C_is_rising := calF0 (x := "is_rising") (PySem.W.mg_of X G a_is_rising) k_is_rising (ok_is_rising (P := P) (w := w) (base := base) F_is_rising T ) B_is_rising
  have C_is_text := calF0 (x := "is_text") (PySem.W.mg_of X G a_is_text) k_is_text (ok_is_text (P := P) (w := w) (base := base) F_is_text T ) B_is_text
  have C_scalar_before := calF0 (x := "scalar_before") (PySem.W.mg_of X G a_scalar_before) k_scalar_before (ok_scalar_before (P := P) (w := w) (base := base) F_scalar_before T ) B_scalar_before
  have C__joined := calF0 (x := "_joined") (PySem.W.mg_of X G a__joined) k__joined (ok__joined (P := P) (w := w) (base := base) F__joined T ) B__joined
  have C__law_cell := calF0 (x := "_law_cell") (PySem.W.mg_of X G a__law_cell) k__law_cell (ok__law_cell (P := P) (w := w) (base := base) F__law_cell T ) B__law_cell
  have C__law_draw := calF0 (x := "_law_draw") (PySem.W.mg_of X G a__law_draw) k__law_draw (ok__law_draw (P := P) (w := w) (base := base) F__law_draw T ) B__law_draw
  have C__law_alike := calF0 (x := "_law_alike") (PySem.W.mg_of X G a__law_alike) k__law_alike (ok__law_alike (P := P) (w := w) (base := base) F__law_alike T ) B__law_alike
  have K_Known : MakF P w K mg base ca "Known" 1 [true] f_Known___init__ d_Known___init__ := makF0 (q_Known ▸ PySem.W.mg_of X G a_Known) (q_Known ▸ ⟨mk_Known, mf_Known___init__, fn_Known___init__, kC_Known⟩) (ok_Known___init__ (P := P) (w := w) (base := base) F_Known___init__ T ) B_Known___init__
  have M_Known_spans : MetF P w K mg base ca "Known" "spans" 1 [true, true] .frz f_Known_spans d_Known_spans := metF0 (q_Known ▸ ⟨pg_Known, hd_Known, po_Known, sa_Known⟩) (q_Known ▸ ⟨mf_Known_spans, fn_Known_spans, k_Known_spans⟩) (ok_Known_spans (P := P) (w := w) (base := base) F_Known_spans T ) B_Known_spans
  have M_Known_reads : MetF P w K mg base ca "Known" "reads" 1 [true] .frz f_Known_reads d_Known_reads := metF0 (q_Known ▸ ⟨pg_Known, hd_Known, po_Known, sa_Known⟩) (q_Known ▸ ⟨mf_Known_reads, fn_Known_reads, k_Known_reads⟩) (ok_Known_reads (P := P) (w := w) (base := base) F_Known_reads T ) B_Known_reads
  have M_Known_newest : MetF P w K mg base ca "Known" "newest" 1 [true] .frz f_Known_newest d_Known_newest := metF0 (q_Known ▸ ⟨pg_Known, hd_Known, po_Known, sa_Known⟩) (q_Known ▸ ⟨mf_Known_newest, fn_Known_newest, k_Known_newest⟩) (ok_Known_newest (P := P) (w := w) (base := base) F_Known_newest T ) B_Known_newest
  have C_is_uid := calF0 (x := "is_uid") (PySem.W.mg_of X G a_is_uid) k_is_uid (ok_is_uid (P := P) (w := w) (base := base) F_is_uid T C_is_name) B_is_uid
  have C__law_digits := calF0 (x := "_law_digits") (PySem.W.mg_of X G a__law_digits) k__law_digits (ok__law_digits (P := P) (w := w) (base := base) F__law_digits T C__law_cell) B__law_digits
  have C__law_facts := calF0 (x := "_law_facts") (PySem.W.mg_of X G a__law_facts) k__law_facts (ok__law_facts (P := P) (w := w) (base := base) F__law_facts T C__law_draw) B__law_facts
  have C__law_turned := calF0 (x := "_law_turned") (PySem.W.mg_of X G a__law_turned) k__law_turned (ok__law_turned (P := P) (w := w) (base := base) F__law_turned T C__law_draw) B__law_turned
  have M_Known__span_at : MetF P w K mg base ca "Known" "_span_at" 2 [true, true, false] .frz f_Known__span_at d_Known__span_at := metF0 (q_Known ▸ ⟨pg_Known, hd_Known, po_Known, sa_Known⟩) (q_Known ▸ ⟨mf_Known__span_at, fn_Known__span_at, k_Known__span_at⟩) (ok_Known__span_at (P := P) (w := w) (base := base) F_Known__span_at T M_Known_spans) B_Known__span_at
  have M_Known_facts : MetF P w K mg base ca "Known" "facts" 2 [true] .frz f_Known_facts d_Known_facts := metF0 (q_Known ▸ ⟨pg_Known, hd_Known, po_Known, sa_Known⟩) (q_Known ▸ ⟨mf_Known_facts, fn_Known_facts, k_Known_facts⟩) (ok_Known_facts (P := P) (w := w) (base := base) F_Known_facts T M_Known_reads) B_Known_facts
  have M_Known_view : MetF P w K mg base ca "Known" "view" 2 [true, false] .frz f_Known_view d_Known_view := metF0 (q_Known ▸ ⟨pg_Known, hd_Known, po_Known, sa_Known⟩) (q_Known ▸ ⟨mf_Known_view, fn_Known_view, k_Known_view⟩) (ok_Known_view (P := P) (w := w) (base := base) F_Known_view T C__wall) B_Known_view
  have M_Known_duplicate : MetF P w K mg base ca "Known" "duplicate" 2 [true] .frz f_Known_duplicate d_Known_duplicate := metF0 (q_Known ▸ ⟨pg_Known, hd_Known, po_Known, sa_Known⟩) (q_Known ▸ ⟨mf_Known_duplicate, fn_Known_duplicate, k_Known_duplicate⟩) (ok_Known_duplicate (P := P) (w := w) (base := base) F_Known_duplicate T C__wall) B_Known_duplicate
  have C_check_name : CalF P w K mg base ca "check_name" 3 [false, false] .frz f_check_name d_check_name [] := calFD (PySem.W.mg_of X G a_check_name) k_check_name (ok_check_name (P := P) (w := w) (base := base) F_check_name T C_is_name X_OutOfRange) (fun j hj => match j, hj with
    | 0, _ => by
      obtain ⟨ds, v, b⟩ := F_check_name.binds1 (ps := ["text", "what"]) 1 0 (by simp) rfl (fun _ _ _ _ _ _ _ us its hu hi => match us, its, hu, hi with | [_], [_], _, _ => ⟨_, rfl, rfl⟩)
      exact ⟨_, ds, v, b, (.cons (.str _) .nil)⟩
    | 1, _ => by
      obtain ⟨ds, v, b⟩ := F_check_name.binds1 (ps := ["text", "what"]) 2 1 (by simp) rfl (fun _ _ _ _ _ _ _ us its hu hi => match us, its, hu, hi with | [_, _], [_], _, _ => ⟨_, rfl, rfl⟩)
      exact ⟨_, ds, v, b, .nil⟩
    | j + 2, hj => absurd hj (by show ¬ j + 2 ≤ 1; omega)) rfl (List.forall_mem_nil _)
  have C_is_scalar := calF0 (x := "is_scalar") (PySem.W.mg_of X G a_is_scalar) k_is_scalar (ok_is_scalar (P := P) (w := w) (base := base) F_is_scalar T C_is_text C_is_uid) B_is_scalar
  have M_Known_at : MetF P w K mg base ca "Known" "at" 3 [true, true, false] .frz f_Known_at d_Known_at := metF0 (q_Known ▸ ⟨pg_Known, hd_Known, po_Known, sa_Known⟩) (q_Known ▸ ⟨mf_Known_at, fn_Known_at, k_Known_at⟩) (ok_Known_at (P := P) (w := w) (base := base) F_Known_at T M_Known__span_at) B_Known_at
  have M_Known_span : MetF P w K mg base ca "Known" "span" 3 [true, true, false] .frz f_Known_span d_Known_span := metF0 (q_Known ▸ ⟨pg_Known, hd_Known, po_Known, sa_Known⟩) (q_Known ▸ ⟨mf_Known_span, fn_Known_span, k_Known_span⟩) (ok_Known_span (P := P) (w := w) (base := base) F_Known_span T M_Known__span_at) B_Known_span
  have C_is_value := calF0 (x := "is_value") (PySem.W.mg_of X G a_is_value) k_is_value (ok_is_value (P := P) (w := w) (base := base) F_is_value T C_scalar_before C_is_scalar) B_is_value
  have C_is_read := calF0 (x := "is_read") (PySem.W.mg_of X G a_is_read) k_is_read (ok_is_read (P := P) (w := w) (base := base) F_is_read T C_is_uid C_check_name) B_is_read
  have C__fits := calF0 (x := "_fits") (PySem.W.mg_of X G a__fits) k__fits (ok__fits (P := P) (w := w) (base := base) F__fits T C_is_rising C_is_uid C_is_value) B__fits
  have C_check_fact := calF0 (x := "check_fact") (PySem.W.mg_of X G a_check_fact) k_check_fact (ok_check_fact (P := P) (w := w) (base := base) F_check_fact T C_is_read C__fits X_OutOfRange) B_check_fact
  have M_Known_learn : MetF P w K mg base ca "Known" "learn" 7 [true, true] .frz f_Known_learn d_Known_learn := metF0 (q_Known ▸ ⟨pg_Known, hd_Known, po_Known, sa_Known⟩) (q_Known ▸ ⟨mf_Known_learn, fn_Known_learn, k_Known_learn⟩) (ok_Known_learn (P := P) (w := w) (base := base) F_Known_learn T C__joined M_Known_spans C_check_fact X_UnlikeFacts) B_Known_learn
  exact ok_law (P := P) (w := w) (base := base) F_law T C__law_draw C__law_alike K_Known M_Known_newest C__law_digits C__law_facts C__law_turned M_Known_facts M_Known_at M_Known_learn
end
end K50
namespace Ev
open PySem DL L2 G
instance rqDec : DecidableEq Rq := fun a b => match a, b with
  | .an u, .an v => if h : u = v then isTrue (by rw [h]) else isFalse fun e => by cases e; exact h rfl
  | .at u m, .at v k => if h : u = v ∧ m = k then isTrue (by rw [h.1, h.2]) else isFalse fun e => by cases e; exact h ⟨rfl, rfl⟩
  | .an _, .at _ _ => isFalse fun e => by cases e
  | .at _ _, .an _ => isFalse fun e => by cases e
def fnd (m : Str) : List NV → Option Vl
  | [] => none
  | x :: r => if x.1 = m then some x.2 else fnd m r
def attV (es : List Ent) (u m : Str) : Option (Option Vl) := (entU es u).map fun e => fnd m e.attrs
inductive Oc where
  | val (v : Vl) | bad (w : Str)
def Oc.d : Oc → D
  | .val v => .tup [.str "value", v.d]
  | .bad w => .tup [.str "fails", .str w]
abbrev Oc.tr (b : Bool) : Oc := .val (.sc (.tr b))
abbrev wk : Oc := .bad "wrong kind"
abbrev OR := Oc × List Rq
def res (a : OR) : D := .lst [a.1.d, .lst (a.2.map Rq.d)]
def jn (a b : List Rq) : List Rq := a ++ b.filter fun r => !decide (r ∈ a)
def rok : Rq → Bool
  | .an u => isU u
  | .at u m => isU u && isN m
theorem rq_sm {r : Rq} (h : rok r = true) : Sm 1 130 r.d := by
  cases r with
  | an u =>
    have h : isU u = true := h
    exact (Sm.tup (n := 0) (w := 40) (k := 2) (fa1 (Sm.lit (by decide +kernel)) (fa1 (isU_sm h) fa0)) (by simp)).mono (Nat.le_refl _) (by decide)
  | «at» u m =>
    obtain ⟨h1, h2⟩ := Bool.and_eq_true_iff.mp (show (isU u && isN m) = true from h)
    exact (Sm.tup (n := 0) (w := 40) (k := 3) (fa1 (Sm.lit (by decide +kernel)) (fa1 (isU_sm h1) (fa1 (isN_sm h2) fa0))) (by simp)).mono (Nat.le_refl _) (by decide)
def kd (t : Str) : Str := match Txt.split t ":" with
  | [] => ""
  | x :: _ => x
def gotO : Option (Option Vl) → Oc
  | none => .bad "no entity"
  | some none => .bad "no attribute"
  | some (some v) => .val v
def hasO : Option (Option Vl) → Bool
  | some (some _) => true
  | _ => false
def one1 (es : List Ent) : U1 → Vl → OR
  | .not, .sc (.tr b) => (.tr (!b), [])
  | .is n, .sc (.en t) => (.tr (decide (kd t = n)), [])
  | .has n, .sc (.en t) => (.tr (hasO (attV es t n)), [.at t n])
  | .get n, .sc (.en t) => (gotO (attV es t n), [.at t n])
  | _, _ => (wk, [])
def its : Vl → List Sc
  | .sc s => [s]
  | .set l => l
def ens : List Sc → Option (List Str)
  | [] => some []
  | .en t :: r => (ens r).map (t :: ·)
  | _ :: _ => none
noncomputable def insO (es : List Ent) : Vl → Option (List Str) → OR
  | .sc (.en t), some U => if t ∈ U then (.tr true, []) else if U = [] then (.tr false, []) else (.tr (U.any fun x => decide (x ∈ anc es t)), [.an t])
  | _, _ => (wk, [])
def lessO : Vl → Vl → OR
  | .sc (.nu a), .sc (.nu b) => (.tr (decide (a < b)), [])
  | _, _ => (wk, [])
def contO : Vl → Vl → OR
  | .set l, .sc s => (.tr (decide (s ∈ l)), [])
  | _, _ => (wk, [])
noncomputable def two2 (es : List Ent) (w : Str) (x y : Vl) : OR :=
  if w = "same" then (.tr (decide (x = y)), []) else if w = "less" then lessO x y else if w = "contains" then contO x y else insO es x (ens (its y))
noncomputable def un1 (es : List Ent) (u : U1) (a : OR) : OR := match a.1 with
  | .bad w => (.bad w, a.2)
  | .val v => ((one1 es u v).1, jn a.2 (one1 es u v).2)
def trO : Vl → Option Bool
  | .sc (.tr b) => some b
  | _ => none
def keepT : Oc → Oc
  | .bad w => .bad w
  | .val v => if (trO v).isSome = true then .val v else wk
def lazyB (w : Str) : Bool := decide (w = "and") || decide (w = "or")
noncomputable def bi (es : List Ent) (w : Str) (a b : OR) : OR := match a.1 with
  | .bad x => (.bad x, a.2)
  | .val x => if lazyB w = true then
      match trO x with
      | none => (wk, a.2)
      | some t => if t = decide (w = ("or" : Str)) then (.val x, a.2) else (keepT b.1, jn a.2 b.2)
    else match b.1 with
      | .bad y => (.bad y, jn a.2 b.2)
      | .val y => ((two2 es w x y).1, jn (jn a.2 b.2) (two2 es w x y).2)
def ie (a b c : OR) : OR := match a.1 with
  | .bad x => (.bad x, a.2)
  | .val x => match trO x with
    | none => (wk, a.2)
    | some true => (b.1, jn a.2 b.2)
    | some false => (c.1, jn a.2 c.2)
structure Rst where
  a : Str
  b : Str
  c : Str
  x : List NV
def Rst.d (r : Rst) : D := .tup [.str r.a, .str r.b, .str r.c, .tup (r.x.map NVd)]
structure Rst.ok (r : Rst) : Prop where
  a : isU r.a = true
  b : isU r.b = true
  c : isU r.c = true
  x : ∀ y ∈ r.x, isN y.1 = true ∧ y.2.ok = true
  l : r.x.length ≤ 8
def ctxO : Option Vl → Oc
  | none => .bad "no attribute"
  | some v => .val v
def lf (r : Rst) : Nd → Oc
  | .val v => .val v
  | .pr => .val (.sc (.en r.a))
  | .ac => .val (.sc (.en r.b))
  | .re => .val (.sc (.en r.c))
  | .ctx n => ctxO (fnd n r.x)
  | .giv n => .tr (fnd n r.x).isSome
  | _ => wk
noncomputable def ev (es : List Ent) (r : Rst) : Tr → OR
  | .leaf n => (lf r n, [])
  | .one u t => un1 es u (ev es r t)
  | .two w a b => bi es w (ev es r a) (ev es r b)
  | .ife a b c => ie (ev es r a) (ev es r b) (ev es r c)
structure Gd (K : Nat) (a : OR) : Prop where
  v : ∀ v, a.1 = .val v → v.ok = true
  b : ∀ w, a.1 = .bad w → w = "wrong kind" ∨ w = "no entity" ∨ w = "no attribute"
  r : ∀ r ∈ a.2, rok r = true
  n : a.2.length ≤ K
  d : a.2.Nodup
theorem Gd.m {K : Nat} {a : OR} (h : Gd K a) {L : Nat} (hl : K ≤ L) : Gd L a := ⟨h.v, h.b, h.r, Nat.le_trans h.n hl, h.d⟩
def Tr.gd : Tr → Prop
  | .leaf n => n.ok = true ∧ n.ops = []
  | .one u t => (u.nd 0).ok = true ∧ Tr.gd t
  | .two w a b => w ∈ TWO ∧ Tr.gd a ∧ Tr.gd b
  | .ife a b c => Tr.gd a ∧ Tr.gd b ∧ Tr.gd c
end Ev
namespace Ev
open PySem DL L2 G
section
variable {es : List Ent} {us : List Str}
end
end Ev
namespace Ev
open PySem DL L2 G
theorem dref_v (S : Sto) (v : Vl) : dref S v.d = v.d := by cases v with | sc s => cases s <;> rfl | set l => rfl
@[simp] theorem dref_oc (S : Sto) (o : Oc) : dref S o.d = o.d := by cases o <;> rfl
@[simp] theorem dref_res (S : Sto) (a : OR) : dref S (res a) = res a := rfl
section
variable {es : List Ent} {us : List Str}
theorem tz (w : Str) : oIn false (.str w) (.tup [.str "and", .str "or", .str "if"]) = some (.bl (decide (w ∈ (["and", "or", "if"] : List Str)))) := in_strsT false w ["and", "or", "if"]
theorem t1 (w : Str) : oIn false (.str w) (.tup [.str "get", .str "has", .str "is", .str "not"]) = some (.bl (decide (w ∈ (["get", "has", "is", "not"] : List Str)))) := in_strsT false w ["get", "has", "is", "not"]
theorem t2 (w : Str) : oIn false (.str w) (.tup [.str "same", .str "less", .str "in", .str "contains"]) = some (.bl (decide (w ∈ (["same", "less", "in", "contains"] : List Str)))) := in_strsT false w ["same", "less", "in", "contains"]
variable {rq : Rst} {RS : D}
end
end Ev
namespace Ev
open PySem DL L2 G
def wfl (n N : Nat) (E Q R T : D) : List (Str × D) := [(("_expression" : Str), E), (("_request" : Str), Q), (("_source" : Str), .obj n), (("_roles" : Str), R), (("_starts" : Str), T), (("_values" : Str), .obj (N + 1)), (("reads" : Str), .obj (N + 2))]
section
variable {n N : Nat} {E Q R T : D}
@[simp] theorem wfl1 : (wfl n N E Q R T).lookup ("_expression" : Str) = some E := rfl
@[simp] theorem wfl2 : (wfl n N E Q R T).lookup ("_request" : Str) = some Q := rfl
@[simp] theorem wfl3 : (wfl n N E Q R T).lookup ("_source" : Str) = some (.obj n) := rfl
@[simp] theorem wfl4 : (wfl n N E Q R T).lookup ("_roles" : Str) = some R := rfl
@[simp] theorem wfl5 : (wfl n N E Q R T).lookup ("_starts" : Str) = some T := rfl
@[simp] theorem wfl6 : (wfl n N E Q R T).lookup ("_values" : Str) = some (.obj (N + 1)) := rfl
@[simp] theorem wfl7 : (wfl n N E Q R T).lookup ("reads" : Str) = some (.obj (N + 2)) := rfl
@[simp] theorem wfl8 : (wfl n N E Q R T).lookup ("_outcome" : Str) = none := rfl
@[simp] theorem wfl9 : (wfl n N E Q R T).lookup ("_settle" : Str) = none := rfl
@[simp] theorem wfl10 : (wfl n N E Q R T).lookup ("_behind" : Str) = none := rfl
@[simp] theorem wfl11 : (wfl n N E Q R T).lookup ("run" : Str) = none := rfl
end
def wS (S : Sto) (n : Nat) (E Q R T : D) (vs : List D) (rs : List Rq) : Sto := S ++ [Ob.ins "Walk" (wfl n S.length E Q R T), .lst vs, .lst (rs.map Rq.d)]
section
variable {S : Sto} {n : Nat} {E Q R T : D} {vs : List D} {rs : List Rq}
end
section
variable {S : Sto} {n : Nat} {E Q R T : D} {vs : List D} {rs : List Rq} {es : List Ent} {us : List Str}
end
end Ev
namespace Ev
open PySem DL L2 G
def Wh (fc : ST) (fb : SS) (ρ : Rho) (S : Sto) (o : SOut) (S' : Sto) : Prop := ∃ k, whD fc fb k ρ S = some (o, S')
section
variable {fc : ST} {fb : SS} {ρ ρ' : Rho} {S S2 S' : Sto} {o : SOut} {d : D}
end
def rD : Option (Nat × Nat) → D
  | none => .non
  | some (p, m) => .tup [.int (p : Nat), .int (m : Nat)]
abbrev ww (S : Sto) (n : Nat) (l : List Nd) (rq : Rst) (ro : List (Option (Nat × Nat))) (st : List Int) (vs : List D) (rs : List Rq) : Sto := wS S n (nds l) rq.d (.lst (ro.map rD)) (iD st) vs rs
def lazyW (w : Str) : Bool := decide (w ∈ (["and", "or", "if"] : List Str))
def passB (w : Str) (m : Nat) (v : Vl) : Bool := if w = "if" then decide (0 < m) else if 0 < m then false else if w = "and" then decide (v = .sc (.tr false)) else decide (w = "or") && decide (v = .sc (.tr true))
theorem lz (w : Str) : oIn false (.str w) c_LAZY = some (.bl (lazyW w)) := in_strsT false w ["and", "or", "if"]
section
variable {es : List Ent} {us : List Str} {S : Sto} {n : Nat} {l : List Nd} {rq : Rst} {ro : List (Option (Nat × Nat))} {st : List Int} {vs : List D} {rs : List Rq}
inductive Stl (l : List Nd) (ro : List (Option (Nat × Nat))) : List D → Nat → Option Nat → List D → Prop
  | top {vs : List D} {k : Nat} : ro[k]? = some none → Stl l ro vs k (some k) vs
  | wrong {vs : List D} {k p : Nat} {nd : Nd} {v : Vl} : p < vs.length → ro[k]? = some (some (p, 0)) → l[p]? = some nd → lazyW nd.word = true → vs[k]? = some v.d → v.ok = true → trO v = none → Stl l ro vs k none vs
  | stay {vs : List D} {k p m : Nat} {nd : Nd} {v : Vl} : p < vs.length → ro[k]? = some (some (p, m)) → l[p]? = some nd → vs[k]? = some v.d → v.ok = true → (lazyW nd.word = true → m = 0 → (trO v).isSome = true) → passB nd.word m v = false → Stl l ro vs k (some k) vs
  | pass {vs vs' : List D} {k p m : Nat} {nd : Nd} {v : Vl} {r : Option Nat} : ro[k]? = some (some (p, m)) → l[p]? = some nd → vs[k]? = some v.d → v.ok = true → p < vs.length → (lazyW nd.word = true → m = 0 → (trO v).isSome = true) → passB nd.word m v = true → Stl l ro (vs.set p v.d) p r vs' → Stl l ro vs k r vs'
end
end Ev
namespace Ev
open PySem DL L2 G
section
variable {es : List Ent} {us : List Str} {S : Sto} {n : Nat} {l : List Nd} {rq : Rst} {ro : List (Option (Nat × Nat))} {st : List Int} {vs : List D} {rs : List Rq}
end
section
variable (S : Sto) (n : Nat) (l : List Nd) (rq : Rst) (ro : List (Option (Nat × Nat))) (st : List Int)
def Run (k : Nat) (vs : List D) (rs : List Rq) (o : Oc) (rs' : List Rq) : Prop := ∀ v2 v3 : U, ∃ vs' : List D, Wh (sTru (cB true)) l0_Walk_run [.val (.obj S.length), .val (.int k), v2.1, v3.1] (ww S n l rq ro st vs rs) (.ret o.d) (ww S n l rq ro st vs' rs')
def Sett (k : Nat) (vs : List D) (rs : List Rq) (o : Oc) (rs' : List Rq) : Prop := ∃ (r : Option Nat) (vs1 : List D), Stl l ro vs k r vs1 ∧ ((r = none ∧ o = wk ∧ rs' = rs) ∨ ∃ a : Nat, r = some a ∧ ((ro[a]? = some none ∧ rs' = rs ∧ ∃ v : Vl, vs1[a]? = some v.d ∧ o = .val v) ∨
  (∃ (p m b : Nat), ro[a]? = some (some (p, m)) ∧ f_Walk__behind [.obj S.length, .int a] (ww S n l rq ro st vs1 rs) = some (.ok (.int b), ww S n l rq ro st vs1 rs) ∧ Run S n l rq ro st b vs1 rs o rs')))
end
section
variable {es : List Ent} {us : List Str} {S : Sto} {n : Nat} {l : List Nd} {rq : Rst} {ro : List (Option (Nat × Nat))} {st : List Int} {vs : List D} {rs rs1 rs' : List Rq} {k : Nat} {o : Oc}
end
def Has {α : Type} (l : List α) (k : Nat) (b : List α) : Prop := ∀ (i : Nat) (a : α), b[i]? = some a → l[k + i]? = some a
theorem Has.l {α : Type} {l : List α} {k : Nat} {a b : List α} (h : Has l k (a ++ b)) : Has l k a := fun i x hx => h i x (by rw [List.getElem?_append_left (List.getElem?_eq_some_iff.mp hx).1]; exact hx)
theorem Has.r {α : Type} {l : List α} {k m : Nat} {a b : List α} (h : Has l k (a ++ b)) (hm : m = k + a.length) : Has l m b := fun i x hx => by
  rw [hm, Nat.add_assoc]
  exact h (a.length + i) x (by rw [List.getElem?_append_right (by omega), Nat.add_sub_cancel_left]; exact hx)
theorem Has.one {α : Type} {l : List α} {k : Nat} {a : α} (h : Has l k [a]) : l[k]? = some a := h 0 a rfl
section
variable {es : List Ent} {us : List Str} {S : Sto} {n : Nat} {l : List Nd} {rq : Rst} {ro : List (Option (Nat × Nat))} {st : List Int}
def Cont (S : Sto) (n : Nat) (l : List Nd) (rq : Rst) (ro : List (Option (Nat × Nat))) (st : List Int) (a : OR) (k top : Nat) (vs : List D) (rs : List Rq) (o : Oc) (rs' : List Rq) : Prop := match a.1 with
  | .bad w => o = .bad w ∧ rs' = jn rs a.2
  | .val v => ∀ vs', vs'.length = vs.length → vs'[top]? = some v.d → (∀ j, j < k → vs'[j]? = vs[j]?) → Sett S n l rq ro st top vs' (jn rs a.2) o rs'
theorem set_get {L : List D} {k : Nat} {d : D} (h : k < L.length) : (L.set k d)[k]? = some d := by simp [h]
end
end Ev
namespace Ev
open PySem DL L2 G
section
variable {S : Sto} {s0 : Sl}
end
section
variable {es : List Ent} {us : List Str} {S : Sto} {n : Nat} {rq : Rst}
structure Xp (l : List Nd) (t : Tr) : Prop where
  e : l = t.lin 0
  g : t.good
  d : Tr.gd t
  ok : ∀ n ∈ l, n.ok = true
  tr : tree l = true
  sz : t.size ≤ 500
end
end Ev
namespace Ev
open PySem DL L2 G
section
variable {ds : List Int} {tl : Sto} {us : List Str}
structure DrE (us : List Str) (es : List Ent) : Prop where
  s : (es.map (·.uid)).Sublist us
  g : ∀ e ∈ es, e.good = true
  p : ∀ e ∈ es, ∀ t ∈ e.pars, t ∈ us
theorem DrE.nd {es : List Ent} (h : DrE us es) (hud : us.Nodup) : (es.map (·.uid)).Nodup := hud.sublist h.s
theorem DrE.len {es : List Ent} (h : DrE us es) : es.length ≤ us.length := by have := h.s.length_le; rwa [List.length_map] at this
theorem DrE.ok {es : List Ent} (h : DrE us es) (hud : us.Nodup) (hl : us.length ≤ 40) : dbOk es := ⟨by have := h.len; omega, List.all_eq_true.mpr h.g, h.nd hud⟩
theorem DrE.make {es : List Ent} (h : DrE us es) (hud : us.Nodup) (hl : us.length ≤ 40) (S : Sto) : f_Database___init__ [.obj S.length, .lst (es.map Ent.d)] (S ++ [.ins "Database" []]) = some (.ok .non, S ++ [DB (srt es), .dK (dbK es)]) :=
  init_ok (fun e he => Ent.fine_of (h.g e he)) (h.ok hud hl) S
end
end Ev
namespace Ev
open PySem DL L2 G
end Ev
namespace Ev
open PySem DL L2 G
theorem alike_e {x y d : D} {z : Str} {S : Sto} (hx : dref S x = x) (hy : dref S y = y) (h1 : ddr S x = d) (h2 : ddr S y = d) (hd : oReprO [d] = some (.str z)) : f__law_alike [x, y] S = some (.ok (.bl true), S) := by
  simp [f__law_alike, b__law_alike, h1, h2, hx, hy, hd]
end Ev
namespace Ev
open PySem DL L2 G
theorem i2 (P : Pol) : oIx P.d (.int 2) = some P.one.d := rfl
structure PyZ (z : Int) (P : Pol) : Prop where
  ok : P.ok z
  s1 : P.one.slot = false
  s2 : P.two.slot = false
inductive PS where
  | off | sat | uns | bad (w : Str)
def PS.d : PS → D
  | .off => .tup [.str "off"]
  | .sat => .tup [.str "satisfied"]
  | .uns => .tup [.str "unsatisfied"]
  | .bad w => .tup [.str "fails", .str w]
@[simp] theorem dref_ps (S : Sto) (p : PS) : dref S p.d = p.d := by cases p <;> rfl
section
variable {es : List Ent} {us : List Str} {u : Str} {s : Scp}
end
abbrev PR := PS × List Rq
structure Gp (K : Nat) (a : PR) : Prop where
  b : ∀ w, a.1 = .bad w → w = "wrong kind" ∨ w = "no entity" ∨ w = "no attribute"
  r : ∀ r ∈ a.2, rok r = true
  n : a.2.length ≤ K
  d : a.2.Nodup
theorem Gp.m {K L : Nat} {a : PR} (h : Gp K a) (hl : K ≤ L) : Gp L a := ⟨h.b, h.r, Nat.le_trans h.n hl, h.d⟩
section
variable {es : List Ent} {us : List Str} {rq : Rst} {P : Pol} {z : Int}
end
end Ev
namespace Ev
open PySem DL L2 G
section
variable {es : List Ent} {us : List Str} {S : Sto} {n : Nat} {rq : Rst} {P : Pol} {z : Int}
end
end Ev
namespace Ev
open PySem DL L2 G
abbrev DA := List Str × List Str × List (Str × Str)
def sumA (a : DA) : Nat := a.1.length + a.2.1.length + a.2.2.length
theorem p0 (P : Pol) : oIx P.d (.int 0) = some (.str P.id) := rfl
theorem p1 (P : Pol) : oIx P.d (.int 1) = some (.str P.eff) := rfl
section
variable {es : List Ent} {us : List Str} {rq : Rst} {z : Int}
end
end Ev
namespace Ev
open PySem DL L2 G
section
variable {ds : List Int} {tl : Sto} {us nm : List Str} {z : Int}
end
structure DOk (K : Nat) (a : DA) : Prop where
  p : ∀ t ∈ a.1, isN t = true
  f : ∀ t ∈ a.2.1, isN t = true
  q : ∀ y ∈ a.2.2, isN y.1 = true ∧ (y.2 = "wrong kind" ∨ y.2 = "no entity" ∨ y.2 = "no attribute")
  n : sumA a ≤ K
end Ev
namespace Ev
open PySem DL L2 G
def d__fits : List D := []
noncomputable def b__fits : SS := (bSeq (bIf (sBl (sBin dEq (sBin oIx (sVarB 0) (cI 0)) (cS "is"))) (bRet (sBin dEq (sCallU f_kind_of (d_kind_of.drop 0) (sCons (sBin oIx (sVarB 0) (cI 1)) sNil)) (sVarB 1))) bNil)
    (bRet (sOrV (sBin dNe (sBin oIx (sVarB 0) (cI 0)) (cS "kind")) (sBin dEq (sBin oIx (sVarB 0) (cI 1)) (sVarB 1)))))
noncomputable def f__fits : Sem1 := semB [false, false] 2 b__fits
end Ev
namespace Ev
open PySem DL L2 G
def rqK : Rq → List Key
  | .an u => [.inr "ancestors", .inr u]
  | .at u m => [.inr "attribute", .inr u, .inr m]
theorem rqK_inj {r q : Rq} : rqK r = rqK q ↔ r = q := by
  constructor
  · intro h
    cases r <;> cases q <;> simp [rqK] at h <;> simp [h]
  · rintro rfl; rfl
theorem ky_rq (r : Rq) : kyT r.d = some (rqK r) := by
  cases r <;> simp [kyT, Rq.d, ancR, attR, kysD, kyD, rqK]
abbrev Rw := Rq × D
def Rw.d (x : Rw) : D := .tup [x.1.d, x.2]
theorem pK_new {es : List (List Key × D)} {k : List Key} {d : D} (h : gK es k = none) : pK es k d = es ++ [(k, d)] := by
  unfold pK
  rw [gK_any, h]; rfl
def Tld (S : Sto) (n : Nat) (es : List (List Key × D)) : Prop := ∃ m, S[n]? = some (.ins "Told" [(("_rows" : Str), .obj m)]) ∧ S[m]? = some (.dT es)
theorem stT_at {S : Sto} {m : Nat} {es : List (List Key × D)} (h : S[m]? = some (.dT es)) : stT S m = some es := by unfold stT; rw [h]
theorem dref_dT {S : Sto} {m : Nat} {es : List (List Key × D)} (h : S[m]? = some (.dT es)) : dref S (.obj m) = .dT es := by simp only [dref, h]
theorem Tld.app {S : Sto} {n : Nat} {es : List (List Key × D)} (h : Tld S n es) (T : Sto) : Tld (S ++ T) n es := by
  obtain ⟨m, h1, h2⟩ := h
  exact ⟨m, by rw [List.getElem?_append_left (List.getElem?_eq_some_iff.mp h1).1]; exact h1, by rw [List.getElem?_append_left (List.getElem?_eq_some_iff.mp h2).1]; exact h2⟩
theorem sm_alike {n w : Nat} {d : D} (h : Sm n w d) (hn : n ≤ 6) (hw : w ≤ 1000000) (hd : ∀ S, ddr S d = d) (hr : ∀ S, dref S d = d) (S : Sto) : f__law_alike [d, d] S = some (.ok (.bl true), S) :=
  alike_e (d := d) (hr S) (hr S) (hd S) (hd S) (oReprO_some (Sm.ok (h.mono (n' := 6) (w' := 1000000) hn hw) (by decide) (by decide)))
end Ev
namespace K50
open PySem DL L2 Ev
open G hiding b__law_alike d__law_alike f__law_alike
inductive Tl where
  | gone | non | val (v : Vl) | abv (l : List Str)
def Tl.d : Tl → D
  | .gone => .tup [.str "gone"]
  | .non => .tup [.str "none"]
  | .val v => .tup [.str "value", v.d]
  | .abv l => .tup [.str "above", .tup (l.map .str)]
def Tl.fine : Tl → Prop
  | .val v => v.fine = true
  | .abv l => l.length ≤ 1000 ∧ ∀ t ∈ l, t.length ≤ 1000
  | _ => True
def rdLen : Rq → Prop
  | .an u => u.length ≤ 1000
  | .at u m => u.length ≤ 1000 ∧ m.length ≤ 1000
structure Fc where
  r : Rq
  t : Tl
  s : Int
  u : Int
abbrev Fc.ds (F : Fc) : List D := [F.r.d, F.t.d, .int F.s, .int F.u]
abbrev Fc.d (F : Fc) : D := .tup F.ds
def fcB : Rq → Tl → Bool
  | .at _ _, .gone => true
  | .at _ _, .non => true
  | .at _ _, .val v => v.ok
  | .an u, .abv l => !decide (u ∈ l) && (l.all isU && adjS l)
  | _, _ => false
def spB (F : Fc) : Bool := decide (0 ≤ F.s ∧ F.s ≤ F.u ∧ F.u ≤ 100000)
def why (F : Fc) : Option Str := if rok F.r = false then some "read" else if fcB F.r F.t = false then some "told" else if spB F = false then some "span" else none
structure Fc.ok (F : Fc) : Prop where
  r : rdLen F.r
  t : F.t.fine
theorem dref_tK (S : Sto) (t : Tl) : dref S t.d = t.d := by cases t <;> rfl
theorem isrd_eq {r : Rq} (h : rdLen r) (S : Sto) : f_is_read [r.d] S = some (.ok (.bl (rok r)), S) := by
  have tl : t_OutOfRange__OutOfRange.lookup ("OutOfRange" : Str) = some true := rfl
  cases r with
  | an u =>
    have u0 := fun S => uid_eq (t := u) (S := S) h
    show _ = some (Except.ok (D.bl (isU u)), S)
    cases hu : isU u <;> rw [hu] at u0 <;> simp [f_is_read, b_is_read, Rq.d, ancR, d_is_uid, u0]
  | «at» u m =>
    have u0 := fun S => uid_eq (t := u) (S := S) h.1
    have n0 := fun S => chkn_eq (t := m) (w := "name") (S := S) h.2
    show _ = some (Except.ok (D.bl (isU u && G.isN m)), S)
    cases hu : isU u
    · rw [hu] at u0
      simp [f_is_read, b_is_read, Rq.d, attR, d_is_uid, u0]
    · rw [hu] at u0
      cases hm : G.isN m <;> rw [hm] at n0 <;> simp [f_is_read, b_is_read, Rq.d, attR, d_is_uid, u0, d_check_name, n0, tl]
theorem all_b (l : List Bool) : oAll2 [.lst (l.map D.bl)] = some (.bl (l.all id)) := by
  have e : ∀ l : List Bool, dBls (l.map D.bl) = some l := by
    intro l
    induction l with
    | nil => rfl
    | cons a r ih => show (dBls (r.map D.bl)).map (a :: ·) = _; rw [ih]; rfl
  have e1 : oAll [.lst (l.map D.bl)] = some (.bl (l.all id)) := by
    show (dBls (l.map D.bl)).map _ = _
    rw [e]; rfl
  unfold oAll2
  rw [e1]
theorem fits_eqK {r : Rq} {t : Tl} (h : t.fine) (S : Sto) : f__fits [r.d, t.d] S = some (.ok (.bl (fcB r t)), S) := by
  have w1 : ¬ ("ancestors" : Str) = "attribute" := by decide +kernel
  have g1 : ¬ ("none" : Str) = "gone" ∧ ¬ ("value" : Str) = "gone" ∧ ¬ ("value" : Str) = "none" ∧ ¬ ("above" : Str) = "gone" ∧ ¬ ("above" : Str) = "none" ∧ ¬ ("above" : Str) = "value" ∧ ¬ ("gone" : Str) = "above" ∧ ¬ ("none" : Str) = "above" ∧ ¬ ("value" : Str) = "above" := by decide +kernel
  cases r with
  | «at» u m =>
    cases t with
    | gone => simp [f__fits, b__fits, Rq.d, attR, Tl.d, fcB]
    | non => simp [f__fits, b__fits, Rq.d, attR, Tl.d, fcB]
    | val v =>
      have iv := fun S => isval_eq (v := v) h S
      have dv := fun S => Ev.dref_v S v
      show _ = some (Except.ok (D.bl v.ok), S)
      have T : Tl.d (.val v) = .tup [.str "value", v.d] := rfl
      rw [T]
      generalize v.d = V at *
      cases hv : v.ok <;> rw [hv] at iv <;> simp [f__fits, b__fits, Rq.d, attR, Tl.d, d_is_value, iv, dv]
    | abv l =>
      show _ = some (Except.ok (D.bl false), S)
      have T : Tl.d (.abv l) = .tup [.str "above", .tup (l.map .str)] := rfl
      rw [T]
      generalize l.map D.str = L at *
      simp [f__fits, b__fits, Rq.d, attR]
  | an u =>
    cases t with
    | gone => simp [f__fits, b__fits, Rq.d, ancR, Tl.d, fcB]
    | non => simp [f__fits, b__fits, Rq.d, ancR, Tl.d, fcB]
    | val v =>
      have T : Tl.d (.val v) = .tup [.str "value", v.d] := rfl
      show _ = some (Except.ok (D.bl false), S)
      rw [T]
      generalize v.d = V at *
      simp [f__fits, b__fits, Rq.d, ancR]
    | abv l =>
      obtain ⟨hl, hm⟩ := h
      have T : Tl.d (.abv l) = .tup [.str "above", .tup (l.map .str)] := rfl
      have fi := oInX_of (in_strsT false u l)
      have lc := lcD_map (t := tgName 2) (ft := sYes) (fe := sCallU f_is_uid d_is_uid (sCons (sVarB 2) sNil)) (ρ := [.bo (Rq.an u).d, .bo (Tl.abv l).d, .no]) (S := S) (fun d => match d with | .str x => .bl (isU x) | d => d) (l.map .str) [] (by rw [List.length_map, line_eq]; simp; omega) (fun d hd => by
        obtain ⟨x, hx, rfl⟩ := List.mem_map.mp hd
        have u0 := uid_eq (t := x) (S := S) (hm x hx)
        refine ⟨[.bo (Rq.an u).d, .bo (Tl.abv l).d, .val (.str x)], by simp, rfl, ?_⟩
        generalize (Rq.an u).d = RD at *
        generalize (Tl.abv l).d = TD at *
        simp [d_is_uid, u0])
      have le : (l.map D.str).map (fun d => match d with | .str x => .bl (isU x) | d => d) = (l.map isU).map D.bl := by rw [List.map_map, List.map_map]; rfl
      rw [le, List.nil_append] at lc
      have al := all_b (l.map isU)
      have ae : (l.map isU).all id = l.all isU := by rw [List.all_map]; rfl
      rw [ae] at al
      have ri := fun S => rising_t (l := l) S
      have wp : wipeR [.bo (Rq.an u).d, .bo (Tl.abv l).d, .no] [2] = [.bo (Rq.an u).d, .bo (Tl.abv l).d, .no] := rfl
      have i0 : oIx (Tl.abv l).d (.int 0) = some (.str "above") := rfl
      have i1 : oIx (Tl.abv l).d (.int 1) = some (.tup (l.map .str)) := rfl
      have j0 : oIx (Rq.an u).d (.int 0) = some (.str "ancestors") := rfl
      have j1 : oIx (Rq.an u).d (.int 1) = some (.str u) := rfl
      have it : dItems (.tup (l.map .str)) = some (l.map .str) := rfl
      have dt := fun S => dref_tK S (.abv l)
      have dr := fun S => dref_rq S (.an u)
      show _ = some (Except.ok (D.bl (!decide (u ∈ l) && (l.all isU && adjS l))), S)
      generalize (l.map isU).map D.bl = BL at *
      generalize (Rq.an u).d = RD at *
      generalize (Tl.abv l).d = TD at *
      generalize l.map D.str = LD at *
      cases hu : decide (u ∈ l) <;> rw [hu] at fi
      · cases ha : l.all isU <;> rw [ha] at al <;> simp [f__fits, b__fits, e0__fits, i0, i1, j0, j1, dt, dr, fi, it, wp, lc, al, d_is_rising, ri, w1]
      · simp [f__fits, b__fits, e0__fits, i0, i1, j0, j1, dt, dr, fi, w1]
theorem chk_eq {F : Fc} (h : F.ok) (S : Sto) : f_check_fact [F.d] S = match why F with
    | none => some (.ok .non, S)
    | some w => some (.error ⟨"OutOfRange", some [("name", .str w)]⟩, S) := by
  have rd := fun S => isrd_eq h.r S
  have ft := fun S => fits_eqK (r := F.r) h.t S
  have tp : ∀ u ρ, tgTup 4 u F.d ρ = u [F.r.d, F.t.d, .int F.s, .int F.u] ρ := fun _ _ => rfl
  have dr := fun S => dref_rq S F.r
  have dt := fun S => dref_tK S F.t
  have vm : c_VERSION_MOST = .int 100000 := rfl
  unfold why
  cases h1 : rok F.r <;> rw [h1] at rd
  · simp only [if_true]
    generalize F.r.d = RD at *
    generalize F.t.d = TD at *
    generalize F.d = FD at *
    simp [f_check_fact, b_check_fact, tp, d_is_read, rd, dr]
  · simp only [Bool.true_eq_false, if_false]
    cases h2 : fcB F.r F.t <;> rw [h2] at ft
    · simp only [if_true]
      generalize F.r.d = RD at *
      generalize F.t.d = TD at *
      generalize F.d = FD at *
      simp [f_check_fact, b_check_fact, tp, d_is_read, rd, dr, d__fits, ft, dt]
    · simp only [Bool.true_eq_false, if_false]
      unfold spB
      generalize F.r.d = RD at *
      generalize F.t.d = TD at *
      generalize F.d = FD at *
      generalize F.s = s at *
      generalize F.u = u at *
      by_cases c1 : 0 ≤ s <;> by_cases c2 : s ≤ u <;> by_cases c3 : u ≤ 100000 <;> simp [f_check_fact, b_check_fact, tp, d_is_read, rd, dr, d__fits, ft, dt, vm, c1, c2, c3]
structure Spn where
  s : Int
  u : Int
  t : D
def Spn.d (x : Spn) : D := .tup [.int x.s, .int x.u, x.t]
@[simp] theorem dref_spn (S : Sto) (x : Spn) : dref S x.d = x.d := rfl
def okT (t : D) : Prop := wf 20 t = true ∧ ∀ S, dref S t = t
theorem okT_eq {a b : D} (ha : okT a) (hb : okT b) : dEq a b = some (.bl (eqD a b)) := dEq_g (wf_eqOk ha.1) (wf_eqOk hb.1)
theorem okT_ne {a b : D} (ha : okT a) (hb : okT b) : dNe a b = some (.bl (!eqD a b)) := dNe_g (wf_eqOk ha.1) (wf_eqOk hb.1)
theorem mn2 (a b : Int) : oMin [.int a, .int b] = some (.int (min a b)) := by
  show some (D.int (if b < a then b else a)) = _
  congr 2; split <;> omega
theorem mx2 (a b : Int) : oMax [.int a, .int b] = some (.int (max a b)) := by
  show some (D.int (if b > a then b else a)) = _
  congr 2; split <;> omega
def jnL (t : D) : List Spn → Int → Int → List Spn → Int × Int × List Spn
  | [], s, u, k => (s, u, k)
  | x :: L, s, u, k => if eqD x.t t = true ∧ x.s ≤ u + 1 ∧ s ≤ x.u + 1 then jnL t L (min s x.s) (max u x.u) k else jnL t L s u (k ++ [x])
theorem jnL_len (t : D) : ∀ (L : List Spn) (s u : Int) (k : List Spn), (jnL t L s u k).2.2.length ≤ k.length + L.length
  | [], s, u, k => by simp [jnL]
  | x :: L, s, u, k => by
    unfold jnL
    split
    · have := jnL_len t L (min s x.s) (max u x.u) k; rw [List.length_cons]; omega
    · have := jnL_len t L s u (k ++ [x]); rw [List.length_append, List.length_singleton] at this; rw [List.length_cons]; omega
theorem jnL_ok (t : D) : ∀ (L : List Spn) (s u : Int) (k : List Spn), (∀ x ∈ L, okT x.t) → (∀ x ∈ k, okT x.t) → ∀ x ∈ (jnL t L s u k).2.2, okT x.t
  | [], s, u, k, _, hk => hk
  | y :: L, s, u, k, hL, hk => by
    unfold jnL
    split
    · exact jnL_ok t L _ _ k (fun x h => hL x (List.mem_cons_of_mem _ h)) hk
    · refine jnL_ok t L _ _ _ (fun x h => hL x (List.mem_cons_of_mem _ h)) fun x h => ?_
      rcases List.mem_append.mp h with h | h
      · exact hk x h
      · rw [List.mem_singleton.mp h]; exact hL y (by simp)
def pls (k : List Spn) (s : Int) : Nat := (k.filter fun x => decide (x.s < s)).length
def jnd (t : D) (L : List Spn) (s u : Int) : List Spn :=
  let r := jnL t L s u []
  r.2.2.take (pls r.2.2 r.1) ++ [⟨r.1, r.2.1, t⟩] ++ r.2.2.drop (pls r.2.2 r.1)
theorem i0s (x : Spn) : oIx x.d (.int 0) = some (.int x.s) := rfl
theorem i1s (x : Spn) : oIx x.d (.int 1) = some (.int x.u) := rfl
theorem i2s (x : Spn) : oIx x.d (.int 2) = some x.t := rfl
theorem l0joinK {S0 : Sto} {s0 : Sl} {t : D} (ht : okT t) : ∀ (L : List Spn) (s u : Int) (k : List Spn) (v5 v6 v7 : U), (∀ x ∈ L, okT x.t) → k.length + L.length ≤ 100000 →
    ∃ w5 w6 w7 : U, forD (tgTup 3 (tgCons (tgName 5) (tgCons (tgName 6) (tgCons (tgName 7) tgNil)))) l0__joined (L.map Spn.d) [s0, .val t, .val (.int s), .val (.int u), .val (.obj S0.length), v5.1, v6.1, v7.1, .no, .no] (S0 ++ [.lst (k.map Spn.d)]) =
      some (.nx [s0, .val t, .val (.int (jnL t L s u k).1), .val (.int (jnL t L s u k).2.1), .val (.obj S0.length), w5.1, w6.1, w7.1, .no, .no], S0 ++ [.lst ((jnL t L s u k).2.2.map Spn.d)])
  | [], s, u, k, v5, v6, v7, _, _ => ⟨v5, v6, v7, by simp [jnL]⟩
  | x :: L, s, u, k, v5, v6, v7, hL, hl => by
    have ox := hL x (by simp)
    have tg : (tgTup 3 (tgCons (tgName 5) (tgCons (tgName 6) (tgCons (tgName 7) tgNil)))) x.d [s0, .val t, .val (.int s), .val (.int u), .val (.obj S0.length), v5.1, v6.1, v7.1, .no, .no] = some [s0, .val t, .val (.int s), .val (.int u), .val (.obj S0.length), .val (.int x.s), .val (.int x.u), .val x.t, .no, .no] := by
      simp [tgTup, tgCons, tgNil, Spn.d, v5.2, v6.2, v7.2]
    have e1 := okT_eq ox ht
    have dt := ht.2
    have dx := ox.2
    rw [List.length_cons] at hl
    have l3 : (3 : Nat) ≤ sizeLine := by decide
    by_cases c : eqD x.t t = true ∧ x.s ≤ u + 1 ∧ s ≤ x.u + 1
    · have hj : jnL t (x :: L) s u k = jnL t L (min s x.s) (max u x.u) k := by rw [jnL]; exact if_pos c
      rw [hj]
      obtain ⟨w5, w6, w7, e⟩ := l0joinK (S0 := S0) (s0 := s0) ht L (min s x.s) (max u x.u) k ⟨.val (.int x.s), rfl⟩ ⟨.val (.int x.u), rfl⟩ ⟨.val x.t, rfl⟩ (fun y h => hL y (List.mem_cons_of_mem _ h)) (by omega)
      refine ⟨w5, w6, w7, (forT tg ?_).trans e⟩
      obtain ⟨c1, c2, c3⟩ := c
      rw [c1] at e1
      generalize S0 ++ [Ob.lst (k.map Spn.d)] = S at *
      have m1 := mn2 s x.s
      have m2 := mx2 u x.u
      generalize x.t = xt at *
      simp [l0__joined, dt, dx, e1, c2, c3, m1, m2]
    · have hj : jnL t (x :: L) s u k = jnL t L s u (k ++ [x]) := by rw [jnL]; exact if_neg c
      rw [hj]
      obtain ⟨w5, w6, w7, e⟩ := l0joinK (S0 := S0) (s0 := s0) ht L s u (k ++ [x]) ⟨.val (.int x.s), rfl⟩ ⟨.val (.int x.u), rfl⟩ ⟨.val x.t, rfl⟩ (fun y h => hL y (List.mem_cons_of_mem _ h)) (by rw [List.length_append, List.length_singleton]; omega)
      refine ⟨w5, w6, w7, (forT tg ?_).trans e⟩
      have sl : stL (S0 ++ [Ob.lst (k.map Spn.d)]) S0.length = some (k.map Spn.d) := stL_at (by simp)
      have ap : uAppend (k.map Spn.d) [.tup [.int x.s, .int x.u, x.t]] = some (.non, (k ++ [x]).map Spn.d) := by
        rw [app_l (by rw [List.length_map]; omega), List.map_append]; rfl
      have s1 : (S0 ++ [Ob.lst (k.map Spn.d)]).set S0.length (.lst ((k ++ [x]).map Spn.d)) = S0 ++ [.lst ((k ++ [x]).map Spn.d)] := by rw [List.set_append_right _ _ (by omega), Nat.sub_self]; rfl
      have tst : ∀ S, sAnd (sBl (sBin dEq (sVarB 7) (sVarB 1))) (sAnd (sBl (sBin oLe (sVarB 5) (sBin oAdd (sVarB 3) (cI 1)))) (sBl (sBin oLe (sVarB 2) (sBin oAdd (sVarB 6) (cI 1))))) [s0, .val t, .val (.int s), .val (.int u), .val (.obj S0.length), .val (.int x.s), .val (.int x.u), .val x.t, .no, .no] S = some (.ok false, S) := fun S => by
        by_cases c1 : eqD x.t t = true
        · rw [c1] at e1
          by_cases c2 : x.s ≤ u + 1
          · have c3 : ¬ s ≤ x.u + 1 := fun h => c ⟨c1, c2, h⟩
            generalize x.t = xt at *
            simp [dt, dx, e1, c2, c3]
          · generalize x.t = xt at *
            simp [dt, dx, e1, c2]
        · have c1 : eqD x.t t = false := by simpa using c1
          rw [c1] at e1
          generalize x.t = xt at *
          simp [dt, dx, e1]
      generalize (k ++ [x]).map Spn.d = K2 at *
      generalize k.map Spn.d = K1 at *
      generalize S0 ++ [Ob.lst K1] = S at *
      generalize x.t = xt at *
      simp [l0__joined, tst, sl, ap, s1, dx, l3, sMut, -sAnd_e]
theorem joined_gen {t : D} {L : List Spn} (ht : okT t) (hL : ∀ x ∈ L, okT x.t) (hl : L.length ≤ 1000) (s u : Int) (S : Sto) : f__joined [.lst (L.map Spn.d), t, .int s, .int u] S = some (.ok (.obj S.length), S ++ [.lst ((jnd t L s u).map Spn.d)]) := by
  obtain ⟨w5, w6, w7, e⟩ := l0joinK (S0 := S) (s0 := .bo (.lst (L.map Spn.d))) ht L s u [] uN uN uN hL (by simp; omega)
  have kl := jnL_len t L s u []
  have ko := jnL_ok t L s u [] hL (by simp)
  unfold jnd
  generalize jnL t L s u [] = R at *
  obtain ⟨s', u', K⟩ := R
  simp only [List.map_nil] at *
  have it : dItems (.lst (L.map Spn.d)) = some (L.map Spn.d) := rfl
  have l0 : (0 : Nat) ≤ sizeLine := by decide
  have l3 : (3 : Nat) ≤ sizeLine := by decide
  have sl : stL (S ++ [Ob.lst (K.map Spn.d)]) S.length = some (K.map Spn.d) := stL_at (by simp)
  have kl' : K.length ≤ 1000 := by simpa using (by omega : K.length ≤ [].length + 1000)
  have fl := lcD_filter (t := tgName 9) (ft := sBl (sBin oLtX (sBin oIx (sVarB 9) (cI 0)) (sVarB 2))) (fe := sVar 9) (ρ := [.bo (.lst (L.map Spn.d)), .val t, .val (.int s'), .val (.int u'), .val (.obj S.length), w5.1, w6.1, w7.1, .no, .no]) (S := S ++ [Ob.lst (K.map Spn.d)])
    (fun d => match oIx d (.int 0) with | some (.int i) => decide (i < s') | _ => false) (fun d => d) (K.map Spn.d) [] (by rw [List.length_map, line_eq]; simp; omega) (fun d hd => by
      obtain ⟨x, hx, rfl⟩ := List.mem_map.mp hd
      have q0 := i0s x
      have dx : ∀ S, dref S x.d = x.d := fun _ => rfl
      refine ⟨[.bo (.lst (L.map Spn.d)), .val t, .val (.int s'), .val (.int u'), .val (.obj S.length), w5.1, w6.1, w7.1, .no, .val x.d], by simp, ?_, ?_⟩
      · simp only [q0]
        generalize x.d = xd at *
        simp [dx, q0]
      · intro _
        generalize x.d = xd at *
        simp [dx])
  have lo := lcO_lcD (n := S.length) (t := tgName 9) (ft := sBl (sBin oLtX (sBin oIx (sVarB 9) (cI 0)) (sVarB 2))) (fe := sVar 9) (ρ := [.bo (.lst (L.map Spn.d)), .val t, .val (.int s'), .val (.int u'), .val (.obj S.length), w5.1, w6.1, w7.1, .no, .no]) sl (fun d hd ρ1 he => by
      obtain ⟨x, hx, rfl⟩ := List.mem_map.mp hd
      have q0 := i0s x
      have dx : ∀ S, dref S x.d = x.d := fun _ => rfl
      have e1 : ρ1 = [.bo (.lst (L.map Spn.d)), .val t, .val (.int s'), .val (.int u'), .val (.obj S.length), w5.1, w6.1, w7.1, .no, .val x.d] := by simpa using he.symm
      subst e1
      refine ⟨decide (x.s < s'), ?_, fun _ => ⟨x.d, ?_⟩⟩
      · generalize x.d = xd at *
        simp [dx, q0]
      · generalize x.d = xd at *
        simp [dx]) (K.map Spn.d).length 0 [] (by simp)
  rw [List.drop_zero, fl] at lo
  have hp : ((K.map Spn.d).filter fun d => match oIx d (.int 0) with | some (.int i) => decide (i < s') | _ => false) = (K.filter fun x => decide (x.s < s')).map Spn.d := by
    rw [List.filter_map]; rfl
  rw [hp, List.nil_append, List.map_id'] at lo
  have ll : oLen [.lst ((K.filter fun x => decide (x.s < s')).map Spn.d)] = some (.int (pls K s')) := by
    show some (D.int (((K.filter fun x => decide (x.s < s')).map Spn.d).length : Nat)) = _
    rw [List.length_map]; rfl
  have pl : pls K s' ≤ K.length := List.length_filter_le _ _
  have ins : uInsert (K.map Spn.d) [.int (pls K s' : Nat), .tup [.int s', .int u', t]] = some (.non, (K.take (pls K s') ++ [(⟨s', u', t⟩ : Spn)] ++ K.drop (pls K s')).map Spn.d) := by
    show cif ((K.map Spn.d).length < sizeLine ∧ (0 : Int) ≤ (pls K s' : Nat) ∧ ((pls K s' : Nat) : Int) < 2 ^ 63) (some (D.non, (K.map Spn.d).take (pls K s' : Int).toNat ++ [D.tup [.int s', .int u', t]] ++ (K.map Spn.d).drop (pls K s' : Int).toNat)) none = _
    rw [cif_pos ⟨by rw [List.length_map, line_eq]; omega, by omega, by omega⟩]
    rw [Int.toNat_natCast, ← List.map_take, ← List.map_drop, List.map_append, List.map_append]; rfl
  have ob : ∀ L : List D, obOf (.lst L) = some (.lst L) := fun _ => rfl
  have s1 : ∀ a b : Ob, (S ++ [a]).set S.length b = S ++ [b] := fun a b => by rw [List.set_append_right _ _ (by omega), Nat.sub_self]; rfl
  have wp : wipeR [.bo (.lst (L.map Spn.d)), .val t, .val (.int s'), .val (.int u'), .val (.obj S.length), w5.1, w6.1, w7.1, .no, .no] [9] = [.bo (.lst (L.map Spn.d)), .val t, .val (.int s'), .val (.int u'), .val (.obj S.length), w5.1, w6.1, w7.1, .no, .no] := rfl
  have e : forD (tgTup 3 (tgCons (tgName 5) (tgCons (tgName 6) (tgCons (tgName 7) tgNil)))) l0__joined (L.map Spn.d) [.bo (.lst (L.map Spn.d)), .val t, .val (.int s), .val (.int u), .val (.obj S.length), .no, .no, .no, .no, .no] (S ++ [.lst []]) = _ := e
  have dt := ht.2
  generalize (K.filter fun x => decide (x.s < s')).map Spn.d = KF at *
  generalize (K.take (pls K s') ++ [(⟨s', u', t⟩ : Spn)] ++ K.drop (pls K s')).map Spn.d = K2 at *
  generalize L.map Spn.d = LD at *
  generalize K.map Spn.d = KD at *
  simp [f__joined, b__joined, e0__joined, it, l0, l3, ob, e, sl, wp, lo, ll, sMut, ins, dt, s1]
abbrev Kt := List (Rq × Nat × List Spn)
def ktE (T : Kt) : List (List Key × D) := T.map fun x => (rqK x.1, D.obj x.2.1)
def fnd (T : Kt) (r : Rq) : Option (Rq × Nat × List Spn) := T.find? fun x => decide (x.1 = r)
def spl (T : Kt) (r : Rq) : List Spn := match fnd T r with
  | none => []
  | some x => x.2.2
def putT (T : Kt) (r : Rq) (j : Nat) (L : List Spn) : Kt := if (fnd T r).isSome = true then T.map (fun x => if x.1 = r then (r, j, L) else x) else T ++ [(r, j, L)]
abbrev knF (m : Nat) (w : Int) : List (Str × D) := [(("_spans" : Str), D.obj m), (("_newest" : Str), D.int w)]
abbrev knO (m : Nat) (w : Int) : Ob := .ins "Known" (knF m w)
structure KnR (S : Sto) (n m : Nat) (w : Int) (T : Kt) : Prop where
  i : S[n]? = some (knO m w)
  d : S[m]? = some (.dT (ktE T))
  v : ∀ x ∈ T, S[x.2.1]? = some (.lst (x.2.2.map Spn.d))
  ne : n ≠ m
  nv : ∀ x ∈ T, x.2.1 ≠ n ∧ x.2.1 ≠ m
  sz : T.length ≤ 100
  ok : ∀ x ∈ T, x.2.2.length ≤ 900 ∧ ∀ y ∈ x.2.2, okT y.t
theorem gK_kt (T : Kt) (r : Rq) : gK (ktE T) (rqK r) = (fnd T r).map fun x => D.obj x.2.1 := by
  unfold gK ktE fnd
  rw [List.find?_map, Option.map_map]
  have e : ((fun kv : List Key × D => decide (kv.1 = rqK r)) ∘ fun x : Rq × Nat × List Spn => (rqK x.1, D.obj x.2.1)) = fun x => decide (x.1 = r) := by
    funext x
    simp [rqK_inj]
  rw [e]; rfl
theorem fnd_memK {T : Kt} {r : Rq} {x : Rq × Nat × List Spn} (h : fnd T r = some x) : x ∈ T ∧ x.1 = r := ⟨List.mem_of_find?_eq_some h, by simpa using List.find?_some h⟩
theorem pK_kt (T : Kt) (r : Rq) (j : Nat) (L : List Spn) : pK (ktE T) (rqK r) (.obj j) = ktE (putT T r j L) := by
  unfold pK putT
  rw [gK_any, gK_kt]
  by_cases c : (fnd T r).isSome = true
  · rw [if_pos (by simpa using c), if_pos c]
    unfold ktE
    rw [List.map_map, List.map_map]
    refine List.map_congr_left fun x _ => ?_
    simp only [Function.comp, rqK_inj]
    by_cases e : x.1 = r <;> simp [e]
  · rw [if_neg (by simpa using c), if_neg c]
    unfold ktE
    rw [List.map_append]; rfl
theorem fnd_put (T : Kt) (r q : Rq) (j : Nat) (L : List Spn) : spl (putT T r j L) q = if q = r then L else spl T q := by
  unfold spl putT
  by_cases c : (fnd T r).isSome = true
  · rw [if_pos c]
    obtain ⟨x, hx⟩ := Option.isSome_iff_exists.mp c
    have e : fnd (T.map fun x => if x.1 = r then (r, j, L) else x) q = (fnd T q).map fun x => if x.1 = r then (r, j, L) else x := by
      unfold fnd
      rw [List.find?_map]
      congr 1
      congr 1
      funext y
      simp only [Function.comp]
      by_cases h : y.1 = r <;> simp [h]
    rw [e]
    by_cases h : q = r
    · subst h
      rw [if_pos rfl, hx]
      simp [(fnd_memK hx).2]
    · rw [if_neg h]
      cases hq : fnd T q with
      | none => rfl
      | some y =>
        have : ¬ y.1 = r := fun z => h ((fnd_memK hq).2.symm.trans z)
        simp [this]
  · rw [if_neg c]
    have hn : fnd T r = none := by simpa using c
    have e : fnd (T ++ [(r, j, L)]) q = (fnd T q).or (if r = q then some (r, j, L) else none) := by
      unfold fnd
      rw [List.find?_append]
      congr 1
      by_cases h : r = q <;> simp [h]
    rw [e]
    by_cases h : q = r
    · subst h
      rw [if_pos rfl, hn]; simp
    · rw [if_neg h, if_neg (fun z => h z.symm)]
      cases fnd T q <;> rfl
theorem put_mem {T : Kt} {r : Rq} {j : Nat} {L : List Spn} {x : Rq × Nat × List Spn} (h : x ∈ putT T r j L) : x ∈ T ∨ x = (r, j, L) := by
  unfold putT at h
  split at h
  · obtain ⟨y, hy, e⟩ := List.mem_map.mp h
    split at e
    · exact .inr e.symm
    · exact .inl (e ▸ hy)
  · rcases List.mem_append.mp h with h | h
    · exact .inl h
    · exact .inr (List.mem_singleton.mp h)
theorem put_len (T : Kt) (r : Rq) (j : Nat) (L : List Spn) : (putT T r j L).length ≤ T.length + 1 := by
  unfold putT
  split
  · rw [List.length_map]; omega
  · simp
theorem put_keys (T : Kt) (r : Rq) (j : Nat) (L : List Spn) : (putT T r j L).map (·.1) = if (fnd T r).isSome = true then T.map (·.1) else T.map (·.1) ++ [r] := by
  unfold putT
  split
  · rw [List.map_map]
    refine List.map_congr_left fun x _ => ?_
    simp only [Function.comp]
    split <;> simp_all
  · rw [List.map_append]; rfl
@[simp] theorem tb_s : (("Known" : Str) ∈ a__spans__Known) = True := eq_true List.mem_cons_self
@[simp] theorem tb_n : (("Known" : Str) ∈ a__newest__Known) = True := eq_true List.mem_cons_self
theorem lkf (m : Nat) (w : Int) : (knF m w).lookup ("_spans" : Str) = some (.obj m) ∧ (knF m w).lookup ("_newest" : Str) = some (.int w) ∧ (knF m w).lookup ("spans" : Str) = none ∧ (knF m w).lookup ("learn" : Str) = none ∧ (knF m w).lookup ("_span_at" : Str) = none ∧ (knF m w).lookup ("at" : Str) = none ∧ (knF m w).lookup ("span" : Str) = none ∧ (knF m w).lookup ("reads" : Str) = none ∧ (knF m w).lookup ("facts" : Str) = none ∧ (knF m w).lookup ("newest" : Str) = none ∧ (knF m w).lookup ("view" : Str) = none ∧ (knF m w).lookup ("duplicate" : Str) = none := ⟨rfl, rfl, rfl, rfl, rfl, rfl, rfl, rfl, rfl, rfl, rfl, rfl⟩
theorem kinit_gen (S : Sto) : f_Known___init__ [.obj S.length] (S ++ [.ins "Known" []]) = some (.ok .non, S ++ [knO (S.length + 1) (-1), .dT []]) := by
  have la : (S ++ [Ob.ins "Known" []]).length = S.length + 1 := by simp
  have at0 : stI (S ++ [Ob.ins "Known" [], .dT []]) S.length = some (("Known" : Str), ([] : List (Str × D))) := stI_at (by simp)
  have at1 : stI (S ++ [Ob.ins "Known" [(("_spans" : Str), .obj (S.length + 1))], .dT []]) S.length = some (("Known" : Str), [(("_spans" : Str), .obj (S.length + 1))]) := stI_at (by simp)
  have s2 : ∀ a b c : Ob, (S ++ [a, c]).set S.length b = S ++ [b, c] := fun a b c => by rw [List.set_append_right _ _ (by omega), Nat.sub_self]; rfl
  simp [f_Known___init__, b_Known___init__, sNewT, obOf, a__spans__Known, a__newest__Known, at0, at1, s2, putD, la]
section
variable {S : Sto} {n m : Nat} {w : Int} {T : Kt}
theorem KnR.at (h : KnR S n m w T) : stI S n = some (("Known" : Str), knF m w) := stI_at h.i
theorem KnR.spl_ok (h : KnR S n m w T) (r : Rq) : (spl T r).length ≤ 900 ∧ ∀ y ∈ spl T r, okT y.t := by
  unfold spl
  cases e : fnd T r with
  | none => simp
  | some x => exact h.ok x (fnd_memK e).1
theorem newest_kn (h : KnR S n m w T) : f_Known_newest [.obj n] S = some (.ok (.int w), S) := by
  have f := h.at
  have l := lkf m w
  generalize knF m w = F at *
  simp [f_Known_newest, b_Known_newest, f, l]
theorem spans_kn (h : KnR S n m w T) (r : Rq) : f_Known_spans [.obj n, r.d] S = some (.ok (.lst ((spl T r).map Spn.d)), S) := by
  have f := h.at
  have l := lkf m w
  have t := dref_dT h.d
  have k := ky_rq r
  have dq := fun S => dref_rq S r
  have g : oTGet2 (.dT (ktE T)) r.d (.lst []) = some (match fnd T r with | none => .lst [] | some x => .obj x.2.1) := by
    show (kyT r.d).map (fun k => (gK (ktE T) k).getD (D.lst [])) = _
    rw [k, Option.map_some, gK_kt]
    cases fnd T r <;> rfl
  have l0 : (0 : Nat) ≤ sizeLine := by decide
  have ol : ∀ l : List D, oList [.lst l] = some (.lst l) := fun _ => rfl
  have di : isDt (.dT (ktE T)) = true := rfl
  unfold spl
  cases e : fnd T r with
  | none =>
    rw [e] at g
    simp only [] at g
    generalize r.d = R at *
    generalize ktE T = E at *
    generalize knF m w = F at *
    simp [f_Known_spans, b_Known_spans, f, l, t, di, g, dq, ol, l0]
  | some x =>
    rw [e] at g
    simp only [] at g
    have dx := dref_at (h.v x (fnd_memK e).1)
    generalize r.d = R at *
    generalize ktE T = E at *
    generalize knF m w = F at *
    generalize x.2.2.map Spn.d = L at *
    simp [f_Known_spans, b_Known_spans, f, l, t, di, g, dq, ol, l0, dx]
def hold (L : List Spn) (v : Int) : Option Spn := L.find? fun x => decide (x.s ≤ v ∧ v ≤ x.u)
def hD : Option Spn → D
  | none => .non
  | some x => x.d
theorem l0at {S : Sto} {s0 s1 : Sl} {v : Int} : ∀ (L : List Spn) (v3 : U), match hold L v with
    | none => ∃ w3 : U, forD (tgName 3) l0_Known__span_at (L.map Spn.d) [s0, s1, .bo (.int v), v3.1] S = some (.nx [s0, s1, .bo (.int v), w3.1], S)
    | some x => forD (tgName 3) l0_Known__span_at (L.map Spn.d) [s0, s1, .bo (.int v), v3.1] S = some (.ret x.d, S)
  | [], v3 => ⟨v3, by simp⟩
  | x :: L, v3 => by
    have q0 := i0s x
    have q1 := i1s x
    have dx : ∀ S, dref S x.d = x.d := fun _ => rfl
    unfold hold
    rw [List.find?_cons]
    by_cases c : x.s ≤ v ∧ v ≤ x.u
    · rw [decide_eq_true c]
      simp only []
      refine for1r (by simp [v3.2]) ?_
      obtain ⟨c1, c2⟩ := c
      generalize x.d = xd at *
      simp [l0_Known__span_at, sChain, q0, q1, dx, c1, c2]
    · rw [decide_eq_false c]
      simp only []
      have stp : forD (tgName 3) l0_Known__span_at ((x :: L).map Spn.d) [s0, s1, .bo (.int v), v3.1] S = forD (tgName 3) l0_Known__span_at (L.map Spn.d) [s0, s1, .bo (.int v), .val x.d] S := by
        rw [List.map_cons]
        refine for1 (by simp [v3.2]) ?_
        by_cases c1 : x.s ≤ v
        · have c2 : ¬ v ≤ x.u := fun h => c ⟨c1, h⟩
          generalize x.d = xd at *
          simp [l0_Known__span_at, sChain, q0, q1, dx, c1, c2]
        · generalize x.d = xd at *
          simp [l0_Known__span_at, sChain, q0, q1, dx, c1]
      have ih := l0at (S := S) (s0 := s0) (s1 := s1) (v := v) L ⟨.val x.d, rfl⟩
      unfold hold at ih
      cases e : L.find? fun x => decide (x.s ≤ v ∧ v ≤ x.u) with
      | none => rw [e] at ih; obtain ⟨w3, ih⟩ := ih; exact ⟨w3, stp.trans ih⟩
      | some y => rw [e] at ih; exact stp.trans ih
theorem spanat_kn (h : KnR S n m w T) (r : Rq) (v : Int) : f_Known__span_at [.obj n, r.d, .int v] S = some (.ok (hD (hold (spl T r) v)), S) := by
  have f := h.at
  have l := lkf m w
  have sp := spans_kn h r
  have dq := fun S => dref_rq S r
  have lp := l0at (S := S) (s0 := .val (.obj n)) (s1 := .val r.d) (v := v) (spl T r) uN
  have it : ∀ l : List D, dItems (.lst l) = some l := fun _ => rfl
  cases e : hold (spl T r) v with
  | none =>
    rw [e] at lp
    obtain ⟨w3, lp⟩ := lp
    have lp : forD _ _ _ [.val (.obj n), .val r.d, .bo (.int v), .no] S = _ := lp
    generalize (spl T r).map Spn.d = L at *
    generalize r.d = R at *
    generalize knF m w = F at *
    simp [f_Known__span_at, b_Known__span_at, f, l, d_Known_spans, sp, dq, it, lp, hD]
  | some x =>
    rw [e] at lp
    simp only [] at lp
    have lp : forD _ _ _ [.val (.obj n), .val r.d, .bo (.int v), .no] S = _ := lp
    simp only [hD]
    generalize (spl T r).map Spn.d = L at *
    generalize x.d = X at *
    generalize r.d = R at *
    generalize knF m w = F at *
    simp [f_Known__span_at, b_Known__span_at, f, l, d_Known_spans, sp, dq, it, lp]
theorem at_knK (h : KnR S n m w T) (r : Rq) (v : Int) : f_Known_at [.obj n, r.d, .int v] S = some (.ok (match hold (spl T r) v with | none => .non | some x => x.t), S) := by
  have f := h.at
  have l := lkf m w
  have sp := spanat_kn h r v
  have dq := fun S => dref_rq S r
  cases e : hold (spl T r) v with
  | none =>
    rw [e] at sp
    simp only [hD] at sp
    generalize r.d = R at *
    generalize knF m w = F at *
    simp [f_Known_at, b_Known_at, e0_Known_at, f, l, d_Known__span_at, sp, dq]
  | some x =>
    rw [e] at sp
    simp only [hD] at sp
    have q2 := i2s x
    have dx : ∀ S, dref S x.d = x.d := fun _ => rfl
    have nx : DL.isN x.d = false := rfl
    simp only []
    generalize x.d = X at *
    generalize r.d = R at *
    generalize knF m w = F at *
    simp [f_Known_at, b_Known_at, e0_Known_at, f, l, d_Known__span_at, sp, dq, dx, nx, q2]
def runL (t : D) (s u : Int) : List Spn → Option Bool
  | [] => some true
  | x :: L => if x.s ≤ u ∧ s ≤ x.u ∧ eqD x.t t = false then none else if x.s ≤ s ∧ u ≤ x.u then some false else runL t s u L
def unX : Xc := ⟨"UnlikeFacts", none⟩
theorem l0learn {S : Sto} {s0 s1 s2 : Sl} {t : D} {s u : Int} (ht : okT t) : ∀ (L : List Spn) (v6 v7 v8 : U), (∀ x ∈ L, okT x.t) → match runL t s u L with
    | some true => ∃ w6 w7 w8 : U, forD (tgTup 3 (tgCons (tgName 6) (tgCons (tgName 7) (tgCons (tgName 8) tgNil)))) l0_Known_learn (L.map Spn.d) [s0, s1, s2, .val t, .val (.int s), .val (.int u), v6.1, v7.1, v8.1] S = some (.nx [s0, s1, s2, .val t, .val (.int s), .val (.int u), w6.1, w7.1, w8.1], S)
    | some false => forD (tgTup 3 (tgCons (tgName 6) (tgCons (tgName 7) (tgCons (tgName 8) tgNil)))) l0_Known_learn (L.map Spn.d) [s0, s1, s2, .val t, .val (.int s), .val (.int u), v6.1, v7.1, v8.1] S = some (.ret (.bl false), S)
    | none => ∃ ρ, forD (tgTup 3 (tgCons (tgName 6) (tgCons (tgName 7) (tgCons (tgName 8) tgNil)))) l0_Known_learn (L.map Spn.d) [s0, s1, s2, .val t, .val (.int s), .val (.int u), v6.1, v7.1, v8.1] S = some (.exc ρ unX, S)
  | [], v6, v7, v8, _ => ⟨v6, v7, v8, by simp⟩
  | x :: L, v6, v7, v8, hL => by
    have ox := hL x (by simp)
    have tg : (tgTup 3 (tgCons (tgName 6) (tgCons (tgName 7) (tgCons (tgName 8) tgNil)))) x.d [s0, s1, s2, .val t, .val (.int s), .val (.int u), v6.1, v7.1, v8.1] = some [s0, s1, s2, .val t, .val (.int s), .val (.int u), .val (.int x.s), .val (.int x.u), .val x.t] := by
      simp [tgTup, tgCons, tgNil, Spn.d, v6.2, v7.2, v8.2]
    have e1 := okT_ne ox ht
    have dt := ht.2
    have dx := ox.2
    rw [List.map_cons]
    have T1 : sAnd (sBl (sBin oLe (sVarB 6) (sVarB 5))) (sAnd (sBl (sBin oLe (sVarB 4) (sVarB 7))) (sBl (sBin dNe (sVarB 8) (sVarB 3)))) [s0, s1, s2, .val t, .val (.int s), .val (.int u), .val (.int x.s), .val (.int x.u), .val x.t] S = some (.ok (decide (x.s ≤ u ∧ s ≤ x.u ∧ eqD x.t t = false)), S) := by
      generalize x.t = xt at *
      by_cases c1 : x.s ≤ u
      · by_cases c2 : s ≤ x.u
        · cases c3 : eqD xt t <;> rw [c3] at e1 <;> simp [dt, dx, e1, c1, c2]
        · simp [c1, c2]
      · simp [c1]
    have T2 : sAnd (sBl (sBin oLe (sVarB 6) (sVarB 4))) (sBl (sBin oLe (sVarB 5) (sVarB 7))) [s0, s1, s2, .val t, .val (.int s), .val (.int u), .val (.int x.s), .val (.int x.u), .val x.t] S = some (.ok (decide (x.s ≤ s ∧ u ≤ x.u)), S) := by
      by_cases c1 : x.s ≤ s
      · by_cases c2 : u ≤ x.u <;> simp [c1, c2]
      · simp [c1]
    unfold runL
    by_cases c : x.s ≤ u ∧ s ≤ x.u ∧ eqD x.t t = false
    · rw [if_pos c]
      rw [decide_eq_true c] at T1
      refine ⟨[s0, s1, s2, .val t, .val (.int s), .val (.int u), .val (.int x.s), .val (.int x.u), .val x.t], ?_⟩
      rw [forD_c, tg]
      have e : l0_Known_learn [s0, s1, s2, .val t, .val (.int s), .val (.int u), .val (.int x.s), .val (.int x.u), .val x.t] S = some (.exc [s0, s1, s2, .val t, .val (.int s), .val (.int u), .val (.int x.s), .val (.int x.u), .val x.t] unX, S) := by
        unfold l0_Known_learn
        simp [T1, unX, -sAnd_e]
      simp only [e]
    · rw [if_neg c]
      rw [decide_eq_false c] at T1
      by_cases c2 : x.s ≤ s ∧ u ≤ x.u
      · rw [if_pos c2]
        rw [decide_eq_true c2] at T2
        refine forTr tg ?_
        unfold l0_Known_learn
        simp [T1, T2, -sAnd_e]
      · rw [if_neg c2]
        rw [decide_eq_false c2] at T2
        have stp : forD (tgTup 3 (tgCons (tgName 6) (tgCons (tgName 7) (tgCons (tgName 8) tgNil)))) l0_Known_learn (x.d :: L.map Spn.d) [s0, s1, s2, .val t, .val (.int s), .val (.int u), v6.1, v7.1, v8.1] S = forD (tgTup 3 (tgCons (tgName 6) (tgCons (tgName 7) (tgCons (tgName 8) tgNil)))) l0_Known_learn (L.map Spn.d) [s0, s1, s2, .val t, .val (.int s), .val (.int u), .val (.int x.s), .val (.int x.u), .val x.t] S := by
          refine forT tg ?_
          unfold l0_Known_learn
          simp [T1, T2, -sAnd_e]
        have ih := l0learn (S := S) (s0 := s0) (s1 := s1) (s2 := s2) (s := s) (u := u) ht L ⟨.val (.int x.s), rfl⟩ ⟨.val (.int x.u), rfl⟩ ⟨.val x.t, rfl⟩ (fun y h => hL y (List.mem_cons_of_mem _ h))
        cases e : runL t s u L with
        | none => rw [e] at ih; obtain ⟨ρ, ih⟩ := ih; exact ⟨ρ, stp.trans ih⟩
        | some b =>
          rw [e] at ih
          cases b with
          | true => obtain ⟨w6, w7, w8, ih⟩ := ih; exact ⟨w6, w7, w8, stp.trans ih⟩
          | false => exact stp.trans ih
end
section
variable {S : Sto} {n m : Nat} {w : Int} {T : Kt}
def lrJ (T : Kt) (F : Fc) : List Spn := jnd F.t.d (spl T F.r) F.s F.u
def lrT (S : Sto) (T : Kt) (F : Fc) : Kt := putT T F.r S.length (lrJ T F)
def lrS (S : Sto) (n m : Nat) (w : Int) (T : Kt) (F : Fc) : Sto := ((S ++ [Ob.lst ((lrJ T F).map Spn.d)]).set m (.dT (ktE (lrT S T F)))).set n (knO m (max w F.u))
theorem KnR.lt (h : KnR S n m w T) : n < S.length ∧ m < S.length ∧ ∀ x ∈ T, x.2.1 < S.length := ⟨(List.getElem?_eq_some_iff.mp h.i).1, (List.getElem?_eq_some_iff.mp h.d).1, fun x hx => (List.getElem?_eq_some_iff.mp (h.v x hx)).1⟩
theorem jnd_len (t : D) (L : List Spn) (s u : Int) : (jnd t L s u).length ≤ L.length + 1 := by
  have := jnL_len t L s u []
  unfold jnd
  simp only [List.length_append, List.length_take, List.length_drop, List.length_singleton]
  simp only [List.length_nil, Nat.zero_add] at this
  omega
theorem jnd_ok {t : D} {L : List Spn} (ht : okT t) (hL : ∀ x ∈ L, okT x.t) (s u : Int) : ∀ x ∈ jnd t L s u, okT x.t := by
  have h := jnL_ok t L s u [] hL (by simp)
  unfold jnd
  intro x hx
  rcases List.mem_append.mp hx with hx | hx
  · rcases List.mem_append.mp hx with hx | hx
    · exact h x (List.mem_of_mem_take hx)
    · rw [List.mem_singleton.mp hx]; exact ht
  · exact h x (List.mem_of_mem_drop hx)
theorem lrS_get (h : KnR S n m w T) (F : Fc) (i : Nat) (hi : i < S.length) (h1 : i ≠ n) (h2 : i ≠ m) : (lrS S n m w T F)[i]? = S[i]? := by
  unfold lrS
  rw [List.getElem?_set_ne (Ne.symm h1), List.getElem?_set_ne (Ne.symm h2), List.getElem?_append_left hi]
theorem lrS_len (F : Fc) : (lrS S n m w T F).length = S.length + 1 := by unfold lrS; simp
theorem lrS_kn (h : KnR S n m w T) {F : Fc} (ht : okT F.t.d) (hT : T.length < 100) (hl : (spl T F.r).length < 900) : KnR (lrS S n m w T F) n m (max w F.u) (lrT S T F) := by
  obtain ⟨l1, l2, l3⟩ := h.lt
  refine ⟨?_, ?_, fun x hx => ?_, h.ne, fun x hx => ?_, ?_, fun x hx => ?_⟩
  · unfold lrS; rw [List.getElem?_set_self (by simp; omega)]
  · unfold lrS; rw [List.getElem?_set_ne h.ne, List.getElem?_set_self (by simp; omega)]
  · rcases put_mem hx with hx | hx
    · rw [lrS_get h F _ (l3 x hx) (h.nv x hx).1 (h.nv x hx).2]; exact h.v x hx
    · subst hx
      unfold lrS
      rw [List.getElem?_set_ne (by simp; omega), List.getElem?_set_ne (by simp; omega)]
      simp
  · rcases put_mem hx with hx | hx
    · exact h.nv x hx
    · subst hx; exact ⟨by simp; omega, by simp; omega⟩
  · have := put_len T F.r S.length (lrJ T F); unfold lrT; omega
  · rcases put_mem hx with hx | hx
    · exact h.ok x hx
    · subst hx
      have := jnd_len F.t.d (spl T F.r) F.s F.u
      exact ⟨by show (jnd _ _ _ _).length ≤ 900; omega, jnd_ok ht (h.spl_ok F.r).2 _ _⟩
theorem KnR.other {n2 m2 : Nat} {w2 : Int} {T2 : Kt} {S' : Sto} (h : KnR S n2 m2 w2 T2) (hS : ∀ i, i < S.length → i ≠ n → i ≠ m → S'[i]? = S[i]?) (h1 : n2 ≠ n ∧ n2 ≠ m) (h2 : m2 ≠ n ∧ m2 ≠ m) (h3 : ∀ x ∈ T2, x.2.1 ≠ n ∧ x.2.1 ≠ m) : KnR S' n2 m2 w2 T2 := by
  obtain ⟨l1, l2, l3⟩ := h.lt
  exact ⟨by rw [hS _ l1 h1.1 h1.2]; exact h.i, by rw [hS _ l2 h2.1 h2.2]; exact h.d, fun x hx => by rw [hS _ (l3 x hx) (h3 x hx).1 (h3 x hx).2]; exact h.v x hx, h.ne, h.nv, h.sz, h.ok⟩
theorem learn_kn (h : KnR S n m w T) {F : Fc} (hF : F.ok) (hw : why F = none) (ht : okT F.t.d) : match runL F.t.d F.s F.u (spl T F.r) with
    | none => f_Known_learn [.obj n, F.d] S = some (.error unX, S)
    | some false => f_Known_learn [.obj n, F.d] S = some (.ok (.bl false), S)
    | some true => f_Known_learn [.obj n, F.d] S = some (.ok (.bl true), lrS S n m w T F) := by
  obtain ⟨l1, l2, l3⟩ := h.lt
  have ck := fun S => chk_eq hF S
  rw [hw] at ck
  simp only [] at ck
  have tp : ∀ u ρ, tgTup 4 u F.d ρ = u [F.r.d, F.t.d, .int F.s, .int F.u] ρ := fun _ _ => rfl
  have sp := spans_kn h F.r
  have f := h.at
  have l := lkf m w
  have k := ky_rq F.r
  have dr := fun S => dref_rq S F.r
  have dt := ht.2
  have dF : ∀ S, dref S F.d = F.d := fun _ => rfl
  have it : ∀ l : List D, dItems (.lst l) = some l := fun _ => rfl
  have lp := l0learn (S := S) (s0 := .val (.obj n)) (s1 := .val F.d) (s2 := .val F.r.d) (s := F.s) (u := F.u) ht (spl T F.r) uN uN uN (h.spl_ok F.r).2
  cases e : runL F.t.d F.s F.u (spl T F.r) with
  | none =>
    rw [e] at lp
    obtain ⟨ρ, lp⟩ := lp
    have lp : forD _ _ _ [.val (.obj n), .val F.d, .val F.r.d, .val F.t.d, .val (.int F.s), .val (.int F.u), .no, .no, .no] S = _ := lp
    generalize (spl T F.r).map Spn.d = L at *
    generalize F.r.d = RD at *
    generalize F.t.d = TD at *
    generalize F.d = FD at *
    generalize knF m w = KF at *
    simp [f_Known_learn, b_Known_learn, d_check_fact, ck, tp, f, l, d_Known_spans, sp, dr, it, lp]
  | some b =>
    cases b with
    | false =>
      rw [e] at lp
      simp only [] at lp
      have lp : forD _ _ _ [.val (.obj n), .val F.d, .val F.r.d, .val F.t.d, .val (.int F.s), .val (.int F.u), .no, .no, .no] S = _ := lp
      generalize (spl T F.r).map Spn.d = L at *
      generalize F.r.d = RD at *
      generalize F.t.d = TD at *
      generalize F.d = FD at *
      generalize knF m w = KF at *
      simp [f_Known_learn, b_Known_learn, d_check_fact, ck, tp, f, l, d_Known_spans, sp, dr, it, lp]
    | true =>
      rw [e] at lp
      obtain ⟨w6, w7, w8, lp⟩ := lp
      have lp : forD _ _ _ [.val (.obj n), .val F.d, .val F.r.d, .val F.t.d, .val (.int F.s), .val (.int F.u), .no, .no, .no] S = _ := lp
      have jo := joined_gen (t := F.t.d) (L := spl T F.r) ht (h.spl_ok F.r).2 (by have := (h.spl_ok F.r).1; omega) F.s F.u S
      have lJ : jnd F.t.d (spl T F.r) F.s F.u = lrJ T F := rfl
      rw [lJ] at jo
      simp only []
      have f1 : stI (S ++ [Ob.lst ((lrJ T F).map Spn.d)]) n = some (("Known" : Str), knF m w) := stI_at (by rw [List.getElem?_append_left l1]; exact h.i)
      have st1 : stT (S ++ [Ob.lst ((lrJ T F).map Spn.d)]) m = some (ktE T) := stT_at (by rw [List.getElem?_append_left l2]; exact h.d)
      have pk : pK (ktE T) (rqK F.r) (.obj S.length) = ktE (lrT S T F) := pK_kt T F.r S.length (lrJ T F)
      have hz : (ktE T).length < sizeLine := by unfold ktE; rw [List.length_map, line_eq]; have := h.sz; omega
      have f2 : stI ((S ++ [Ob.lst ((lrJ T F).map Spn.d)]).set m (.dT (ktE (lrT S T F)))) n = some (("Known" : Str), knF m w) := stI_at (by rw [List.getElem?_set_ne (Ne.symm h.ne), List.getElem?_append_left l1]; exact h.i)
      have mx := mx2 w F.u
      have pt : putD ("_newest" : Str) (.int (max w F.u)) (knF m w) = knF m (max w F.u) := by simp [putD]
      have kl : (knF m w).length = 2 := rfl
      have fin : ((S ++ [Ob.lst ((lrJ T F).map Spn.d)]).set m (.dT (ktE (lrT S T F)))).set n (.ins ("Known" : Str) (knF m (max w F.u))) = lrS S n m w T F := rfl
      generalize lrS S n m w T F = S9 at *
      generalize (lrJ T F).map Spn.d = J at *
      generalize (spl T F.r).map Spn.d = L at *
      generalize ktE (lrT S T F) = E2 at *
      generalize ktE T = E1 at *
      generalize F.r.d = RD at *
      generalize F.t.d = TD at *
      generalize F.d = FD at *
      generalize knF m (max w F.u) = KF2 at *
      generalize knF m w = KF at *
      generalize rqK F.r = RK at *
      simp [f_Known_learn, b_Known_learn, d_check_fact, ck, tp, f, l, d_Known_spans, sp, dr, dt, it, lp, d__joined, jo, f1, st1, k, hz, pk, f2, mx, pt, kl, fin]
def rowF (r : Rq) (x : Spn) : D := .tup [r.d, x.t, .int x.s, .int x.u]
theorem lcJ_kn {S : Sto} {j : Nat} {L : List Spn} {r : Rq} {s0 : Sl} (hj : S[j]? = some (.lst (L.map Spn.d))) (hL : ∀ x ∈ L, ∀ S, dref S x.t = x.t) (hl : L.length ≤ 1000) : ∀ (k i : Nat) (out : List D), L.length < i + k → i ≤ L.length → out.length + (L.length - i) ≤ 1000000 →
    lcJ j (tgTup 3 (tgCons (tgName 2) (tgCons (tgName 3) (tgCons (tgName 4) tgNil)))) (sTup (sCons (sVar 1) (sCons (sVar 4) (sCons (sVar 2) (sCons (sVar 3) sNil))))) [s0, .val r.d, .no, .no, .no] k i out S = some (.ok (out ++ (L.drop i).map (rowF r)), S)
  | 0, i, out, h, hi, _ => by omega
  | k + 1, i, out, h, hi, ho => by
    have sl := stL_at hj
    have dr : ∀ S, dref S r.d = r.d := fun S => dref_rq S r
    have l4 : (4 : Nat) ≤ sizeLine := by decide
    unfold lcJ
    simp only [sl, List.getElem?_map]
    by_cases c : i < L.length
    · rw [List.getElem?_eq_getElem c]
      have hx := hL L[i] (List.getElem_mem c)
      simp only [Option.map_some]
      have tg : (tgTup 3 (tgCons (tgName 2) (tgCons (tgName 3) (tgCons (tgName 4) tgNil)))) (L[i]).d [s0, .val r.d, .no, .no, .no] = some [s0, .val r.d, .val (.int (L[i]).s), .val (.int (L[i]).u), .val (L[i]).t] := by
        simp [tgTup, tgCons, tgNil, Spn.d]
      simp only [tg]
      have ev : (sTup (sCons (sVar 1) (sCons (sVar 4) (sCons (sVar 2) (sCons (sVar 3) sNil))))) [s0, .val r.d, .val (.int (L[i]).s), .val (.int (L[i]).u), .val (L[i]).t] S = some (.ok (rowF r L[i]), S) := by
        show _ = some (Except.ok (D.tup [r.d, (L[i]).t, .int (L[i]).s, .int (L[i]).u]), S)
        generalize (L[i]).t = xt at *
        generalize r.d = R at *
        simp [dr, hx, l4]
      have ih := lcJ_kn (r := r) (s0 := s0) hj hL hl k (i + 1) (out ++ [rowF r L[i]]) (by omega) (by omega)
      have hz : out.length < sizeLine := by rw [line_eq]; omega
      unfold mb mq
      simp only [ev, if_pos hz]
      rw [List.drop_eq_getElem_cons c, List.map_cons]
      rw [ih (by rw [List.length_append, List.length_singleton]; omega), List.append_assoc]; rfl
    · rw [List.getElem?_eq_none (by omega), List.drop_eq_nil_of_le (by omega)]
      simp
theorem lcP_kn (h : KnR S n m w T) : ∀ (R : List Rq) (out : List D), (∀ r ∈ R, (fnd T r).isSome = true) → out.length + 900 * R.length ≤ 1000000 →
    lcP (tgName 1) (sTIx (eFld a__spans__Known "_spans" (sVar 0)) (sVar 1)) [2, 3, 4] (tgTup 3 (tgCons (tgName 2) (tgCons (tgName 3) (tgCons (tgName 4) tgNil)))) (sTup (sCons (sVar 1) (sCons (sVar 4) (sCons (sVar 2) (sCons (sVar 3) sNil))))) [.val (.obj n), .no, .no, .no, .no] out (R.map Rq.d) S =
      some (.ok (.lst (out ++ R.flatMap fun r => (spl T r).map (rowF r))), S)
  | [], out, _, _ => by simp [lcP]
  | r :: R, out, hR, hb => by
    have f := h.at
    have l := lkf m w
    have dr : ∀ S, dref S r.d = r.d := fun S => dref_rq S r
    obtain ⟨x, hx⟩ := Option.isSome_iff_exists.mp (hR r (by simp))
    obtain ⟨xm, xr⟩ := fnd_memK hx
    have sx : spl T r = x.2.2 := by unfold spl; rw [hx]
    have t := dref_dT h.d
    have g : oTIx (.dT (ktE T)) r.d = some (.obj x.2.1) := by
      show (kyT r.d).bind (gK (ktE T)) = _
      rw [ky_rq, Option.bind_some, gK_kt, hx]; rfl
    have ev : (sTIx (eFld a__spans__Known "_spans" (sVar 0)) (sVar 1)) [.val (.obj n), .val r.d, .no, .no, .no] S = some (.ok (.obj x.2.1), S) := by
      generalize r.d = RD at *
      generalize ktE T = E at *
      generalize knF m w = KF at *
      simp [f, l, t, g, dr]
    have lx := h.v x xm
    have ok := h.ok x xm
    have lj := lcJ_kn (r := r) (s0 := .val (.obj n)) lx (fun y hy => (ok.2 y hy).2) (by omega) ((x.2.2.map Spn.d).length + 1) 0 out (by simp) (by omega) (by rw [List.length_cons] at hb; omega)
    rw [List.map_cons, lcP, List.flatMap_cons, sx]
    have tg : tgName 1 r.d [.val (.obj n), .no, .no, .no, .no] = some [.val (.obj n), .val r.d, .no, .no, .no] := by simp
    simp only [tg]
    unfold mb mq
    have ao : asObj (.obj x.2.1) = some x.2.1 := rfl
    simp only [ev, ao, stL_at lx]
    have wp : wipeR [.val (.obj n), .val r.d, .no, .no, .no] [2, 3, 4] = [.val (.obj n), .val r.d, .no, .no, .no] := rfl
    rw [wp, lj, List.drop_zero]
    simp only []
    rw [lcP_kn h R _ (fun q hq => hR q (List.mem_cons_of_mem _ hq)) (by rw [List.length_append, List.length_map]; rw [List.length_cons] at hb; omega), List.append_assoc]
theorem facts_kn (h : KnR S n m w T) {R : List Rq} (hR : oSortT [.dT (ktE T)] = some (.lst (R.map Rq.d))) (hin : ∀ r ∈ R, (fnd T r).isSome = true) (hl : R.length ≤ 100) : f_Known_facts [.obj n] S = some (.ok (.lst (R.flatMap fun r => (spl T r).map (rowF r))), S) ∧ f_Known_reads [.obj n] S = some (.ok (.lst (R.map Rq.d)), S) := by
  have f := h.at
  have l := lkf m w
  have t := dref_dT h.d
  have lp := lcP_kn h R [] hin (by simp; omega)
  have rd : f_Known_reads [.obj n] S = some (.ok (.lst (R.map Rq.d)), S) := by
    generalize ktE T = E at *
    generalize knF m w = KF at *
    simp [f_Known_reads, b_Known_reads, f, l, t, hR]
  refine ⟨?_, rd⟩
  have it : ∀ l : List D, dItems (.lst l) = some l := fun _ => rfl
  have wp : wipeR [.val (.obj n), .no, .no, .no, .no] [1, 2, 3, 4] = [.val (.obj n), .no, .no, .no, .no] := rfl
  rw [List.nil_append] at lp
  generalize (R.flatMap fun r => (spl T r).map (rowF r)) = OUT at *
  generalize R.map Rq.d = RD at *
  generalize knF m w = KF at *
  simp [f_Known_facts, b_Known_facts, e0_Known_facts, f, l, d_Known_reads, rd, it, wp, lp, -sTIx_e]
end
section
variable {h : Int → D}
def Aft (x y : Spn) : Prop := x.u < y.s ∧ (x.t = y.t → x.u + 1 < y.s)
def Gd (h : Int → D) (x : Spn) : Prop := x.s ≤ x.u ∧ ∀ v, x.s ≤ v → v ≤ x.u → x.t = h v
structure Can (h : Int → D) (L : List Spn) : Prop where
  srt : L.Pairwise Aft
  val : ∀ x ∈ L, Gd h x
def cov (L : List Spn) (v : Int) : Prop := ∃ x ∈ L, x.s ≤ v ∧ v ≤ x.u
theorem Can.tail {x : Spn} {L : List Spn} (c : Can h (x :: L)) : Can h L := ⟨(List.pairwise_cons.mp c.srt).2, fun y hy => c.val y (List.mem_cons_of_mem _ hy)⟩
theorem Can.aft {x : Spn} {L : List Spn} (c : Can h (x :: L)) {y : Spn} (hy : y ∈ L) : Aft x y := (List.pairwise_cons.mp c.srt).1 y hy
theorem cov_tail {x : Spn} {L : List Spn} (c : Can h (x :: L)) (v : Int) : cov L v ↔ cov (x :: L) v ∧ x.u < v := by
  constructor
  · rintro ⟨y, hy, h1, h2⟩
    have := (c.aft hy).1
    exact ⟨⟨y, List.mem_cons_of_mem _ hy, h1, h2⟩, by omega⟩
  · rintro ⟨⟨y, hy, h1, h2⟩, h3⟩
    rcases List.mem_cons.mp hy with rfl | hy
    · omega
    · exact ⟨y, hy, h1, h2⟩
theorem can_one : ∀ {L M : List Spn}, Can h L → Can h M → (∀ v, cov L v ↔ cov M v) → L = M
  | [], [], _, _, _ => rfl
  | [], y :: M, _, c, e => by
    have g := c.val y (by simp)
    obtain ⟨x, hx, _⟩ := (e y.s).mpr ⟨y, by simp, by omega, g.1⟩
    cases hx
  | x :: L, [], c, _, e => by
    have g := c.val x (by simp)
    obtain ⟨y, hy, _⟩ := (e x.s).mp ⟨x, by simp, by omega, g.1⟩
    cases hy
  | x :: L, y :: M, c, d, e => by
    have gx := c.val x (by simp)
    have gy := d.val y (by simp)
    have gx1 := gx.1
    have gy1 := gy.1
    have lo : ∀ {z : Spn} {N : List Spn} (c : Can h (z :: N)) {v : Int}, cov (z :: N) v → z.s ≤ v := fun {z N} c {v} ⟨w, hw, h1, _⟩ => by
      rcases List.mem_cons.mp hw with rfl | hw
      · exact h1
      · have := (c.aft hw).1
        have := (c.val z (by simp)).1
        omega
    have s1 : y.s ≤ x.s := lo d ((e x.s).mp ⟨x, by simp, by omega, gx.1⟩)
    have s2 : x.s ≤ y.s := lo c ((e y.s).mpr ⟨y, by simp, by omega, gy.1⟩)
    have se : x.s = y.s := by omega
    have te : x.t = y.t := by rw [gx.2 x.s (by omega) gx.1, gy.2 x.s (by omega) (by omega)]
    have up : ∀ {a b : Spn} {A B : List Spn} (c : Can h (a :: A)) (d : Can h (b :: B)), (∀ v, cov (b :: B) v → cov (a :: A) v) → a.s = b.s → a.t = b.t → b.u ≤ a.u := fun {a b A B} c d e se te => by
      by_cases hh : a.u < b.u
      · have ga := c.val a (by simp)
        have gb := d.val b (by simp)
        have ga1 := ga.1
        have gb1 := gb.1
        obtain ⟨z, hz, h1, h2⟩ := e (a.u + 1) ⟨b, by simp, by omega, by omega⟩
        rcases List.mem_cons.mp hz with rfl | hz
        · omega
        · have az := c.aft hz
          have gz := c.val z (List.mem_cons_of_mem _ hz)
          have zs : z.s = a.u + 1 := by have := az.1; omega
          have tz : z.t = h (a.u + 1) := gz.2 _ (by omega) h2
          have tb : b.t = h (a.u + 1) := gb.2 _ (by omega) (by omega)
          have := az.2 (by rw [te, tb, tz])
          omega
      · omega
    have u1 := up c d (fun v => (e v).mpr) se te
    have u2 := up d c (fun v => (e v).mp) se.symm te.symm
    have xe : x = y := by
      obtain ⟨a, b, t⟩ := x
      obtain ⟨a', b', t'⟩ := y
      simp only at *
      have : b = b' := by omega
      subst this; subst se; subst te; rfl
    subst xe
    rw [can_one c.tail d.tail fun v => by rw [cov_tail c, cov_tail d, e v]]
theorem can_held {L : List Spn} (c : Can h L) {s u : Int} (su : s ≤ u) (hh : ∀ v, s ≤ v → v ≤ u → h v = h s) (hc : ∀ v, s ≤ v → v ≤ u → cov L v) : ∃ x ∈ L, x.s ≤ s ∧ u ≤ x.u := by
  obtain ⟨x, hx, h1, h2⟩ := hc s (by omega) su
  refine ⟨x, hx, h1, ?_⟩
  by_cases hu : x.u < u
  · obtain ⟨z, hz, z1, z2⟩ := hc (x.u + 1) (by omega) (by omega)
    have gx := c.val x hx
    have gz := c.val z hz
    have tx : x.t = h s := gx.2 s h1 h2
    have tz : z.t = h s := by rw [gz.2 (x.u + 1) z1 z2, hh _ (by omega) (by omega)]
    have ne : z ≠ x := fun e => by subst e; omega
    rcases pw_or c.srt hx hz (Ne.symm ne) with a | a
    · have := a.2 (by rw [tx, tz]); have := a.1; omega
    · have := a.1; omega
  · omega
where
  pw_or {L : List Spn} (p : L.Pairwise Aft) {x y : Spn} (hx : x ∈ L) (hy : y ∈ L) (ne : x ≠ y) : Aft x y ∨ Aft y x := by
    induction L with
    | nil => cases hx
    | cons a r ih =>
      obtain ⟨p1, p2⟩ := List.pairwise_cons.mp p
      rcases List.mem_cons.mp hx with ex | hx
      · rcases List.mem_cons.mp hy with ey | hy
        · exact absurd (ex.trans ey.symm) ne
        · rw [ex]; exact .inl (p1 y hy)
      · rcases List.mem_cons.mp hy with ey | hy
        · rw [ey]; exact .inr (p1 x hx)
        · exact ih p2 hx hy
structure Mid (h : Int → D) (t : D) (s u : Int) (K L : List Spn) : Prop where
  srt : (K ++ L).Pairwise Aft
  val : ∀ x ∈ K ++ L, Gd h x
  sep : ∀ y ∈ K, y.t = t → y.u + 1 < s ∨ u + 1 < y.s
  su : s ≤ u
  tel : ∀ v, s ≤ v → v ≤ u → t = h v
theorem mid_end {t : D} (te : ∀ x : Spn, Gd h x → (eqD x.t t = true ↔ x.t = t)) : ∀ {L K : List Spn} {s u : Int}, Mid h t s u K L →
    Mid h t (jnL t L s u K).1 (jnL t L s u K).2.1 (jnL t L s u K).2.2 [] ∧ ∀ v, (cov (jnL t L s u K).2.2 v ∨ ((jnL t L s u K).1 ≤ v ∧ v ≤ (jnL t L s u K).2.1)) ↔ (cov (K ++ L) v ∨ (s ≤ v ∧ v ≤ u))
  | [], K, s, u, m => by simp only [jnL]; exact ⟨m, fun v => by rw [List.append_nil]⟩
  | x :: L, K, s, u, m => by
    have gx := m.val x (by simp)
    have kx : ∀ y ∈ K, Aft y x := fun y hy => (List.pairwise_append.mp m.srt).2.2 y hy x (by simp)
    by_cases c : eqD x.t t = true ∧ x.s ≤ u + 1 ∧ s ≤ x.u + 1
    · have hj : jnL t (x :: L) s u K = jnL t L (min s x.s) (max u x.u) K := by rw [jnL]; exact if_pos c
      rw [hj]
      have xt : x.t = t := (te x gx).mp c.1
      have su := m.su
      have g1 := gx.1
      have m2 : Mid h t (min s x.s) (max u x.u) K L := by
        refine ⟨m.srt.sublist (List.Sublist.append_left (List.sublist_cons_self _ _) _), fun y hy => m.val y (by rcases List.mem_append.mp hy with hy | hy <;> simp [hy]), fun y hy e => ?_, by omega, fun v h1 h2 => ?_⟩
        · have a := kx y hy
          have a2 := a.2 (by rw [e, xt])
          have gy := (m.val y (by simp [hy])).1
          rcases m.sep y hy e with q | q
          · left; omega
          · exfalso; omega
        · by_cases q : s ≤ v ∧ v ≤ u
          · exact m.tel v q.1 q.2
          · rw [← xt]; exact gx.2 v (by omega) (by omega)
      obtain ⟨r1, r2⟩ := mid_end te m2
      refine ⟨r1, fun v => (r2 v).trans ?_⟩
      constructor
      · rintro (⟨y, hy, h1, h2⟩ | hv)
        · exact .inl ⟨y, by rcases List.mem_append.mp hy with hy | hy <;> simp [hy], h1, h2⟩
        · by_cases q : s ≤ v ∧ v ≤ u
          · exact .inr q
          · exact .inl ⟨x, by simp, by omega, by omega⟩
      · rintro (⟨y, hy, h1, h2⟩ | hv)
        · rcases List.mem_append.mp hy with hy | hy
          · exact .inl ⟨y, by simp [hy], h1, h2⟩
          · rcases List.mem_cons.mp hy with rfl | hy
            · right; omega
            · exact .inl ⟨y, by simp [hy], h1, h2⟩
        · right; omega
    · have hj : jnL t (x :: L) s u K = jnL t L s u (K ++ [x]) := by rw [jnL]; exact if_neg c
      rw [hj]
      have e : K ++ [x] ++ L = K ++ x :: L := by simp
      have m2 : Mid h t s u (K ++ [x]) L := by
        refine ⟨by rw [e]; exact m.srt, by rw [e]; exact m.val, fun y hy ey => ?_, m.su, m.tel⟩
        rcases List.mem_append.mp hy with hy | hy
        · exact m.sep y hy ey
        · rw [List.mem_singleton.mp hy] at ey ⊢
          have ex := (te x gx).mpr ey
          by_cases q : x.s ≤ u + 1
          · left
            by_cases q2 : s ≤ x.u + 1
            · exact absurd ⟨ex, q, q2⟩ c
            · omega
          · right; omega
      obtain ⟨r1, r2⟩ := mid_end te m2
      exact ⟨r1, fun v => by rw [r2 v, e]⟩
theorem pls_cut (s : Int) : ∀ {K : List Spn}, K.Pairwise (fun x y => x.s < y.s) → (∀ y ∈ K.take (pls K s), y.s < s) ∧ ∀ y ∈ K.drop (pls K s), s ≤ y.s
  | [], _ => by simp
  | x :: K, p => by
    obtain ⟨p1, p2⟩ := List.pairwise_cons.mp p
    obtain ⟨a, b⟩ := pls_cut s p2
    by_cases c : x.s < s
    · have e : pls (x :: K) s = pls K s + 1 := by unfold pls; rw [List.filter_cons_of_pos (by simpa using c), List.length_cons]
      rw [e, List.take_succ_cons, List.drop_succ_cons]
      exact ⟨fun y hy => by rcases List.mem_cons.mp hy with rfl | hy; exact c; exact a y hy, b⟩
    · have z : K.filter (fun x => decide (x.s < s)) = [] := List.filter_eq_nil_iff.mpr fun y hy => by have := p1 y hy; simp; omega
      have e : pls (x :: K) s = 0 := by unfold pls; rw [List.filter_cons_of_neg (by simpa using c), z]; rfl
      rw [e]
      refine ⟨by simp, fun y hy => ?_⟩
      rw [List.drop_zero] at hy
      rcases List.mem_cons.mp hy with rfl | hy
      · omega
      · have := p1 y hy; omega
theorem jnd_can {t : D} (te : ∀ x : Spn, Gd h x → (eqD x.t t = true ↔ x.t = t)) {L : List Spn} {s u : Int} (c : Can h L) (su : s ≤ u) (tel : ∀ v, s ≤ v → v ≤ u → t = h v) : Can h (jnd t L s u) ∧ ∀ v, cov (jnd t L s u) v ↔ (cov L v ∨ (s ≤ v ∧ v ≤ u)) := by
  obtain ⟨m, cv⟩ := mid_end te (K := []) (L := L) (s := s) (u := u) ⟨c.srt, c.val, fun y hy => (by cases hy), su, tel⟩
  unfold jnd
  generalize jnL t L s u [] = R at *
  obtain ⟨s', u', K⟩ := R
  simp only [List.nil_append] at *
  have srt : K.Pairwise Aft := by simpa using m.srt
  have val : ∀ x ∈ K, Gd h x := by simpa using m.val
  have ss : K.Pairwise (fun x y => x.s < y.s) := by
    refine List.Pairwise.imp_of_mem (fun {x y} hx hy a => ?_) srt
    have := (val x hx).1; have := a.1; omega
  obtain ⟨lo, hi⟩ := pls_cut s' ss
  have su' := m.su
  have dis : ∀ y ∈ K, y.u < s' ∨ u' < y.s := fun y hy => by
    have gy := val y hy
    by_cases e : y.t = t
    · have := m.sep y hy e; omega
    · by_cases q : y.u < s' ∨ u' < y.s
      · exact q
      · exfalso
        have v1 := gy.2 (max s' y.s) (by omega) (by have := gy.1; omega)
        have v2 := m.tel (max s' y.s) (by omega) (by omega)
        exact e (v1.trans v2.symm)
  have tm : ∀ y ∈ K.take (pls K s'), y ∈ K := fun y hy => List.mem_of_mem_take hy
  have dm : ∀ y ∈ K.drop (pls K s'), y ∈ K := fun y hy => List.mem_of_mem_drop hy
  have p0 : (K.take (pls K s') ++ K.drop (pls K s')).Pairwise Aft := by rw [List.take_append_drop]; exact srt
  obtain ⟨pa, pb, pc⟩ := List.pairwise_append.mp p0
  have A1 : ∀ y ∈ K.take (pls K s'), Aft y ⟨s', u', t⟩ := fun y hy => by
    have := lo y hy
    refine ⟨?_, fun e => ?_⟩
    · show y.u < s'
      rcases dis y (tm y hy) with q | q <;> omega
    · show y.u + 1 < s'
      rcases m.sep y (tm y hy) e with q | q
      · exact q
      · omega
  have A2 : ∀ y ∈ K.drop (pls K s'), Aft ⟨s', u', t⟩ y := fun y hy => by
    have := hi y hy
    have := (val y (dm y hy)).1
    refine ⟨?_, fun e => ?_⟩
    · show u' < y.s
      rcases dis y (dm y hy) with q | q <;> omega
    · show u' + 1 < y.s
      rcases m.sep y (dm y hy) e.symm with q | q
      · omega
      · exact q
  refine ⟨⟨?_, fun x hx => ?_⟩, fun v => ?_⟩
  · rw [List.append_assoc]
    refine List.pairwise_append.mpr ⟨pa, ?_, fun a ha b hb => ?_⟩
    · rw [List.singleton_append]
      exact List.pairwise_cons.mpr ⟨A2, pb⟩
    · rcases List.mem_append.mp hb with hb | hb
      · rw [List.mem_singleton.mp hb]; exact A1 a ha
      · exact pc a ha b hb
  · rcases List.mem_append.mp hx with hx | hx
    · rcases List.mem_append.mp hx with hx | hx
      · exact val x (tm x hx)
      · rw [List.mem_singleton.mp hx]
        exact ⟨su', m.tel⟩
    · exact val x (dm x hx)
  · rw [← cv v]
    constructor
    · rintro ⟨y, hy, h1, h2⟩
      rcases List.mem_append.mp hy with hy | hy
      · rcases List.mem_append.mp hy with hy | hy
        · exact .inl ⟨y, tm y hy, h1, h2⟩
        · rw [List.mem_singleton.mp hy] at h1 h2; exact .inr ⟨h1, h2⟩
      · exact .inl ⟨y, dm y hy, h1, h2⟩
    · rintro (⟨y, hy, h1, h2⟩ | hv)
      · rw [← List.take_append_drop (pls K s') K] at hy
        rcases List.mem_append.mp hy with hy | hy
        · exact ⟨y, by simp [hy], h1, h2⟩
        · exact ⟨y, by simp [hy], h1, h2⟩
      · exact ⟨⟨s', u', t⟩, by simp, hv.1, hv.2⟩
theorem run_agree {t : D} (te : ∀ x : Spn, Gd h x → (eqD x.t t = true ↔ x.t = t)) {s u : Int} (su : s ≤ u) (tel : ∀ v, s ≤ v → v ≤ u → t = h v) : ∀ {L : List Spn}, (∀ x ∈ L, Gd h x) → (runL t s u L = some true ∧ ¬ ∃ x ∈ L, x.s ≤ s ∧ u ≤ x.u) ∨ (runL t s u L = some false ∧ ∃ x ∈ L, x.s ≤ s ∧ u ≤ x.u)
  | [], _ => .inl ⟨rfl, by rintro ⟨x, hx, _⟩; cases hx⟩
  | x :: L, hL => by
    have gx := hL x (by simp)
    have no : ¬ (x.s ≤ u ∧ s ≤ x.u ∧ eqD x.t t = false) := fun ⟨h1, h2, h3⟩ => by
      have v1 := gx.2 (max x.s s) (by omega) (by have := gx.1; omega)
      have v2 := tel (max x.s s) (by omega) (by omega)
      have := (te x gx).mpr (v1.trans v2.symm)
      rw [this] at h3; cases h3
    unfold runL
    rw [if_neg no]
    by_cases c : x.s ≤ s ∧ u ≤ x.u
    · rw [if_pos c]
      exact .inr ⟨rfl, x, by simp, c⟩
    · rw [if_neg c]
      rcases run_agree te su tel (L := L) (fun y hy => hL y (List.mem_cons_of_mem _ hy)) with ⟨a, b⟩ | ⟨a, y, hy, b⟩
      · refine .inl ⟨a, ?_⟩
        rintro ⟨y, hy, q⟩
        rcases List.mem_cons.mp hy with rfl | hy
        · exact c q
        · exact b ⟨y, hy, q⟩
      · exact .inr ⟨a, y, List.mem_cons_of_mem _ hy, b⟩
end
def rA : Rq := .at "doc:plan" "a"
def rB : Rq := .at "doc:plan" "b"
theorem rAB : rA ≠ rB := by decide +kernel
def tN (z : Int) : Tl := .val (.sc (.nu z))
def tD (z : Int) : D := .tup [.str "value", .tup [.str "number", .int z]]
theorem tN_d (z : Int) : (tN z).d = tD z := rfl
theorem tD_eq (a b : Int) : eqD (tD a) (tD b) = decide (a = b) := by
  show PyData.eqv (.tuple [.str _, .tuple [.str _, .int a]]) (.tuple [.str _, .tuple [.str _, .int b]]) = _
  by_cases c : a = b <;> simp [PyData.eqv, PyData.eqvAll, c]
theorem tD_ok (z : Int) : okT (tD z) := ⟨by
  show (PyData.strOk _ && ((PyData.strOk _ && (true && true)) && true)) = true
  rw [strOk_lit, strOk_lit]; rfl, fun _ => rfl⟩
theorem tD_inj {a b : Int} (h : tD a = tD b) : a = b := by simpa [tD] using h
def hz (r : Rq) (v : Int) : Int := if r = rA then v / 10 else 0
def hh (r : Rq) (v : Int) : D := tD (hz r v)
theorem te_of {r : Rq} (z : Int) (x : Spn) (g : Gd (hh r) x) : eqD x.t (tD z) = true ↔ x.t = tD z := by
  rw [g.2 x.s (by omega) g.1]
  unfold hh
  rw [tD_eq, decide_eq_true_iff]
  exact ⟨fun e => by rw [e], tD_inj⟩
structure Fk (F : Fc) : Prop where
  r : F.r = rA ∨ F.r = rB
  s0 : 0 ≤ F.s
  su : F.s ≤ F.u
  u29 : F.u ≤ 29
  t : F.t = tN (hz F.r F.s)
  tel : ∀ v, F.s ≤ v → v ≤ F.u → hz F.r v = hz F.r F.s
theorem hz_ok {r : Rq} {v : Int} (h0 : 0 ≤ v) (h : v ≤ 29) : 0 ≤ hz r v ∧ hz r v ≤ 2 := by
  unfold hz; split <;> omega
theorem rk_len : rdLen rA ∧ rdLen rB ∧ rok rA = true ∧ rok rB = true := ⟨by unfold rA rdLen; decide +kernel, by unfold rB rdLen; decide +kernel, by decide +kernel, by decide +kernel⟩
theorem Fk.ok {F : Fc} (h : Fk F) : F.ok := ⟨by rcases h.r with e | e <;> rw [e]; exact rk_len.1; exact rk_len.2.1, by rw [h.t]; rfl⟩
theorem Fk.why {F : Fc} (h : Fk F) : why F = none := by
  have z := hz_ok (r := F.r) h.s0 (by have := h.su; have := h.u29; omega)
  have h1 : rok F.r = true := by rcases h.r with e | e <;> rw [e]; exact rk_len.2.2.1; exact rk_len.2.2.2
  have vo : (Vl.sc (.nu (hz F.r F.s))).ok = true := by
    simp only [Vl.ok, Sc.ok, Bool.and_eq_true, decide_eq_true_eq]
    omega
  have h2 : fcB F.r F.t = true := by
    rw [h.t]
    rcases h.r with e | e <;> (rw [e] at vo ⊢; exact vo)
  have h3 : spB F = true := decide_eq_true ⟨h.s0, h.su, by have := h.u29; omega⟩
  unfold K50.why
  rw [h1, h2, h3]; rfl
theorem Fk.td {F : Fc} (h : Fk F) : F.t.d = tD (hz F.r F.s) := by rw [h.t, tN_d]
theorem Fk.tell {F : Fc} (h : Fk F) (v : Int) (h1 : F.s ≤ v) (h2 : v ≤ F.u) : F.t.d = hh F.r v := by
  rw [h.td]; unfold hh; rw [h.tel v h1 h2]
structure KI (w : Int) (T : Kt) (A : List Fc) : Prop where
  can : ∀ r, Can (hh r) (spl T r)
  cov : ∀ r v, cov (spl T r) v ↔ ∃ F ∈ A, F.r = r ∧ F.s ≤ v ∧ v ≤ F.u
  keys : ∀ r, (fnd T r).isSome = true ↔ ∃ F ∈ A, F.r = r
  nd : (T.map (·.1)).Nodup
  up : ∀ F ∈ A, F.u ≤ w
  lo : w = -1 ∨ ∃ F ∈ A, F.u = w
  sz : T.length ≤ A.length
  sl : ∀ r, (spl T r).length ≤ A.length
  all : ∀ F ∈ A, Fk F
theorem KI.nil : KI (-1) [] [] := ⟨fun r => ⟨List.Pairwise.nil, fun x hx => (by cases hx)⟩, fun r v => ⟨fun ⟨x, hx, _⟩ => (by cases hx), fun ⟨x, hx, _⟩ => (by cases hx)⟩, fun r => ⟨fun h => (by cases h), fun ⟨x, hx, _⟩ => (by cases hx)⟩, List.nodup_nil, fun F hF => (by cases hF), .inl rfl, Nat.le_refl _, fun r => Nat.le_refl _, fun F hF => (by cases hF)⟩
theorem keys_mem {T : Kt} {r : Rq} : (fnd T r).isSome = true ↔ r ∈ T.map (·.1) := by
  unfold fnd
  rw [List.find?_isSome]
  simp
section
variable {S : Sto} {n m : Nat} {w : Int} {T : Kt} {A : List Fc}
theorem KI.same (k : KI w T A) {F : Fc} (hF : Fk F) (hc : ∀ v, F.s ≤ v → v ≤ F.u → K50.cov (spl T F.r) v) : KI w T (F :: A) := by
  have ex : ∃ G ∈ A, G.r = F.r ∧ G.s ≤ F.u ∧ F.u ≤ G.u := (k.cov F.r F.u).mp (hc F.u hF.su (by omega))
  obtain ⟨G, gA, gr, g1, g2⟩ := ex
  refine ⟨k.can, fun r v => (k.cov r v).trans ⟨fun ⟨G, h, q⟩ => ⟨G, List.mem_cons_of_mem _ h, q⟩, fun ⟨G, h, q⟩ => ?_⟩, fun r => (k.keys r).trans ⟨fun ⟨G, h, q⟩ => ⟨G, List.mem_cons_of_mem _ h, q⟩, fun ⟨G', h, q⟩ => ?_⟩, k.nd, fun G' h => ?_, ?_, by have := k.sz; simp; omega, fun r => by have := k.sl r; simp; omega, fun G' h => ?_⟩
  · rcases List.mem_cons.mp h with rfl | h
    · obtain ⟨q1, q2, q3⟩ := q
      subst q1
      exact (k.cov _ v).mp (hc v q2 q3)
    · exact ⟨G, h, q⟩
  · rcases List.mem_cons.mp h with rfl | h
    · exact ⟨G, gA, gr.trans q⟩
    · exact ⟨G', h, q⟩
  · rcases List.mem_cons.mp h with rfl | h
    · have := k.up G gA; omega
    · exact k.up G' h
  · rcases k.lo with q | ⟨G', h, q⟩
    · exact .inl q
    · exact .inr ⟨G', List.mem_cons_of_mem _ h, q⟩
  · rcases List.mem_cons.mp h with rfl | h
    · exact hF
    · exact k.all G' h
theorem KI.more (k : KI w T A) {F : Fc} (hF : Fk F) : KI (max w F.u) (lrT S T F) (F :: A) := by
  have te : ∀ x : Spn, Gd (hh F.r) x → (eqD x.t F.t.d = true ↔ x.t = F.t.d) := by rw [hF.td]; exact te_of _
  obtain ⟨c1, c2⟩ := jnd_can te (k.can F.r) hF.su hF.tell
  have sp : ∀ r, spl (lrT S T F) r = if r = F.r then lrJ T F else spl T r := fun r => fnd_put T F.r r S.length (lrJ T F)
  have ks := put_keys T F.r S.length (lrJ T F)
  have km : ∀ r, (fnd (lrT S T F) r).isSome = true ↔ (r ∈ T.map (·.1) ∨ r = F.r) := fun r => by
    rw [keys_mem, show (lrT S T F).map (·.1) = _ from ks]
    by_cases c : (fnd T F.r).isSome = true
    · rw [if_pos c]
      exact ⟨.inl, fun h => h.elim id fun e => e ▸ keys_mem.mp c⟩
    · rw [if_neg c]; simp
  have w1 : -1 ≤ w := by
    rcases k.lo with q | ⟨G, h, q⟩
    · omega
    · have := (k.all G h).s0; have := (k.all G h).su; omega
  refine ⟨fun r => ?_, fun r v => ?_, fun r => ?_, ?_, fun G h => ?_, ?_, ?_, fun r => ?_, fun G h => ?_⟩
  · rw [sp]; split
    · rename_i e; subst e; exact c1
    · exact k.can r
  · rw [sp]; split
    · rename_i e
      subst e
      have c3 := c2 v
      rw [k.cov] at c3
      refine c3.trans ⟨?_, ?_⟩
      · rintro (⟨G, h, q⟩ | q)
        · exact ⟨G, List.mem_cons_of_mem _ h, q⟩
        · exact ⟨F, by simp, rfl, q⟩
      · rintro ⟨G, h, q⟩
        rcases List.mem_cons.mp h with rfl | h
        · exact .inr q.2
        · exact .inl ⟨G, h, q⟩
    · rename_i e
      rw [k.cov]
      refine ⟨fun ⟨G, h, q⟩ => ⟨G, List.mem_cons_of_mem _ h, q⟩, fun ⟨G, h, q⟩ => ?_⟩
      rcases List.mem_cons.mp h with rfl | h
      · exact absurd q.1.symm e
      · exact ⟨G, h, q⟩
  · rw [km, ← keys_mem, k.keys]
    constructor
    · rintro (⟨G, h, q⟩ | q)
      · exact ⟨G, List.mem_cons_of_mem _ h, q⟩
      · exact ⟨F, by simp, q.symm⟩
    · rintro ⟨G, h, q⟩
      rcases List.mem_cons.mp h with rfl | h
      · exact .inr q.symm
      · exact .inl ⟨G, h, q⟩
  · rw [show (lrT S T F).map (·.1) = _ from ks]
    by_cases c : (fnd T F.r).isSome = true
    · rw [if_pos c]; exact k.nd
    · rw [if_neg c]
      have : F.r ∉ T.map (·.1) := fun z => c (keys_mem.mpr z)
      exact List.nodup_append.mpr ⟨k.nd, by simp, fun a ha b hb => by rw [List.mem_singleton.mp hb]; exact fun e => this (e ▸ ha)⟩
  · rcases List.mem_cons.mp h with rfl | h
    · omega
    · have := k.up G h; omega
  · by_cases c : w ≤ F.u
    · exact .inr ⟨F, by simp, by omega⟩
    · rcases k.lo with q | ⟨G, h, q⟩
      · have := hF.s0; have := hF.su; omega
      · exact .inr ⟨G, List.mem_cons_of_mem _ h, by omega⟩
  · have := put_len T F.r S.length (lrJ T F); have := k.sz; show (putT T F.r S.length (lrJ T F)).length ≤ _; simp; omega
  · rw [sp]; split
    · have := jnd_len F.t.d (spl T F.r) F.s F.u; have := k.sl F.r; show (jnd _ _ _ _).length ≤ _; simp; omega
    · have := k.sl r; simp; omega
  · rcases List.mem_cons.mp h with rfl | h
    · exact hF
    · exact k.all G h
theorem Fk.te {F : Fc} (hF : Fk F) : ∀ x : Spn, Gd (hh F.r) x → (eqD x.t F.t.d = true ↔ x.t = F.t.d) := by rw [hF.td]; exact te_of _
theorem learn_ki (h : KnR S n m w T) (k : KI w T A) {F : Fc} (hF : Fk F) (hA : A.length < 90) : ∃ (b : Bool) (S' : Sto) (w' : Int) (T' : Kt), f_Known_learn [.obj n, F.d] S = some (.ok (.bl b), S') ∧ KnR S' n m w' T' ∧ KI w' T' (F :: A) ∧
    (∀ i, i < S.length → i ≠ n → i ≠ m → S'[i]? = S[i]?) ∧ S.length ≤ S'.length ∧ ∀ x ∈ T', x ∈ T ∨ S.length ≤ x.2.1 := by
  have ht : okT F.t.d := by rw [hF.td]; exact tD_ok _
  have ln := learn_kn h hF.ok hF.why ht
  rcases run_agree hF.te hF.su hF.tell (L := spl T F.r) (k.can F.r).val with ⟨r1, r2⟩ | ⟨r1, x, hx, r2⟩
  · rw [r1] at ln
    refine ⟨true, _, _, _, ln, lrS_kn h ht (by have := k.sz; omega) (by have := k.sl F.r; omega), k.more hF, fun i hi h1 h2 => lrS_get h F i hi h1 h2, by rw [lrS_len]; omega, fun x hx => ?_⟩
    rcases put_mem hx with q | q
    · exact .inl q
    · rw [q]; exact .inr (Nat.le_refl _)
  · rw [r1] at ln
    exact ⟨false, S, w, T, ln, h, k.same hF fun v h1 h2 => ⟨x, hx, by omega, by omega⟩, fun i _ _ _ => rfl, Nat.le_refl _, fun x hx => .inl hx⟩
theorem learn_old (h : KnR S n m w T) (k : KI w T A) {F : Fc} (hm : F ∈ A) : f_Known_learn [.obj n, F.d] S = some (.ok (.bl false), S) := by
  have hF := k.all F hm
  have ht : okT F.t.d := by rw [hF.td]; exact tD_ok _
  have ln := learn_kn h hF.ok hF.why ht
  have cv : ∀ v, F.s ≤ v → v ≤ F.u → K50.cov (spl T F.r) v := fun v h1 h2 => (k.cov F.r v).mpr ⟨F, hm, rfl, h1, h2⟩
  obtain ⟨x, hx, q⟩ := can_held (k.can F.r) hF.su (fun v h1 h2 => by unfold hh; rw [hF.tel v h1 h2]) cv
  rcases run_agree hF.te hF.su hF.tell (L := spl T F.r) (k.can F.r).val with ⟨r1, r2⟩ | ⟨r1, _⟩
  · exact absurd ⟨x, hx, q⟩ r2
  · rw [r1] at ln; exact ln
theorem hold_some {L : List Spn} {v : Int} (h : K50.cov L v) : ∃ x ∈ L, hold L v = some x ∧ x.s ≤ v ∧ v ≤ x.u := by
  obtain ⟨y, hy, h1, h2⟩ := h
  have : (hold L v).isSome = true := by
    unfold hold
    rw [List.find?_isSome]
    exact ⟨y, hy, by simp; omega⟩
  obtain ⟨x, hx⟩ := Option.isSome_iff_exists.mp this
  have p := List.find?_some hx
  simp only [decide_eq_true_eq] at p
  exact ⟨x, List.mem_of_find?_eq_some hx, hx, p.1, p.2⟩
theorem at_ki (h : KnR S n m w T) (k : KI w T A) {F : Fc} (hm : F ∈ A) {v : Int} (h1 : F.s ≤ v) (h2 : v ≤ F.u) : f_Known_at [.obj n, F.r.d, .int v] S = some (.ok F.t.d, S) := by
  have at1 := at_knK h F.r v
  obtain ⟨x, hx, e, q1, q2⟩ := hold_some ((k.cov F.r v).mpr ⟨F, hm, rfl, h1, h2⟩)
  rw [e] at at1
  rw [at1]
  have g := ((k.can F.r).val x hx).2 v q1 q2
  simp only []
  rw [g, (k.all F hm).tell v h1 h2]
theorem at_no (h : KnR S n m w T) (k : KI w T A) (r : Rq) {v : Int} (hn : ∀ F ∈ A, F.r = r → ¬ (F.s ≤ v ∧ v ≤ F.u)) : f_Known_at [.obj n, r.d, .int v] S = some (.ok .non, S) := by
  have at1 := at_knK h r v
  cases e : hold (spl T r) v with
  | none => rw [e] at at1; exact at1
  | some x =>
    exfalso
    have p := List.find?_some e
    simp only [decide_eq_true_eq] at p
    obtain ⟨F, hF, q⟩ := (k.cov r v).mp ⟨x, List.mem_of_find?_eq_some e, p⟩
    exact hn F hF q.1 q.2
end
theorem ki_same {w1 w2 : Int} {T1 T2 : Kt} {A1 A2 : List Fc} (k1 : KI w1 T1 A1) (k2 : KI w2 T2 A2) (hA : ∀ F, F ∈ A1 ↔ F ∈ A2) : w1 = w2 ∧ (∀ r, spl T1 r = spl T2 r) ∧ ∀ r, (fnd T1 r).isSome = (fnd T2 r).isSome := by
  have le : ∀ {w1 w2 : Int} {T1 T2 : Kt} {A1 A2 : List Fc}, KI w1 T1 A1 → KI w2 T2 A2 → (∀ F, F ∈ A1 → F ∈ A2) → w1 ≤ w2 := fun {w1 w2 T1 T2 A1 A2} k1 k2 hA => by
    rcases k1.lo with q | ⟨F, hF, q⟩
    · rcases k2.lo with q2 | ⟨F, hF, q2⟩
      · omega
      · have := (k2.all F hF).s0; have := (k2.all F hF).su; omega
    · have := k2.up F (hA F hF); omega
  refine ⟨?_, fun r => can_one (k1.can r) (k2.can r) fun v => ?_, fun r => ?_⟩
  · have a := le k1 k2 (fun F => (hA F).mp)
    have b := le k2 k1 (fun F => (hA F).mpr)
    omega
  · rw [k1.cov, k2.cov]
    exact ⟨fun ⟨F, h, q⟩ => ⟨F, (hA F).mp h, q⟩, fun ⟨F, h, q⟩ => ⟨F, (hA F).mpr h, q⟩⟩
  · have e : (fnd T1 r).isSome = true ↔ (fnd T2 r).isSome = true := by
      rw [k1.keys, k2.keys]
      exact ⟨fun ⟨F, h, q⟩ => ⟨F, (hA F).mp h, q⟩, fun ⟨F, h, q⟩ => ⟨F, (hA F).mpr h, q⟩⟩
    cases h1 : (fnd T1 r).isSome <;> cases h2 : (fnd T2 r).isSome <;> simp [h1, h2] at e ⊢
theorem two_l {l : List Rq} (hn : l.Nodup) (hk : ∀ r ∈ l, r = rA ∨ r = rB) : l = [] ∨ l = [rA] ∨ l = [rB] ∨ l = [rA, rB] ∨ l = [rB, rA] := by
  match l, hn, hk with
  | [], _, _ => exact .inl rfl
  | [a], _, hk =>
    rcases hk a (by simp) with rfl | rfl
    · exact .inr (.inl rfl)
    · exact .inr (.inr (.inl rfl))
  | [a, b], hn, hk =>
    have ne : a ≠ b := by simpa using hn
    rcases hk a (by simp) with rfl | rfl <;> rcases hk b (by simp) with rfl | rfl
    · exact absurd rfl ne
    · exact .inr (.inr (.inr (.inl rfl)))
    · exact .inr (.inr (.inr (.inr rfl)))
    · exact absurd rfl ne
  | a :: b :: c :: r, hn, hk =>
    exfalso
    obtain ⟨h1, h2⟩ := List.nodup_cons.mp hn
    obtain ⟨h3, h4⟩ := List.nodup_cons.mp h2
    simp only [List.mem_cons, not_or] at h1 h3
    rcases hk a (by simp) with rfl | rfl <;> rcases hk b (by simp) with rfl | rfl <;> rcases hk c (by simp) with rfl | rfl <;> simp at h1 h3
theorem ms2 {α : Type} (le : α → α → Bool) (a b : α) : [a, b].mergeSort le = if le a b = true then [a, b] else [b, a] := by
  rw [List.mergeSort]
  simp only [List.MergeSort.Internal.splitInTwo]
  simp [List.merge]
theorem le_ab : PySem.W.dataLe false (fun b : D × D => py b.2) (rA.d, rA.d) (rB.d, rB.d) = true := by decide +kernel
theorem le_ba : PySem.W.dataLe false (fun b : D × D => py b.2) (rB.d, rB.d) (rA.d, rA.d) = false := by decide +kernel
theorem srt_ba : sortD ([rB, rA].map Rq.d) ([rB, rA].map Rq.d) = [rA, rB].map Rq.d := by
  show (([(rB.d, rB.d), (rA.d, rA.d)] : List (D × D)).mergeSort (PySem.W.dataLe false fun b => py b.2)).map (·.1) = _
  rw [ms2, le_ba]; rfl
theorem srt_ab : sortD ([rA, rB].map Rq.d) ([rA, rB].map Rq.d) = [rA, rB].map Rq.d := by
  show (([(rA.d, rA.d), (rB.d, rB.d)] : List (D × D)).mergeSort (PySem.W.dataLe false fun b => py b.2)).map (·.1) = _
  rw [ms2, le_ab]; rfl
theorem srt_1 (r : Rq) : sortD ([r].map Rq.d) ([r].map Rq.d) = [r].map Rq.d := by
  show (([(r.d, r.d)] : List (D × D)).mergeSort (PySem.W.dataLe false fun b => py b.2)).map (·.1) = _
  rw [List.mergeSort_singleton]; rfl
theorem srt_n : sortD (([] : List Rq).map Rq.d) (([] : List Rq).map Rq.d) = ([] : List Rq).map Rq.d := by
  show (([] : List (D × D)).mergeSort (PySem.W.dataLe false fun b => py b.2)).map (·.1) = _
  rw [List.mergeSort_nil]; rfl
theorem rows_ab {l : List Rq} (hk : ∀ r ∈ l, r = rA ∨ r = rB) : RowsOk (l.map Rq.d) := by
  have pk : ∀ r, r = rA ∨ r = rB → pyOk r.d = true ∧ (py r.d).depth ≤ 8 ∧ ∃ n, py r.d = .tuple [.str "attribute", .str "doc:plan", .str n] := fun r h => by
    rcases h with rfl | rfl
    · exact ⟨by decide +kernel, by decide +kernel, "a", rfl⟩
    · exact ⟨by decide +kernel, by decide +kernel, "b", rfl⟩
  have pm : ∀ d ∈ pys (l.map Rq.d), ∃ r ∈ l, d = py r.d := fun d hd => by
    rw [pys_map, List.map_map] at hd
    obtain ⟨r, hr, e⟩ := List.mem_map.mp hd
    exact ⟨r, hr, e.symm⟩
  refine ⟨?_, fun d hd => ?_, fun d hd => ?_⟩
  · have : ∀ l : List Rq, (∀ r ∈ l, r = rA ∨ r = rB) → pyOks (l.map Rq.d) = true := fun l => by
      induction l with
      | nil => exact fun _ => rfl
      | cons a r ih =>
        intro h
        show (pyOk a.d && pyOks (r.map Rq.d)) = true
        rw [(pk a (h a (by simp))).1, ih fun q hq => h q (List.mem_cons_of_mem _ hq)]; rfl
    exact this l hk
  · obtain ⟨r, hr, rfl⟩ := pm d hd
    obtain ⟨_, _, n, e⟩ := pk r (hk r hr)
    refine ⟨_, _, e, fun r' h' => ?_⟩
    obtain ⟨q, hq, e'⟩ := pm _ h'
    obtain ⟨_, _, n', e2⟩ := pk q (hk q hq)
    rw [e2] at e'
    injection e' with e'
    injection e' with _ e'
    subst e'
    simp [PySem.W.alikeAll, PySem.W.alike]
  · obtain ⟨r, hr, rfl⟩ := pm d hd
    exact (pk r (hk r hr)).2.1
def rds (T : Kt) : List Rq := (if (fnd T rA).isSome = true then [rA] else []) ++ (if (fnd T rB).isSome = true then [rB] else [])
theorem tk_d (r : Rq) : tkD (rqK r) = r.d := by cases r <;> rfl
theorem sort_reads {w : Int} {T : Kt} {A : List Fc} (k : KI w T A) : oSortT [.dT (ktE T)] = some (.lst ((rds T).map Rq.d)) := by
  have hk : ∀ r ∈ T.map (·.1), r = rA ∨ r = rB := fun r hr => by
    obtain ⟨F, hF, e⟩ := (k.keys r).mp (keys_mem.mpr hr)
    rw [← e]; exact (k.all F hF).r
  have e : (ktE T).map (fun p => tkD p.1) = (T.map (·.1)).map Rq.d := by
    unfold ktE
    rw [List.map_map, List.map_map]
    exact List.map_congr_left fun x _ => tk_d x.1
  have ro := rows_ab hk
  rw [← e] at ro
  rw [oSortT_of ro, e]
  have ne := rAB
  unfold rds
  simp only [keys_mem]
  rcases two_l k.nd hk with q | q | q | q | q <;> rw [q]
  · rw [srt_n]; simp
  · rw [srt_1]; simp [ne, Ne.symm ne]
  · rw [srt_1]; simp [ne]
  · rw [srt_ab]; simp
  · rw [srt_ba]; simp
theorem mul_i {a b : Int} (ha : a.natAbs < 1000) (hb : b.natAbs < 1000) : oMul (.int a) (.int b) = some (.int (a * b)) := by
  rw [oMul_i, if_pos]
  exact cMul_l (by omega) (by omega)
theorem ab0 : oIx (.str "ab") (.int 0) = some (.str "a") := by rw [oIx_s, if_pos (by decide)]; rfl
theorem ab1 : oIx (.str "ab") (.int 1) = some (.str "b") := by rw [oIx_s, if_pos (by decide)]; rfl
def fcOf (k f l : Int) : Fc := ⟨if k = 0 then rA else rB, tN (f / 10 * (1 - k)), f, l⟩
theorem fcOf_ok {k f l : Int} (k0 : 0 ≤ k) (k1 : k < 2) (f0 : 0 ≤ f) (f1 : f < 30) (fl : f ≤ l) (hl : l ≤ 10 * (f / 10) + 9) : Fk (fcOf k f l) := by
  have ne := rAB
  have kk : k = 0 ∨ k = 1 := by omega
  unfold fcOf
  rcases kk with rfl | rfl
  · refine ⟨.inl rfl, f0, fl, ?_, ?_, fun v h1 h2 => ?_⟩
    · show l ≤ 29; omega
    · show tN (f / 10 * (1 - 0)) = tN (hz rA f)
      unfold hz; rw [if_pos rfl]; congr 1; omega
    · show hz rA v = hz rA f
      have h1 : f ≤ v := h1
      have h2 : v ≤ l := h2
      unfold hz; rw [if_pos rfl, if_pos rfl]; omega
  · refine ⟨.inr rfl, f0, fl, ?_, ?_, fun v h1 h2 => ?_⟩
    · show l ≤ 29; omega
    · show tN (f / 10 * (1 - 1)) = tN (hz rB f)
      unfold hz; rw [if_neg (Ne.symm ne)]; congr 1; omega
    · show hz rB v = hz rB f
      unfold hz; rw [if_neg (Ne.symm ne), if_neg (Ne.symm ne)]
theorem fcOf_d (k f l : Int) (kk : k = 0 ∨ k = 1) : (fcOf k f l).d = .tup [.tup [.str "attribute", .str "doc:plan", .str (if k = 0 then "a" else "b")], .tup [.str "value", .tup [.str "number", .int (f / 10 * (1 - k))]], .int f, .int l] := by
  rcases kk with rfl | rfl <;> rfl
theorem app_fc {l : List Fc} {F : Fc} (h : l.length < 1000) : uAppend (l.map Fc.d) [F.d] = some (.non, (l ++ [F]).map Fc.d) := by
  rw [app_l (by rw [List.length_map]; omega), List.map_append]; rfl
theorem facts_lp {ds : List Int} {tl : Sto} {s1 : Sl} : ∀ (c i : Nat) (p : Int) (L : List Fc) (v3 v4 v5 v6 v7 v8 : U), 0 ≤ p → (∀ F ∈ L, Fk F) → L.length + c ≤ 100 →
    ∃ (q : Int) (L' : List Fc) (w3 w4 w5 w6 w7 w8 : U), forD (tgName 3) l0__law_facts (dRng i c) [.val (.obj 0), s1, .own (.lst (L.map Fc.d)), v3.1, v4.1, v5.1, v6.1, v7.1, v8.1] (bx ds p :: tl) =
      some (.nx [.val (.obj 0), s1, .own (.lst (L'.map Fc.d)), w3.1, w4.1, w5.1, w6.1, w7.1, w8.1], bx ds q :: tl) ∧ 0 ≤ q ∧ (∀ F ∈ L', Fk F) ∧ L'.length = L.length + c
  | 0, i, p, L, v3, v4, v5, v6, v7, v8, h0, hL, _ => ⟨p, L, v3, v4, v5, v6, v7, v8, by rw [dRng_zero]; simp, h0, hL, rfl⟩
  | c + 1, i, p, L, v3, v4, v5, v6, v7, v8, h0, hL, hc => by
    obtain ⟨k, e1, k0, k1⟩ := draw_ex (ds := ds) (tl := tl) (m := 2) h0 (by decide)
    obtain ⟨f, e2, f0, f1⟩ := draw_ex (ds := ds) (tl := tl) (m := 30) (p := p + 1) (by omega) (by decide)
    obtain ⟨g, e3, g0, g1⟩ := draw_ex (ds := ds) (tl := tl) (m := 10) (p := p + 1 + 1) (by omega) (by decide)
    have kk : k = 0 ∨ k = 1 := by omega
    have ok : Fk (fcOf k f (min (10 * (f / 10) + 9) (f + g))) := fcOf_ok k0 k1 f0 f1 (by omega) (by omega)
    have fd := fcOf_d k f (min (10 * (f / 10) + 9) (f + g)) kk
    have ap := app_fc (l := L) (F := fcOf k f (min (10 * (f / 10) + 9) (f + g))) (by omega)
    obtain ⟨q, L', w3, w4, w5, w6, w7, w8, e, q0, hL', hl⟩ := facts_lp (ds := ds) (tl := tl) (s1 := s1) c (i + 1) (p + 1 + 1 + 1) (L ++ [fcOf k f (min (10 * (f / 10) + 9) (f + g))]) ⟨.val (.int i), rfl⟩ ⟨.val (.int k), rfl⟩ ⟨.val (.int f), rfl⟩ ⟨.val (.int (f / 10)), rfl⟩ ⟨.val (.int (min (10 * (f / 10) + 9) (f + g))), rfl⟩ ⟨.val (.tup [.str "value", .tup [.str "number", .int (f / 10 * (1 - k))]]), rfl⟩ (by omega) (fun F hF => by
      rcases List.mem_append.mp hF with h | h
      · exact hL F h
      · rw [List.mem_singleton.mp h]; exact ok) (by rw [List.length_append, List.length_singleton]; omega)
    refine ⟨q, L', w3, w4, w5, w6, w7, w8, ?_, q0, hL', by rw [hl, List.length_append, List.length_singleton]; omega⟩
    rw [dRng_succ]
    refine (for1 (by simp [v3.2]) ?_).trans e
    rw [fd] at ap
    have mn := mn2 (10 * (f / 10) + 9) (f + g)
    have l2 : (2 : Nat) ≤ sizeLine := by decide
    have l3 : (3 : Nat) ≤ sizeLine := by decide
    have l4 : (4 : Nat) ≤ sizeLine := by decide
    have m1 : oMul (.int 10) (.int (f / 10)) = some (.int (10 * (f / 10))) := mul_i (by omega) (by omega)
    have m2 : oMul (.int (f / 10)) (.int (1 - k)) = some (.int (f / 10 * (1 - k))) := mul_i (by omega) (by omega)
    have ow : ∀ s0 s1 s3 s4 s5 s6 s7 s8, ownL [s0, s1, .own (.lst (L.map Fc.d)), s3, s4, s5, s6, s7, s8] 2 = some (L.map Fc.d) := fun _ _ _ _ _ _ _ _ => rfl
    generalize (L ++ [fcOf k f (min (10 * (f / 10) + 9) (f + g))]).map Fc.d = L2 at *
    generalize L.map Fc.d = L1 at *
    have abk : oIx (.str "ab") (.int k) = some (.str (if k = 0 then "a" else "b")) := by
      rcases kk with rfl | rfl
      · exact ab0
      · exact ab1
    generalize (if k = 0 then ("a" : Str) else "b") = AB at *
    generalize f / 10 * (1 - k) = PR at *
    simp [l0__law_facts, d__law_draw, e1, e2, e3, v4.2, v5.2, v6.2, v7.2, v8.2, mn, m1, m2, abk, l2, l3, l4, ow, ap, -oIx_s, -oMul_i]
theorem map_eraseI {L : List Fc} {n : Nat} : (L.map Fc.d).eraseIdx n = (L.eraseIdx n).map Fc.d := by
  rw [List.eraseIdx_eq_take_drop_succ, List.eraseIdx_eq_take_drop_succ, List.map_append, List.map_take, List.map_drop]
theorem turn_lp {ds : List Int} {tl : Sto} {L : List Fc} {s1 : Sl} (hl : L.length ≤ 100) : ∀ (c i : Nat) (p : Int) (R M : List Fc) (v4 v5 : U), 0 ≤ p → R.length = c → M.length + 2 * c ≤ 400 → (∀ F, F ∈ L ↔ F ∈ M ∨ F ∈ R) →
    ∃ (q : Int) (M' : List Fc) (w4 w5 : U), forD (tgName 4) l0__law_turned (dRng i c) [.val (.obj 0), s1, .val (.obj (tl.length + 1)), .own (.lst (M.map Fc.d)), v4.1, v5.1] (bx ds p :: (tl ++ [.lst (R.map Fc.d)])) =
      some (.nx [.val (.obj 0), s1, .val (.obj (tl.length + 1)), .own (.lst (M'.map Fc.d)), w4.1, w5.1], bx ds q :: (tl ++ [.lst []])) ∧ 0 ≤ q ∧ (∀ F, F ∈ L ↔ F ∈ M') ∧ M'.length ≤ M.length + 2 * c
  | 0, i, p, R, M, v4, v5, h0, hR, _, hm => by
    have : R = [] := List.length_eq_zero_iff.mp hR
    subst this
    exact ⟨p, M, v4, v5, by rw [dRng_zero]; simp, h0, fun F => (hm F).trans (by simp), by omega⟩
  | c + 1, i, p, R, M, v4, v5, h0, hR, hM, hm => by
    obtain ⟨r, e1, r0, r1⟩ := draw_ex (ds := ds) (tl := tl ++ [.lst (R.map Fc.d)]) (m := R.length) h0 (by omega)
    obtain ⟨n, rfl⟩ : ∃ n : Nat, r = n := ⟨r.toNat, by omega⟩
    have hn : n < R.length := by omega
    have split : R = R.take n ++ R[n] :: R.drop (n + 1) := by rw [← List.drop_eq_getElem_cons hn, List.take_append_drop]
    have er : R.eraseIdx n = R.take n ++ R.drop (n + 1) := List.eraseIdx_eq_take_drop_succ _ _
    have gl : (R.eraseIdx n).length = c := by rw [er, List.length_append, List.length_take, List.length_drop]; omega
    have mem1 : ∀ F, F ∈ R ↔ F = R[n] ∨ F ∈ R.eraseIdx n := fun F => by
      rw [er]
      conv => lhs; rw [split]
      simp only [List.mem_append, List.mem_cons]
      constructor
      · rintro (h | h | h)
        · exact .inr (.inl h)
        · exact .inl h
        · exact .inr (.inr h)
      · rintro (h | h | h)
        · exact .inr (.inl h)
        · exact .inl h
        · exact .inr (.inr h)
    have pp : uPopAt (R.map Fc.d) [.int (n : Int)] = some ((R[n]).d, (R.eraseIdx n).map Fc.d) := by
      show cif (-(2 ^ 63) ≤ (n : Int) ∧ (n : Int) < 2 ^ 63) ((seqIndex? (n : Int) (R.map Fc.d).length).bind fun k => ((R.map Fc.d)[k]?).map fun d => (d, (R.map Fc.d).eraseIdx k)) none = _
      rw [cif_pos ⟨by omega, by omega⟩]
      have si : seqIndex? (n : Int) (R.map Fc.d).length = some n := by
        unfold seqIndex?
        simp only [List.length_map]
        rw [show (if (n : Int) < 0 then (n : Int) + (R.length : Int) else (n : Int)) = n from if_neg (by omega)]
        have h1 : decide ((0 : Int) ≤ n) = true := decide_eq_true (by omega)
        have h2 : decide ((n : Int) < R.length) = true := decide_eq_true (by omega)
        rw [h1, h2]; rfl
      rw [si, Option.bind_some, List.getElem?_map, List.getElem?_eq_getElem hn, Option.map_some, Option.map_some, map_eraseI]
    have oj : ∀ (q : Int) (x : Ob), (bx ds q :: (tl ++ [x]))[tl.length + 1]? = some x := fun q x => by rw [List.getElem?_cons_succ]; simp
    have sj : ∀ (q : Int) (x y : Ob), (bx ds q :: (tl ++ [x])).set (tl.length + 1) y = bx ds q :: (tl ++ [y]) := fun q x y => by rw [List.set_cons_succ, List.set_append_right _ _ (Nat.le_refl _), Nat.sub_self]; rfl
    have sl := stL_at (oj (p + 1) (.lst (R.map Fc.d)))
    have s0 := stL_at (oj p (.lst (R.map Fc.d)))
    have dj := dref_at (oj p (.lst (R.map Fc.d)))
    have ll : oLen [.lst (R.map Fc.d)] = some (.int R.length) := by show some (D.int ((R.map Fc.d).length : Nat)) = _; rw [List.length_map]
    have ap := app_fc (l := M) (F := R[n]) (by omega)
    have st := sj (p + 1) (.lst (R.map Fc.d)) (.lst ((R.eraseIdx n).map Fc.d))
    obtain ⟨k, e2, k0, k1⟩ := draw_ex (ds := ds) (tl := tl ++ [.lst ((R.eraseIdx n).map Fc.d)]) (m := 3) (p := p + 1) (by omega) (by decide)
    have dF : ∀ (F : Fc) S, dref S F.d = F.d := fun _ _ => rfl
    by_cases ck : k = 0
    · obtain ⟨g, e3, g0, g1⟩ := draw_ex (ds := ds) (tl := tl ++ [.lst ((R.eraseIdx n).map Fc.d)]) (m := (M ++ [R[n]]).length) (p := p + 1 + 1) (by omega) (by rw [List.length_append, List.length_singleton]; omega)
      obtain ⟨a, ha⟩ : ∃ a, (M ++ [R[n]])[g.toNat]? = some a := ⟨(M ++ [R[n]])[g.toNat]'(by omega), List.getElem?_eq_getElem _⟩
      have at1 : oIx (.lst ((M ++ [R[n]]).map Fc.d)) (.int g) = some a.d := by
        rw [oIx_l]
        unfold atI
        rw [ixN_nat g0 (by rw [List.length_map]; omega)]
        show ((M ++ [R[n]]).map Fc.d)[g.toNat]? = _
        rw [List.getElem?_map, ha]; rfl
      have am := List.mem_of_getElem? ha
      have ap2 := app_fc (l := M ++ [R[n]]) (F := a) (by rw [List.length_append, List.length_singleton]; omega)
      have ll2 : oLen [.lst ((M ++ [R[n]]).map Fc.d)] = some (.int (M ++ [R[n]]).length) := by show some (D.int (((M ++ [R[n]]).map Fc.d).length : Nat)) = _; rw [List.length_map]
      obtain ⟨q, M', w4, w5, e, q0, hm', hl'⟩ := turn_lp (ds := ds) (tl := tl) (L := L) (s1 := s1) hl c (i + 1) (p + 1 + 1 + 1) (R.eraseIdx n) (M ++ [R[n]] ++ [a]) ⟨.val (.int i), rfl⟩ ⟨.val (R[n]).d, rfl⟩ (by omega) gl (by simp; omega) (fun F => by
        rw [hm F, mem1 F]
        simp only [List.mem_append, List.mem_singleton]
        constructor
        · rintro (h | h | h)
          · exact .inl (.inl (.inl h))
          · exact .inl (.inl (.inr h))
          · exact .inr h
        · rintro (((h | h) | h) | h)
          · exact .inl h
          · exact .inr (.inl h)
          · subst h
            rcases List.mem_append.mp am with h | h
            · exact .inl h
            · exact .inr (.inl (List.mem_singleton.mp h))
          · exact .inr (.inr h))
      refine ⟨q, M', w4, w5, ?_, q0, hm', by simp at hl'; omega⟩
      rw [dRng_succ]
      refine (for1 (by simp [v4.2]) ?_).trans e
      have ow : ∀ s0 s1 s2 s4 s5, ownL [s0, s1, s2, .own (.lst (M.map Fc.d)), s4, s5] 3 = some (M.map Fc.d) := fun _ _ _ _ _ => rfl
      have ow2 : ∀ s0 s1 s2 s4 s5, ownL [s0, s1, s2, .own (.lst ((M ++ [R[n]]).map Fc.d)), s4, s5] 3 = some ((M ++ [R[n]]).map Fc.d) := fun _ _ _ _ _ => rfl
      have df := dF R[n]
      have da := dF a
      generalize (M ++ [R[n]] ++ [a]).map Fc.d = M3 at *
      generalize (M ++ [R[n]]).length = lM at *
      generalize (M ++ [R[n]]).map Fc.d = M2 at *
      generalize M.map Fc.d = M1 at *
      generalize (R.eraseIdx n).map Fc.d = R2 at *
      generalize R.map Fc.d = R1 at *
      generalize (R[n]).d = FD at *
      generalize a.d = AD at *
      simp [l0__law_turned, d__law_draw, v5.2, dj, ll, e1, s0, sl, pp, st, ow, ap, e2, ck, ow2, ll2, e3, at1, ap2, df, da, sMut, -oIx_l]
    · obtain ⟨q, M', w4, w5, e, q0, hm', hl'⟩ := turn_lp (ds := ds) (tl := tl) (L := L) (s1 := s1) hl c (i + 1) (p + 1 + 1) (R.eraseIdx n) (M ++ [R[n]]) ⟨.val (.int i), rfl⟩ ⟨.val (R[n]).d, rfl⟩ (by omega) gl (by simp; omega) (fun F => by
        rw [hm F, mem1 F]
        simp only [List.mem_append, List.mem_singleton]
        constructor
        · rintro (h | h | h)
          · exact .inl (.inl h)
          · exact .inl (.inr h)
          · exact .inr h
        · rintro ((h | h) | h)
          · exact .inl h
          · exact .inr (.inl h)
          · exact .inr (.inr h))
      refine ⟨q, M', w4, w5, ?_, q0, hm', by simp at hl'; omega⟩
      rw [dRng_succ]
      refine (for1 (by simp [v4.2]) ?_).trans e
      have ow : ∀ s0 s1 s2 s4 s5, ownL [s0, s1, s2, .own (.lst (M.map Fc.d)), s4, s5] 3 = some (M.map Fc.d) := fun _ _ _ _ _ => rfl
      have df := dF R[n]
      generalize (M ++ [R[n]]).map Fc.d = M2 at *
      generalize M.map Fc.d = M1 at *
      generalize (R.eraseIdx n).map Fc.d = R2 at *
      generalize R.map Fc.d = R1 at *
      generalize (R[n]).d = FD at *
      simp [l0__law_turned, d__law_draw, v5.2, dj, ll, e1, s0, sl, pp, st, ow, ap, e2, ck, df, sMut]
theorem turned_ex {ds : List Int} {tl : Sto} {L : List Fc} {p : Int} (hl : L.length ≤ 100) (h0 : 0 ≤ p) : ∃ (q : Int) (M : List Fc), f__law_turned [.obj 0, .lst (L.map Fc.d)] (bx ds p :: tl) = some (.ok (.lst (M.map Fc.d)), bx ds q :: (tl ++ [.lst []])) ∧ 0 ≤ q ∧ (∀ F, F ∈ L ↔ F ∈ M) ∧ M.length ≤ 2 * L.length := by
  obtain ⟨q, M, w4, w5, e, q0, hm, hlm⟩ := turn_lp (ds := ds) (tl := tl) (L := L) (s1 := .bo (.lst (L.map Fc.d))) hl L.length 0 p L [] uN uN h0 rfl (by simp; omega) (fun F => by simp)
  refine ⟨q, M, ?_, q0, hm, by simpa using hlm⟩
  have e : forD (tgName 4) l0__law_turned (dRng 0 L.length) [.val (.obj 0), .bo (.lst (L.map Fc.d)), .val (.obj (tl.length + 1)), .own (.lst []), .no, .no] (bx ds p :: (tl ++ [.lst (L.map Fc.d)])) = _ := e
  have er : oRng [.int (L.length : Nat)] = some (dRng 0 L.length) := rng_1 (by omega) (by omega)
  have ll : oLen [.lst (L.map Fc.d)] = some (.int L.length) := by show some (D.int ((L.map Fc.d).length : Nat)) = _; rw [List.length_map]
  have ol : ∀ l : List D, oList [.lst l] = some (.lst l) := fun _ => rfl
  have ob : ∀ l : List D, obOf (.lst l) = some (.lst l) := fun _ => rfl
  have l0 : (0 : Nat) ≤ sizeLine := by decide
  generalize dRng 0 L.length = R at *
  generalize L.map Fc.d = LD at *
  generalize M.map Fc.d = MD at *
  simp [f__law_turned, b__law_turned, ol, ob, l0, ll, er, e, isCont]
def Two (S : Sto) (A1 A2 : List Fc) : Prop := ∃ w1 T1 w2 T2, KnR S 1 2 w1 T1 ∧ KI w1 T1 A1 ∧ KnR S 3 4 w2 T2 ∧ KI w2 T2 A2 ∧ (∀ x ∈ T1, 4 < x.2.1) ∧ (∀ x ∈ T2, 4 < x.2.1) ∧ 5 ≤ S.length
theorem Two.keep {S S' : Sto} {A1 A2 : List Fc} (h : Two S A1 A2) (hS : ∀ i, 0 < i → i < S.length → S'[i]? = S[i]?) (hl : S.length ≤ S'.length) : Two S' A1 A2 := by
  obtain ⟨w1, T1, w2, T2, a, b, c, d, e, f, g⟩ := h
  exact ⟨w1, T1, w2, T2, a.other (n := 0) (m := 0) (fun i hi h1 _ => hS i (by omega) hi) (by omega) (by omega) (fun x hx => by have := e x hx; omega), b, c.other (n := 0) (m := 0) (fun i hi h1 _ => hS i (by omega) hi) (by omega) (by omega) (fun x hx => by have := f x hx; omega), d, e, f, by omega⟩
theorem one_learns {S : Sto} {A1 A2 : List Fc} {F : Fc} (h : Two S A1 A2) (hF : Fk F) (hA : A1.length < 90) : ∃ (b : Bool) (S' : Sto), f_Known_learn [.obj 1, F.d] S = some (.ok (.bl b), S') ∧ Two S' (F :: A1) A2 ∧ S'[0]? = S[0]? := by
  obtain ⟨w1, T1, w2, T2, k1, i1, k2, i2, e1, e2, g⟩ := h
  obtain ⟨b, S', w', T', e, k', i', fr, ln, nw⟩ := learn_ki k1 i1 hF hA
  refine ⟨b, S', e, ⟨w', T', w2, T2, k', i', k2.other (n := 1) (m := 2) fr (by omega) (by omega) (fun x hx => by have := e2 x hx; omega), i2, fun x hx => ?_, e2, by omega⟩, fr 0 (by omega) (by omega) (by omega)⟩
  rcases nw x hx with q | q
  · exact e1 x q
  · omega
theorem two_learns {S : Sto} {A1 A2 : List Fc} {F : Fc} (h : Two S A1 A2) (hF : Fk F) (hA : A2.length < 90) : ∃ (b : Bool) (S' : Sto), f_Known_learn [.obj 3, F.d] S = some (.ok (.bl b), S') ∧ Two S' A1 (F :: A2) ∧ S'[0]? = S[0]? := by
  obtain ⟨w1, T1, w2, T2, k1, i1, k2, i2, e1, e2, g⟩ := h
  obtain ⟨b, S', w', T', e, k', i', fr, ln, nw⟩ := learn_ki k2 i2 hF hA
  refine ⟨b, S', e, ⟨w1, T1, w', T', k1.other (n := 3) (m := 4) fr (by omega) (by omega) (fun x hx => by have := e1 x hx; omega), i1, k', i', e1, fun x hx => ?_, by omega⟩, fr 0 (by omega) (by omega) (by omega)⟩
  rcases nw x hx with q | q
  · exact e2 x q
  · omega
theorem Two.at1 {S : Sto} {A1 A2 : List Fc} (h : Two S A1 A2) : ∃ F, stI S 1 = some (("Known" : Str), F) ∧ F.lookup ("learn" : Str) = none ∧ F.lookup ("at" : Str) = none ∧ F.lookup ("facts" : Str) = none ∧ F.lookup ("newest" : Str) = none := by
  obtain ⟨w1, T1, w2, T2, k1, _⟩ := h
  exact ⟨_, k1.at, rfl, rfl, rfl, rfl⟩
theorem Two.at3 {S : Sto} {A1 A2 : List Fc} (h : Two S A1 A2) : ∃ F, stI S 3 = some (("Known" : Str), F) ∧ F.lookup ("learn" : Str) = none ∧ F.lookup ("at" : Str) = none ∧ F.lookup ("facts" : Str) = none ∧ F.lookup ("newest" : Str) = none := by
  obtain ⟨w1, T1, w2, T2, k1, _, k2, _⟩ := h
  exact ⟨_, k2.at, rfl, rfl, rfl, rfl⟩
theorem mem_sh {α : Type} {a x : α} {A L : List α} : (x ∈ a :: A ∨ x ∈ L) ↔ (x ∈ A ∨ x ∈ a :: L) := by
  simp only [List.mem_cons]
  exact ⟨fun h => h.elim (fun h => h.elim (fun e => .inr (.inl e)) .inl) fun h => .inr (.inr h), fun h => h.elim (fun h => .inl (.inr h)) fun h => h.elim (fun e => .inl (.inl e)) .inr⟩
theorem loop1 {s0 s1 s2 s4 : Sl} : ∀ (L : List Fc) (S : Sto) (A1 A2 : List Fc) (v5 v6 : U), Two S A1 A2 → (∀ F ∈ L, Fk F) → A1.length + L.length < 90 →
    ∃ (S' : Sto) (B : List Fc) (w5 : U), forD (tgName 5) l0_law (L.map Fc.d) [s0, s1, s2, .val (.obj 1), s4, v5.1, v6.1] S = some (.nx [s0, s1, s2, .val (.obj 1), s4, w5.1, v6.1], S') ∧ Two S' B A2 ∧ (∀ F, F ∈ B ↔ F ∈ A1 ∨ F ∈ L) ∧ B.length = A1.length + L.length ∧ S'[0]? = S[0]?
  | [], S, A1, A2, v5, v6, h, _, _ => ⟨S, A1, v5, by simp, h, fun F => by simp, by simp, rfl⟩
  | F :: L, S, A1, A2, v5, v6, h, hL, hl => by
    rw [List.length_cons] at hl
    obtain ⟨b, S1, e1, t1, z1⟩ := one_learns h (hL F (by simp)) (by omega)
    obtain ⟨FF, f1, f2, _⟩ := h.at1
    obtain ⟨S', B, w5, e, t, mb, lb, z⟩ := loop1 (s0 := s0) (s1 := s1) (s2 := s2) (s4 := s4) L S1 (F :: A1) A2 ⟨.val F.d, rfl⟩ v6 t1 (fun G hG => hL G (List.mem_cons_of_mem _ hG)) (by simp; omega)
    refine ⟨S', B, w5, ?_, t, fun G => (mb G).trans mem_sh, by rw [lb]; simp; omega, z.trans z1⟩
    rw [List.map_cons]
    refine (for1 (by simp [v5.2]) ?_).trans e
    have dF : ∀ S, dref S F.d = F.d := fun _ => rfl
    generalize F.d = FD at *
    simp [l0_law, f1, f2, d_Known_learn, e1, dF]
theorem loop2 {s0 s1 s2 s3 : Sl} : ∀ (L : List Fc) (S : Sto) (A1 A2 : List Fc) (v5 v6 : U), Two S A1 A2 → (∀ F ∈ L, Fk F) → A2.length + L.length < 90 →
    ∃ (S' : Sto) (B : List Fc) (w5 : U), forD (tgName 5) l1_law (L.map Fc.d) [s0, s1, s2, s3, .val (.obj 3), v5.1, v6.1] S = some (.nx [s0, s1, s2, s3, .val (.obj 3), w5.1, v6.1], S') ∧ Two S' A1 B ∧ (∀ F, F ∈ B ↔ F ∈ A2 ∨ F ∈ L) ∧ B.length = A2.length + L.length ∧ S'[0]? = S[0]?
  | [], S, A1, A2, v5, v6, h, _, _ => ⟨S, A2, v5, by simp, h, fun F => by simp, by simp, rfl⟩
  | F :: L, S, A1, A2, v5, v6, h, hL, hl => by
    rw [List.length_cons] at hl
    obtain ⟨b, S1, e1, t1, z1⟩ := two_learns h (hL F (by simp)) (by omega)
    obtain ⟨FF, f1, f2, _⟩ := h.at3
    obtain ⟨S', B, w5, e, t, mb, lb, z⟩ := loop2 (s0 := s0) (s1 := s1) (s2 := s2) (s3 := s3) L S1 A1 (F :: A2) ⟨.val F.d, rfl⟩ v6 t1 (fun G hG => hL G (List.mem_cons_of_mem _ hG)) (by simp; omega)
    refine ⟨S', B, w5, ?_, t, fun G => (mb G).trans mem_sh, by rw [lb]; simp; omega, z.trans z1⟩
    rw [List.map_cons]
    refine (for1 (by simp [v5.2]) ?_).trans e
    have dF : ∀ S, dref S F.d = F.d := fun _ => rfl
    generalize F.d = FD at *
    simp [l1_law, f1, f2, d_Known_learn, e1, dF]
theorem tD_sm {z : Int} (h0 : 0 ≤ z) (h : z ≤ 2) : Sm 2 166 (tD z) :=
  (Sm.tup (n := 1) (w := 82) (k := 2) (fa1 (Sm.lit (by decide +kernel)) (fa1 ((Sm.tup (n := 0) (w := 40) (k := 2) (fa1 (Sm.lit (by decide +kernel)) (fa1 (Sm.int (by omega)) fa0)) (by simp)).mono (Nat.le_refl _) (Nat.le_refl _)) fa0)) (by simp)).mono (Nat.le_refl _) (by decide)
theorem tD_al {z : Int} (h0 : 0 ≤ z) (h : z ≤ 2) (S : Sto) : f__law_alike [tD z, tD z] S = some (.ok (.bl true), S) :=
  sm_alike (tD_sm h0 h) (by decide) (by decide) (fun S => rfl) (fun S => rfl) S
theorem row_sm {r : Rq} {x : Spn} (hr : rok r = true) (hs : 0 ≤ x.s ∧ x.s ≤ 1000) (hu : 0 ≤ x.u ∧ x.u ≤ 1000) {z : Int} (hx : x.t = tD z) (z0 : 0 ≤ z) (z2 : z ≤ 2) : Sm 3 668 (rowF r x) := by
  show Sm 3 668 (.tup [r.d, x.t, .int x.s, .int x.u])
  rw [hx]
  exact Sm.tup (n := 2) (w := 166) (k := 4) (fa1 ((rq_sm hr).mono (by decide) (by decide)) (fa1 (tD_sm z0 z2) (fa1 ((Sm.int (n := 2) (by omega)).mono (Nat.le_refl _) (by decide)) (fa1 ((Sm.int (n := 2) (by omega)).mono (Nat.le_refl _) (by decide)) fa0)))) (by simp)
theorem rds_in {T : Kt} {r : Rq} (h : r ∈ rds T) : (fnd T r).isSome = true ∧ (r = rA ∨ r = rB) := by
  unfold rds at h
  rcases List.mem_append.mp h with h | h
  · split at h
    · rename_i c; rw [List.mem_singleton.mp h]; exact ⟨c, .inl rfl⟩
    · cases h
  · split at h
    · rename_i c; rw [List.mem_singleton.mp h]; exact ⟨c, .inr rfl⟩
    · cases h
theorem rds_len (T : Kt) : (rds T).length ≤ 2 := by
  unfold rds; split <;> split <;> simp
theorem facts_sm {w : Int} {T : Kt} {A : List Fc} (k : KI w T A) (hA : A.length ≤ 60) : Sm 4 80280 (.lst ((rds T).flatMap fun r => (spl T r).map (rowF r))) := by
  refine Sm.lst (n := 3) (w := 668) (k := 120) (fun d hd => ?_) ?_
  · obtain ⟨r, hr, hd⟩ := List.mem_flatMap.mp hd
    obtain ⟨x, hx, rfl⟩ := List.mem_map.mp hd
    have g := (k.can r).val x hx
    have b : ∀ v, x.s ≤ v → v ≤ x.u → 0 ≤ v ∧ v ≤ 29 := fun v h1 h2 => by
      obtain ⟨F, hF, q⟩ := (k.cov r v).mp ⟨x, hx, h1, h2⟩
      have f := k.all F hF
      have := f.s0; have := f.u29; omega
    have b1 := b x.s (by omega) g.1
    have b2 := b x.u g.1 (by omega)
    have z := hz_ok (r := r) b1.1 b1.2
    have ro : rok r = true := by rcases (rds_in hr).2 with e | e <;> rw [e]; exact rk_len.2.2.1; exact rk_len.2.2.2
    exact row_sm ro (by omega) (by omega) (z := hz r x.s) (g.2 x.s (by omega) g.1) z.1 z.2
  · have sl := k.sl
    unfold rds
    have la := sl rA
    have lb := sl rB
    split <;> split <;> simp <;> omega
theorem facts_al {S : Sto} {A1 A2 : List Fc} (h : Two S A1 A2) (hA : ∀ F, F ∈ A1 ↔ F ∈ A2) (hl : A1.length ≤ 60) : ∃ FD w, f_Known_facts [.obj 1] S = some (.ok FD, S) ∧ f_Known_facts [.obj 3] S = some (.ok FD, S) ∧ (∀ S, f__law_alike [FD, FD] S = some (.ok (.bl true), S)) ∧ (∀ S, dref S FD = FD) ∧ f_Known_newest [.obj 1] S = some (.ok (.int w), S) ∧ f_Known_newest [.obj 3] S = some (.ok (.int w), S) := by
  obtain ⟨w1, T1, w2, T2, k1, i1, k2, i2, _⟩ := h
  obtain ⟨we, se, fe⟩ := ki_same i1 i2 hA
  have re : rds T1 = rds T2 := by unfold rds; rw [fe rA, fe rB]
  have f1 := (facts_kn k1 (sort_reads i1) (fun r hr => (rds_in hr).1) (by have := rds_len T1; omega)).1
  have f2 := (facts_kn k2 (sort_reads i2) (fun r hr => (rds_in hr).1) (by have := rds_len T2; omega)).1
  have e : ((rds T2).flatMap fun r => (spl T2 r).map (rowF r)) = (rds T1).flatMap fun r => (spl T1 r).map (rowF r) := by
    rw [re]
    congr 1
    funext r
    rw [se r]
  rw [e] at f2
  subst we
  refine ⟨_, w1, f1, f2, fun S => ?_, fun _ => rfl, newest_kn k1, newest_kn k2⟩
  exact sm_alike (facts_sm i1 hl) (by decide) (by decide) (fun S => rfl) (fun S => rfl) S
theorem in_lp {S : Sto} {A1 A2 : List Fc} {F : Fc} {s0 s1 s2 : Sl} (h : Two S A1 A2) (h1 : F ∈ A1) (h2 : F ∈ A2) : ∀ (c : Nat) (v : Int) (v6 : U), F.s ≤ v → v + c ≤ F.u + 1 →
    ∃ w6 : U, forD (tgName 6) l2_law (dRng v c) [s0, s1, s2, .val (.obj 1), .val (.obj 3), .val F.d, v6.1] S = some (.nx [s0, s1, s2, .val (.obj 1), .val (.obj 3), .val F.d, w6.1], S)
  | 0, v, v6, _, _ => ⟨v6, by rw [dRng_zero]; simp⟩
  | c + 1, v, v6, a, b => by
    obtain ⟨w6, e⟩ := in_lp (s0 := s0) (s1 := s1) (s2 := s2) h h1 h2 c (v + 1) ⟨.val (.int v), rfl⟩ (by omega) (by omega)
    refine ⟨w6, ?_⟩
    rw [dRng_succ]
    refine (for1 (by simp [v6.2]) ?_).trans e
    obtain ⟨F1, f1, _, f1a, _⟩ := h.at1
    obtain ⟨F3, f3, _, f3a, _⟩ := h.at3
    obtain ⟨w1, T1, w2, T2, k1, i1, k2, i2, _⟩ := h
    have t1 := at_ki k1 i1 h1 a (by omega : v ≤ F.u)
    have t2 := at_ki k2 i2 h2 a (by omega : v ≤ F.u)
    have fk := i1.all F h1
    have z := hz_ok (r := F.r) fk.s0 (by have := fk.su; have := fk.u29; omega)
    have al := fun S => tD_al z.1 z.2 S
    have dt := fk.td
    have q0 : oIx F.d (.int 0) = some F.r.d := rfl
    have q1 : oIx F.d (.int 1) = some F.t.d := rfl
    have dF : ∀ S, dref S F.d = F.d := fun _ => rfl
    have dr : ∀ S, dref S F.r.d = F.r.d := fun S => dref_rq S F.r
    have dd : ∀ S, dref S F.t.d = F.t.d := fun S => dref_tK S F.t
    rw [← dt] at al
    generalize F.d = FD at *
    generalize F.r.d = RD at *
    generalize F.t.d = TD at *
    simp [l2_law, f1, f1a, f3, f3a, d_Known_at, t1, t2, q0, q1, dF, dr, dd, d__law_alike, al]
theorem loop3 {S : Sto} {A1 A2 : List Fc} {s0 s1 s2 : Sl} (h : Two S A1 A2) : ∀ (L : List Fc) (v5 v6 : U), (∀ F ∈ L, F ∈ A1 ∧ F ∈ A2) →
    ∃ (w5 w6 : U), forD (tgName 5) l3_law (L.map Fc.d) [s0, s1, s2, .val (.obj 1), .val (.obj 3), v5.1, v6.1] S = some (.nx [s0, s1, s2, .val (.obj 1), .val (.obj 3), w5.1, w6.1], S)
  | [], v5, v6, _ => ⟨v5, v6, by simp⟩
  | F :: L, v5, v6, hL => by
    obtain ⟨m1, m2⟩ := hL F (by simp)
    have fk : Fk F := by obtain ⟨w1, T1, w2, T2, k1, i1, _⟩ := h; exact i1.all F m1
    obtain ⟨x6, ei⟩ := in_lp (s0 := s0) (s1 := s1) (s2 := s2) h m1 m2 (F.u + 1 - F.s).toNat F.s v6 (by omega) (by have := fk.su; omega)
    obtain ⟨w5, w6, e⟩ := loop3 (s0 := s0) (s1 := s1) (s2 := s2) h L ⟨.val F.d, rfl⟩ x6 (fun G hG => hL G (List.mem_cons_of_mem _ hG))
    refine ⟨w5, w6, ?_⟩
    rw [List.map_cons]
    refine (for1 (by simp [v5.2]) ?_).trans e
    obtain ⟨F1, f1, f1a, _⟩ := h.at1
    obtain ⟨F3, f3, f3a, _⟩ := h.at3
    obtain ⟨w1, T1, w2, T2, k1, i1, k2, i2, _⟩ := h
    have l1 := learn_old k1 i1 m1
    have l2 := learn_old k2 i2 m2
    have q2 : oIx F.d (.int 2) = some (.int F.s) := rfl
    have q3 : oIx F.d (.int 3) = some (.int F.u) := rfl
    have dF : ∀ S, dref S F.d = F.d := fun _ => rfl
    have er : oRng [.int F.s, .int (F.u + 1)] = some (dRng F.s (F.u + 1 - F.s).toNat) := by
      have := fk.s0; have := fk.su; have := fk.u29
      exact rng_2 (by omega) (by omega) (by omega) (by omega)
    have nb : oNotB (.bl false) (.bl false) = some (.bl false) := rfl
    generalize dRng F.s (F.u + 1 - F.s).toNat = RG at *
    generalize F.d = FD at *
    simp [l3_law, f1, f1a, f3, f3a, d_Known_learn, l1, l2, nb, q2, q3, dF, er, ei]
theorem law_true (ns : List Int) (_h : ns.length ≤ 63) (_h2 : ∀ z ∈ ns, Builtin.Int.intBits z ≤ 1048576) : ∃ S', f_law [.rol (ns.map D.int)] [] = some (.ok (.bl true), S') := by
  obtain ⟨ds, e1⟩ := digits_ex (ns := ns) (S := [])
  obtain ⟨k, e2, k0, k1⟩ := draw_ex (ds := ds) (tl := []) (m := 12) (p := 0) (by omega) (by decide)
  obtain ⟨q1, L, x3, x4, x5, x6, x7, x8, e3, q10, hL, lL⟩ := facts_lp (ds := ds) (tl := []) (s1 := .bo (.int (1 + k))) (1 + k).toNat 0 (0 + 1) [] uN uN uN uN uN uN (by omega) (by simp) (by simp; omega)
  have lL : L.length ≤ 12 := by simp at lL; omega
  have er : oRng [.int (1 + k)] = some (dRng 0 (1 + k).toNat) := rng_1 (by omega) (by omega)
  have e3 : forD (tgName 3) l0__law_facts (dRng 0 (1 + k).toNat) [.val (.obj 0), .bo (.int (1 + k)), .own (.lst []), .no, .no, .no, .no, .no, .no] [bx ds 1] = _ := e3
  have l0 : (0 : Nat) ≤ sizeLine := by decide
  have fc : f__law_facts [.obj 0, .int (1 + k)] [bx ds 1] = some (.ok (.lst (L.map Fc.d)), [bx ds q1]) := by
    generalize dRng 0 (1 + k).toNat = R at *
    generalize L.map Fc.d = LD at *
    simp [f__law_facts, b__law_facts, l0, er, e3, isCont]
  have n1 : f_Known___init__ [.obj 1] [bx ds q1, .ins "Known" []] = some (.ok .non, [bx ds q1, knO 2 (-1), .dT []]) := kinit_gen [bx ds q1]
  have n2 : f_Known___init__ [.obj 3] [bx ds q1, knO 2 (-1), .dT [], .ins "Known" []] = some (.ok .non, [bx ds q1, knO 2 (-1), .dT [], knO 4 (-1), .dT []]) := kinit_gen [bx ds q1, knO 2 (-1), .dT []]
  have t0 : Two [bx ds q1, knO 2 (-1), .dT [], knO 4 (-1), .dT []] [] [] := ⟨-1, [], -1, [], ⟨rfl, rfl, fun x hx => (by cases hx), by decide, fun x hx => (by cases hx), by decide, fun x hx => (by cases hx)⟩, KI.nil, ⟨rfl, rfl, fun x hx => (by cases hx), by decide, fun x hx => (by cases hx), by decide, fun x hx => (by cases hx)⟩, KI.nil, fun x hx => (by cases hx), fun x hx => (by cases hx), Nat.le_refl 5⟩
  obtain ⟨S1, B1, w5, e4, t1, mb1, lb1, z1⟩ := loop1 (s0 := .val (.rol (ns.map D.int))) (s1 := .val (.obj 0)) (s2 := .val (.lst (L.map Fc.d))) (s4 := .val (.obj 3)) L _ [] [] uN uN t0 hL (by simp; omega)
  obtain ⟨tl, hS1⟩ : ∃ tl, S1 = bx ds q1 :: tl := by
    cases S1 with
    | nil => cases z1
    | cons a tl => exact ⟨tl, by rw [show a = bx ds q1 from Option.some.inj z1]⟩
  subst hS1
  obtain ⟨q2, M, e5, q20, mM, lM⟩ := turned_ex (ds := ds) (tl := tl) (L := L) (by omega) q10
  have t2 : Two (bx ds q2 :: (tl ++ [.lst []])) B1 [] := t1.keep (fun i h0 hi => by
    obtain ⟨j, rfl⟩ : ∃ j, i = j + 1 := ⟨i - 1, by omega⟩
    rw [List.getElem?_cons_succ, List.getElem?_cons_succ, List.getElem?_append_left (by simp at hi; omega)]) (by simp)
  obtain ⟨S3, B2, x5, e6, t3, mb2, lb2, z3⟩ := loop2 (s0 := .val (.rol (ns.map D.int))) (s1 := .val (.obj 0)) (s2 := .val (.lst (L.map Fc.d))) (s3 := .val (.obj 1)) M _ B1 [] w5 uN t2 (fun F hF => hL F ((mM F).mpr hF)) (by simp; omega)
  have hB : ∀ F, F ∈ B1 ↔ F ∈ B2 := fun F => by rw [mb1, mb2]; simp [mM F]
  obtain ⟨FD, w, f1, f2, al, dFD, nw1, nw2⟩ := facts_al t3 hB (by simp at lb1; omega)
  obtain ⟨y5, y6, e7⟩ := loop3 (s0 := .val (.rol (ns.map D.int))) (s1 := .val (.obj 0)) (s2 := .val (.lst (L.map Fc.d))) t3 L x5 uN (fun F hF => ⟨(mb1 F).mpr (.inr hF), (mb2 F).mpr (.inr ((mM F).mp hF))⟩)
  obtain ⟨K1, g1, g1l, g1a, g1f, g1n⟩ := t3.at1
  obtain ⟨K3, g3, g3l, g3a, g3f, g3n⟩ := t3.at3
  have a1 : f_Known_at [.obj 3, rA.d, .int 30] S3 = some (.ok .non, S3) := by
    obtain ⟨w1, T1, w2, T2, k1, i1, k2, i2, _⟩ := t3
    exact at_no k2 i2 rA fun F hF _ h => by have := (i2.all F hF).u29; omega
  have a2 : f_Known_at [.obj 3, (Rq.an "doc:plan").d, .int 3] S3 = some (.ok .non, S3) := by
    obtain ⟨w1, T1, w2, T2, k1, i1, k2, i2, _⟩ := t3
    exact at_no k2 i2 (.an "doc:plan") fun F hF e h => by rcases (i2.all F hF).r with q | q <;> (rw [e] at q; cases q)
  have ra : rA.d = .tup [.str "attribute", .str "doc:plan", .str "a"] := rfl
  have rn : (Rq.an "doc:plan").d = .tup [.str "ancestors", .str "doc:plan"] := rfl
  rw [ra] at a1
  rw [rn] at a2
  have nn : dNe (.int w) (.int w) = some (.bl false) := by show some (D.bl (!decide _)) = _; simp
  have it : ∀ l : List D, dItems (.lst l) = some l := fun _ => rfl
  have l2 : (2 : Nat) ≤ sizeLine := by decide
  have l3 : (3 : Nat) ≤ sizeLine := by decide
  have dn : ∀ l : List D, ∀ S, dref S (.lst l) = .lst l := fun _ _ => rfl
  refine ⟨S3, ?_⟩
  have e4 : forD (tgName 5) l0_law (L.map Fc.d) [.val (.rol (ns.map D.int)), .val (.obj 0), .val (.lst (L.map Fc.d)), .val (.obj 1), .val (.obj 3), .no, .no] [bx ds q1, knO 2 (-1), .dT [], knO 4 (-1), .dT []] = _ := e4
  generalize L.map Fc.d = LD at *
  generalize M.map Fc.d = MD at *
  generalize [bx ds q1, knO 2 (-1), .dT [], knO 4 (-1), .dT []] = S0 at *
  simp [f_law, b_law, d__law_digits, e1, l2, d__law_draw, e2, d__law_facts, fc, d_Known___init__, n1, n2, it, e4, d__law_turned, e5, e6, g1, g1f, g1n, g3, g3f, g3n, g3a, d_Known_facts, d_Known_newest, f1, f2, d__law_alike, al, dFD, nw1, nw2, nn, e7, d_Known_at, l3, a1, a2, DL.isN]
end K50
open PySem PySem.W PyProof.Rows
set_option maxRecDepth 100000 in
set_option maxHeartbeats 0 in
theorem PySem.Challenge.cw_farfacts_k50_order_of_facts_does_not_mat_holds : PySem.Challenge.rw_farfacts_k50_order_of_facts_does_not_mat.Holds := by
  w_on; o_law; k_head; (case hw => w_witness2)
  k_fill
  case hc =>
  refine DL.walk_end (l := _) (n := 63) (k := 8) (x := "_law_script") (sem := K50.f_law) (mr := .frz) rfl (by decide) rfl ⟨rfl, by decide, by decide⟩ (fun w h Y => PySem.W.kIn_of Y) ?F rfl K50.law_true
  case F =>
    intro w mg fa h KX G hmg
    refine' K50.fin KX G hmg ?zaa ?zab ?zac ?zad ?zae ?zaf ?zag ?zah ?zai ?zaj ?zak ?zal ?zam ?zan ?zao ?zap ?zaq ?zar ?zas ?zat ?zau ?zav ?zaw ?zax ?zay ?zaz ?zba ?zbb ?zbc ?zbd ?zbe ?zbf ?zbg ?zbh ?zbi ?zbj ?zbk ?zbl ?zbm ?zbn ?zbo ?zbp ?zbq ?zbr ?zbs ?zbt ?zbu ?zbv ?zbw ?zbx ?zby ?zbz ?zca ?zcb ?zcc ?zcd ?zce ?zcf ?zcg ?zch ?zci ?zcj ?zck ?zcl ?zcm ?zcn ?zco ?zcp ?zcq ?zcr ?zcs ?zct ?zcu ?zcv ?zcw ?zcx ?zcy ?zcz ?zda ?zdb ?zdc ?zdd ?zde ?zdf ?zdg ?zdh ?zdi ?zdj ?zdk ?zdl ?zdm ?zdn ?zdo ?zdp ?zdq ?zdr ?zds ?zdt ?zdu ?zdv ?zdw ?zdx ?zdy ?zdz ?zea ?zeb ?zec ?zed ?zee ?zef ?zeg ?zeh ?zei ?zej ?zek ?zel ?zem ?zen ?zeo ?zep ?zeq ?zer ?zes ?zet ?zeu ?zev ?zew ?zex ?zey ?zez ?zfa ?zfb ?zfc ?zfd ?zfe ?zff ?zfg ?zfh ?zfi ?zfj ?zfk ?zfl ?zfm ?zfn ?zfo ?zfp ?zfq ?zfr ?zfs ?zft ?zfu ?zfv ?zfw ?zfx ?zfy ?zfz ?zga ?zgb ?zgc ?zgd ?zge ?zgf ?zgg ?zgh ?zgi ?zgj ?zgk ?zgl ?zgm ?zgn ?zgo ?zgp ?zgq ?zgr ?zgs ?zgt ?zgu ?zgv ?zgw ?zgx ?zgy ?zgz ?zha ?zhb ?zhc ?zhd ?zhe ?zhf
    case zaa | zab | zac | zad | zae | zaf | zag | zah | zai | zaj | zak | zal | zam | zan | zao | zap | zaq | zar | zas | zat | zau => first | k_is | rfl | k_exc | decide +kernel
    (case zav => first | rfl | k_is | decide +kernel)
    case zaw | zax | zay | zaz | zba | zbb | zbc | zbd | zbe | zbf | zbg | zbh | zbi | zbj | zbk | zbl | zbm | zbn | zbo | zbp | zbq | zbr | zbs | zbt | zbu | zbv | zbw | zbx | zby | zbz | zca | zcb | zcc | zcd | zce | zcf | zcg | zch | zci | zcj | zck | zcl | zcm | zcn | zco | zcp | zcq | zcr | zcs | zct | zcu | zcv | zcw | zcx | zcy | zcz | zda | zdb | zdc | zdd | zde | zdf | zdg | zdh | zdi | zdj | zdk | zdl | zdm | zdn | zdo | zdp | zdq | zdr | zds | zdt | zdu | zdv | zdw | zdx | zdy | zdz | zea | zeb | zec | zed | zee | zef | zeg | zeh | zei | zej | zek | zel | zem | zen | zeo | zep | zeq | zer | zes | zet | zeu | zev | zew | zex | zey | zez | zfa | zfb | zfc | zfd | zfe | zff | zfg | zfh | zfi | zfj | zfk | zfl | zfm | zfn | zfo | zfp | zfq | zfr | zfs | zft | zfu | zfv | zfw | zfx | zfy | zfz | zga | zgb | zgc | zgd | zge | zgf | zgg | zgh | zgi | zgj | zgk | zgl | zgm | zgn | zgo | zgp | zgq | zgr | zgs | zgt | zgu | zgv | zgw | zgx | zgy | zgz | zha | zhb | zhc | zhd | zhe | zhf => first | k_is | rfl | k_exc | decide +kernel
