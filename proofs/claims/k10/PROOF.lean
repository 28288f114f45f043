import PyProof.Rows.All
import Wide.All
import OpenK.AllK
import Wide.FinOn
import HandS.ForMost
import HandS.ForExc
import HandS.Flow
import HandS.CallSlots
import HandS.Defaults
import HandS.IsInst
import HandS.Wide
import HandS.RaiseMore
import HandS.Conv
import HandS.TupAny
import HandS.Lambda
import HandS.HeadHook4
import HandS.HeadEnd
import PyProof.ReprRoads
import PyProof.RowDictHeap
import HandS.Style
import HandS.TupMul
import PyProof.Rows.SeqMore
import PyProof.Rows.ListMulArg
import HandS.Deep
import KE.KExcIs
import HandS.ExcField
import HandS.ExcValue
import KE.KDictDisplayH
import PyProof.Rows.TupDisplay
import HandS.Zip
import KE.KSuper
import KE.KExcSuper
import HandS.ExcInit
import HandS.ExcOwn
import HandS.ExcSuper
import HandS.HeadWalk
import HandS.TryOnly
import HandS.Iter
import KE.GoesMore
import PyProof.EnumMake
import HandS.Star
import KE.KDflt
import HandS.Head0
import HandS.Head1
import HandS.Head2
import PyProof.StrLawsTight
import PyProof.Rows.StrItems
import KE.KxField
import KE.KIntText
import KE.KStateDown
import PySem.Challenge.RW_meettrees_k10_heads_that_hold
set_option Elab.async false
set_option linter.all false
set_option maxRecDepth 100000
set_option maxHeartbeats 1000000
/-! PD1: data, store, worlds, what represents what -/
namespace PD
open PySem PySem.Spec PyProof.Rows L2
/-- data -/
inductive D where
  | non | bl (b : Bool) | int (i : Int) | str (x : Str)
  | tup (xs : List D) | lst (xs : List D)
  | dic (kvs : List (Key × D))
  | dct
  /-- the function that a def got -/
  | fnv
  | ins (c : Nat) (fs : List (Str × D))
  | exc (c : Nat) (fs : List (Str × D))
  | ref (n : Nat)
  | cls (c : Nat)
  | ty (n : String)
  deriving Inhabited
/-- what may change: the store's entries -/
inductive MO where
  | lst (xs : List D)
  | ins (c : Nat) (fs : List (Str × D))
  | dead
  deriving Inhabited
def MO.live : MO → Bool
  | .dead => false
  | _ => true
abbrev Store := List MO
abbrev Env' := List (Option D)
/-- a world: the abstract heap, where the store's entries lie, the store -/
structure Wd where
  H : Hp
  ms : List Addr
  S : Store
  /-- lists that grow just now -/
  pv : List Addr
def Mu (w : Wd) (a : Addr) : Prop := (∃ (i : Nat) (mo : MO), w.ms[i]? = some a ∧ w.S[i]? = some mo ∧ mo.live = true) ∨ a ∈ w.pv
/-- fixed there -/
def Fz (w : Wd) (a : Addr) (u : HO) : Prop := ¬ Mu w a ∧ Rd w.H a u
/-- a table of code objects -/
def isTb : HO → Bool
  | .tbl _ => true
  | _ => false
/-- no table, nothing of other kinds -/
def Pl (o : HO) : Prop := isTb o = false ∧ ∀ q, o ≠ .ext q
structure Le0 (w w' : Wd) : Prop where
  kept : ∀ a o, w.H a = some o → ¬ Mu w a → isTb o = false → w'.H a = some o ∧ ¬ Mu w' a
  more : ∃ l, w'.ms = w.ms ++ l
theorem Le0.keep {w w' : Wd} (l : Le0 w w') (a : Addr) (o : HO) (h : w.H a = some o) (n : ¬ Mu w a) (q : isTb o = false := by rfl) : w'.H a = some o ∧ ¬ Mu w' a := l.kept a o h n q
structure Le (w w' : Wd) : Prop extends Le0 w w' where
  pvE : w'.pv = w.pv
  pvK : ∀ a ∈ w.pv, w'.H a = w.H a
theorem Le0.refl (w : Wd) : Le0 w w := ⟨fun _ _ h n _ => ⟨h, n⟩, [], by simp⟩
theorem Le.refl (w : Wd) : Le w w := ⟨.refl w, rfl, fun _ _ => rfl⟩
theorem Le0.trans {a b c : Wd} (x : Le0 a b) (y : Le0 b c) : Le0 a c :=
  ⟨fun p o h n q => let ⟨h1, n1⟩ := x.kept p o h n q; y.kept p o h1 n1 q, by
    obtain ⟨l, e⟩ := x.more
    obtain ⟨l', e'⟩ := y.more
    exact ⟨l ++ l', by rw [e', e, List.append_assoc]⟩⟩
theorem Le.trans {a b c : Wd} (x : Le a b) (y : Le b c) : Le a c :=
  ⟨x.toLe0.trans y.toLe0, y.pvE.trans x.pvE, fun p hp => (y.pvK p (by rw [x.pvE]; exact hp)).trans (x.pvK p hp)⟩
theorem Fz.le {w w' : Wd} {a : Addr} {u : HO} (h : Fz w a u) (l : Le0 w w') (q : isTb u = false := by rfl) : Fz w' a u := by
  obtain ⟨n, r⟩ := h
  rcases r with r | ⟨o, r⟩
  · obtain ⟨h1, n1⟩ := l.keep a _ r n q
    exact ⟨n1, .inl h1⟩
  · obtain ⟨h1, n1⟩ := l.keep a _ r n
    exact ⟨n1, .inr ⟨o, h1⟩⟩
/-- a list, a tuple of the written part -/
def KL (K : PySem.W.Frag) (a : Addr) (xs : List V) : Prop := ∃ (o : Obj) (its : Array Value) (n : Nat), K.lookup a = some o ∧ o.cls = .type "list" ∧ o.dict = none ∧ o.data = .seq its n ∧ its.size ≤ sizeLine ∧ Vals xs its.toList
def KT (K : PySem.W.Frag) (a : Addr) (xs : List V) : Prop := ∃ (o : Obj) (its : Array Value) (n : Nat), K.lookup a = some o ∧ o.cls = .type "tuple" ∧ o.data = .seq its n ∧ its.size ≤ sizeLine ∧ Vals xs its.toList
/-- what is fixed of the program: the written part, where the classes stand -/
structure PC where
  K : PySem.W.Frag
  clsA : Nat → Addr
  okC : Nat → Prop
  /-- classes of exceptions -/
  okX : Nat → Prop
  /-- tables of code objects, the names there -/
  tabs : List (Addr × Str)
  /-- the function that this def got -/
  fnv : Option Addr
  /-- what stays of the def that made it -/
  inv : Wd → Prop
  invS : ∀ w w', Le0 w w' → inv w → inv w'
/-- an exception's object that is held: its class, its dict -/
def ExV (cls : Value) (od : Option Addr) (a : Addr) : HO := .ext fun h => ∃ (oe : Obj) (vs : Array Value), h.get? a = some oe ∧ Zc cls od oe ∧ oe.data = .fields vs
section
variable (G : PC)
def LstAt (w : Wd) (a : Addr) (xs : List V) : Prop := Fz w a (.lst xs) ∨ KL G.K a xs
def TupAt (w : Wd) (a : Addr) (xs : List V) : Prop := (¬ Mu w a ∧ w.H a = some (.tup xs)) ∨ KT G.K a xs
def InsAt (w : Wd) (a : Addr) (c : Nat) (fs : List (Str × V)) : Prop := ¬ Mu w a ∧ ∃ dx, w.H a = some (.ins (G.clsA c) dx fs)
def DicAt (w : Wd) (a : Addr) (kvs : List (Key × V)) : Prop := ¬ Mu w a ∧ w.H a = some (.dK kvs)
/-- a dict of whose keys nothing is told -/
def DicX (a : Addr) : HO := .ext fun h => ∃ o : Obj, h.get? a = some o ∧ o.cls = .type "dict"
/-- its dict -/
def ExD (w : Wd) (us : List (Str × V)) : Option Addr → Prop
  | none => us = []
  | some d => ¬ Mu w d ∧ w.H d = some (.xd us)
mutual
def Rep (w : Wd) : D → V → Prop
  | .non, v => v = .non
  | .bl b, v => v = .bl b
  | .int i, v => v = .int i
  | .str x, v => v = .str x ∧ x.length ≤ sizeLine
  | .tup ds, v => ∃ a vs, v = .ref a ∧ TupAt G w a vs ∧ RepL w ds vs
  | .lst ds, v => ∃ a vs, v = .ref a ∧ LstAt G w a vs ∧ RepL w ds vs
  | .dic kvs, v => ∃ a us, v = .ref a ∧ DicAt w a us ∧ RepK w kvs us
  | .dct, v => ∃ a, v = .ref a ∧ ¬ Mu w a ∧ w.H a = some (DicX a)
  | .fnv, _ => False
  | .ins c fs, v => ∃ a us, v = .ref a ∧ InsAt G w a c us ∧ RepF w fs us
  | .exc c fs, v => ∃ a od us, v = .ref a ∧ (G.okX c ∧ ¬ Mu w a ∧ w.H a = some (ExV (.ref (G.clsA c)) od a) ∧ ExD w us od) ∧ RepF w fs us
  | .ref n, v => ∃ a, v = .ref a ∧ w.ms[n]? = some a
  | .cls c, v => v = .ref (G.clsA c) ∧ G.okC c
  | .ty n, v => v = .ty n
def RepL (w : Wd) : List D → List V → Prop
  | [], vs => vs = []
  | d :: ds, vs => ∃ v r, vs = v :: r ∧ Rep w d v ∧ RepL w ds r
def RepF (w : Wd) : List (Str × D) → List (Str × V) → Prop
  | [], vs => vs = []
  | p :: ds, vs => ∃ v r, vs = (p.1, v) :: r ∧ Rep w p.2 v ∧ RepF w ds r
def RepK (w : Wd) : List (Key × D) → List (Key × V) → Prop
  | [], vs => vs = []
  | p :: ds, vs => ∃ v r, vs = (p.1, v) :: r ∧ Rep w p.2 v ∧ RepK w ds r
end
variable {G}
theorem LstAt.le {w w' : Wd} {a : Addr} {xs : List V} (h : LstAt G w a xs) (l : Le0 w w') : LstAt G w' a xs := h.imp (fun h => h.le l) id
theorem TupAt.le {w w' : Wd} {a : Addr} {xs : List V} (h : TupAt G w a xs) (l : Le0 w w') : TupAt G w' a xs := h.imp (fun h => (l.keep a _ h.2 h.1).symm) id
theorem InsAt.le {w w' : Wd} {a : Addr} {c : Nat} {fs : List (Str × V)} (h : InsAt G w a c fs) (l : Le0 w w') : InsAt G w' a c fs := by
  obtain ⟨n, dx, h⟩ := h
  obtain ⟨h1, n1⟩ := l.keep a _ h n
  exact ⟨n1, dx, h1⟩
theorem ExD.le {w w' : Wd} {us : List (Str × V)} {od : Option Addr} (h : ExD w us od) (l : Le0 w w') : ExD w' us od := by
  cases od with
  | none => exact h
  | some d => exact (l.keep d _ h.2 h.1).symm
mutual
theorem Rep.le {w w' : Wd} (l : Le0 w w') : ∀ {d : D} {v : V}, Rep G w d v → Rep G w' d v
  | .non, _, h => h
  | .bl _, _, h => h
  | .int _, _, h => h
  | .str _, _, h => h
  | .tup _, _, ⟨a, vs, e, t, r⟩ => ⟨a, vs, e, t.le l, RepL.le l r⟩
  | .lst _, _, ⟨a, vs, e, t, r⟩ => ⟨a, vs, e, t.le l, RepL.le l r⟩
  | .dic _, _, ⟨a, vs, e, t, r⟩ => ⟨a, vs, e, (l.keep a _ t.2 t.1).symm, RepK.le l r⟩
  | .dct, _, ⟨a, e, n, t⟩ => ⟨a, e, (l.keep a _ t n).symm⟩
  | .fnv, _, h => h
  | .ins _ _, _, ⟨a, vs, e, t, r⟩ => ⟨a, vs, e, t.le l, RepF.le l r⟩
  | .exc _ _, _, ⟨a, od, us, e, ⟨o, n, t, x⟩, r⟩ => ⟨a, od, us, e, ⟨o, (l.keep a _ t n).2, (l.keep a _ t n).1, x.le l⟩, RepF.le l r⟩
  | .ref _, _, ⟨a, e, t⟩ => ⟨a, e, by
      obtain ⟨m, q⟩ := l.more
      rw [q, List.getElem?_append_left (List.getElem?_eq_some_iff.mp t).1]; exact t⟩
  | .cls _, _, h => h
  | .ty _, _, h => h
theorem RepL.le {w w' : Wd} (l : Le0 w w') : ∀ {d : List D} {v : List V}, RepL G w d v → RepL G w' d v
  | [], _, h => h
  | _ :: _, _, ⟨v, r, e, h, t⟩ => ⟨v, r, e, Rep.le l h, RepL.le l t⟩
theorem RepF.le {w w' : Wd} (l : Le0 w w') : ∀ {d : List (Str × D)} {v : List (Str × V)}, RepF G w d v → RepF G w' d v
  | [], _, h => h
  | _ :: _, _, ⟨v, r, e, h, t⟩ => ⟨v, r, e, Rep.le l h, RepF.le l t⟩
theorem RepK.le {w w' : Wd} (l : Le0 w w') : ∀ {d : List (Key × D)} {v : List (Key × V)}, RepK G w d v → RepK G w' d v
  | [], _, h => h
  | _ :: _, _, ⟨v, r, e, h, t⟩ => ⟨v, r, e, Rep.le l h, RepK.le l t⟩
end
variable (G) in
/-- an entry of the store at its place -/
def MRep (w : Wd) (a : Addr) : MO → Prop
  | .lst ds => ∃ vs, w.H a = some (.lst vs) ∧ RepL G w ds vs
  | .ins c fs => ∃ dx us, w.H a = some (.ins (G.clsA c) dx us) ∧ RepF G w fs us
  | .dead => ∃ o, w.H a = some o ∧ Pl o
variable (G) in
structure Ok (w : Wd) : Prop where
  len : w.ms.length = w.S.length
  nd : w.ms.Nodup
  rep : ∀ (i : Nat) a mo, w.ms[i]? = some a → w.S[i]? = some mo → MRep G w a mo
  pv : ∀ a ∈ w.pv, (∃ o, w.H a = some o ∧ Pl o) ∧ a ∉ w.ms
  tab : LamX.Tabs G.tabs w.H
variable (G) in
structure REnv (w : Wd) (ρ : Env') (σ : L2.St) : Prop where
  len : ρ.length = σ.length
  at_ : ∀ (i : Nat) d, ρ[i]? = some (some d) → (∃ v, σ[i]? = some (some v) ∧ Rep G w d v) ∨ (i = 0 ∧ ∃ f, G.fnv = some f ∧ σ[0]? = some (some (.ref f)))
  inv : G.inv w
theorem REnv.le {w w' : Wd} {ρ : Env'} {σ : L2.St} (h : REnv G w ρ σ) (l : Le0 w w') : REnv G w' ρ σ := ⟨h.len, fun i d e => (h.at_ i d e).imp (fun ⟨v, e1, r⟩ => ⟨v, e1, r.le l⟩) id, G.invS w w' l h.inv⟩
theorem REnv.set {w : Wd} {ρ : Env'} {σ : L2.St} (h : REnv G w ρ σ) {i : Nat} {d : D} {v : V} (r : Rep G w d v) : REnv G w (ρ.set i (some d)) (σ.set i (some v)) := by
  refine ⟨by simp [h.len], fun j e q => ?_, h.inv⟩
  by_cases hj : i = j
  · subst hj
    by_cases hl : i < ρ.length
    · rw [List.getElem?_set_self hl] at q
      cases q
      exact .inl ⟨v, List.getElem?_set_self (by rw [← h.len]; exact hl), r⟩
    · rw [List.getElem?_eq_none (by simpa using hl)] at q; cases q
  · rw [List.getElem?_set_ne hj] at q
    rcases h.at_ j e q with ⟨v', e1, r1⟩ | ⟨z, f, e1, e2⟩
    · exact .inl ⟨v', by rw [List.getElem?_set_ne hj]; exact e1, r1⟩
    · subst z
      exact .inr ⟨rfl, f, e1, by rw [List.getElem?_set_ne hj]; exact e2⟩
/-- the same value told otherwise -/
theorem REnv.reset {w : Wd} {ρ : Env'} {σ : L2.St} (h : REnv G w ρ σ) {i : Nat} {d : D} {v : V} (hv : σ[i]? = some (some v)) (r : Rep G w d v) : REnv G w (ρ.set i (some d)) σ := by
  refine ⟨by simp [h.len], fun j e q => ?_, h.inv⟩
  by_cases hj : i = j
  · subst hj
    by_cases hl : i < ρ.length
    · rw [List.getElem?_set_self hl] at q
      cases q
      exact .inl ⟨v, hv, r⟩
    · rw [List.getElem?_eq_none (by simpa using hl)] at q; cases q
  · rw [List.getElem?_set_ne hj] at q
    exact h.at_ j e q
/-- a name that is none of a function -/
theorem REnv.get {w : Wd} {ρ : Env'} {σ : L2.St} (h : REnv G w ρ σ) {i : Nat} {d : D} (e : ρ[i]? = some (some d)) (n : G.fnv = none ∨ i ≠ 0) : ∃ v, σ[i]? = some (some v) ∧ Rep G w d v := by
  rcases h.at_ i d e with z | ⟨z, f, e1, _⟩
  · exact z
  · rcases n with n | n
    · rw [n] at e1; cases e1
    · exact (n z).elim
variable (G) in
/-- .. what a def got put in -/
abbrev PC.lam (f : Addr) (I : Wd → Prop) (hI : ∀ w w', Le0 w w' → I w → I w') : PC := { G with fnv := some f, inv := I, invS := hI }
section
variable {f : Addr} {I : Wd → Prop} {hI : ∀ w w', Le0 w w' → I w → I w'} {w : Wd}
mutual
theorem rep_same : ∀ (d : D) (v : V), Rep (G.lam f I hI) w d v = Rep G w d v
  | .non, _ => rfl
  | .bl _, _ => rfl
  | .int _, _ => rfl
  | .str _, _ => rfl
  | .tup ds, v => by unfold Rep; simp only [repL_same ds]; rfl
  | .lst ds, v => by unfold Rep; simp only [repL_same ds]; rfl
  | .dic ds, v => by unfold Rep; simp only [repK_same ds]
  | .dct, _ => rfl
  | .fnv, _ => rfl
  | .ins _ fs, v => by unfold Rep; simp only [repF_same fs]; rfl
  | .exc _ fs, v => by unfold Rep; simp only [repF_same fs]
  | .ref _, _ => rfl
  | .cls _, _ => rfl
  | .ty _, _ => rfl
theorem repL_same : ∀ (d : List D) (v : List V), RepL (G.lam f I hI) w d v = RepL G w d v
  | [], _ => rfl
  | d :: ds, v => by unfold RepL; simp only [rep_same d, repL_same ds]
theorem repF_same : ∀ (d : List (Str × D)) (v : List (Str × V)), RepF (G.lam f I hI) w d v = RepF G w d v
  | [], _ => rfl
  | d :: ds, v => by unfold RepF; simp only [rep_same d.2, repF_same ds]
theorem repK_same : ∀ (d : List (Key × D)) (v : List (Key × V)), RepK (G.lam f I hI) w d v = RepK G w d v
  | [], _ => rfl
  | d :: ds, v => by unfold RepK; simp only [rep_same d.2, repK_same ds]
end
theorem mrep_same (a : Addr) : ∀ mo : MO, MRep (G.lam f I hI) w a mo = MRep G w a mo
  | .lst ds => by unfold MRep; simp only [repL_same ds]
  | .ins c fs => by unfold MRep; simp only [repF_same fs]
  | .dead => rfl
theorem ok_same : Ok (G.lam f I hI) w ↔ Ok G w := ⟨fun h => ⟨h.len, h.nd, fun i a mo e1 e2 => by rw [← mrep_same (G := G) (f := f) (I := I) (hI := hI)]; exact h.rep i a mo e1 e2, h.pv, h.tab⟩,
  fun h => ⟨h.len, h.nd, fun i a mo e1 e2 => by rw [mrep_same]; exact h.rep i a mo e1 e2, h.pv, h.tab⟩⟩
end
/-! ### outcomes -/
/-- an exception: its class, its fields -/
structure Exn where
  c : Nat
  fs : List (Str × D)
  deriving Inhabited
inductive EOut where
  | ok (d : D) (S : Store)
  | exc (x : Exn) (S : Store)
  | stuck
  deriving Inhabited
def EOut.bind (o : EOut) (f : D → Store → EOut) : EOut := match o with
  | .ok d S => f d S
  | .exc x S => .exc x S
  | .stuck => .stuck
variable (G) in
/-- an exception as the hand layer has it: class, own dict -/
def XRep (w : Wd) (x : Exn) (cls : Value) (od : Option Addr) : Prop := cls = .ref (G.clsA x.c) ∧ G.okX x.c ∧ ∃ us, RepF G w x.fs us ∧ ExD w us od
variable (G) in
def PostE (W : WX) (w : Wd) (σ : L2.St) (o : EOut) (Q : VK) : Prop := match o with
  | .ok d S' => ∀ w', w'.S = S' → Ok G w' → Le w w' → ∀ v, Rep G w' d v → Q v w'.H
  | .exc x S' => ∀ w', w'.S = S' → Ok G w' → Le w w' → ∀ cls od, XRep G w' x cls od → W cls od σ w'.H
  | .stuck => False
variable (G) in
structure At (W : WX) (w : Wd) (ρ : Env') (σ : L2.St) (o : EOut) (Q : VK) : Prop where
  ok : Ok G w
  env : REnv G w ρ σ
  post : PostE G W w σ o Q
variable (G) in
/-- what an expression does on data, as a reading -/
def tD (W : WX) (m : Env' → Store → EOut) : TE := fun σ H Q => ∃ w ρ, w.H = H ∧ At G W w ρ σ (m ρ w.S) Q
theorem PostE.mono {W : WX} {w : Wd} {σ : L2.St} {o : EOut} {Q Q' : VK} (h : PostE G W w σ o Q) (k : ∀ v w', Le w w' → Q v w'.H → Q' v w'.H) : PostE G W w σ o Q' := by
  cases o with
  | ok d S' => exact fun w' e ok l v r => k v w' l (h w' e ok l v r)
  | exc x S' => exact h
  | stuck => exact h
theorem At.of_le {W : WX} {w w' : Wd} {ρ : Env'} {σ : L2.St} {o : EOut} {Q : VK} (env : REnv G w ρ σ) (l : Le w w') (ok : Ok G w') (p : PostE G W w σ o Q) : At G W w' ρ σ o Q := by
  refine ⟨ok, env.le l.toLe0, ?_⟩
  cases o with
  | ok d S' => exact fun w2 e ok2 l2 v r => p w2 e ok2 (l.trans l2) v r
  | exc x S' => exact fun w2 e ok2 l2 cls od r => p w2 e ok2 (l.trans l2) cls od r
  | stuck => exact p
/-- the first part, then the rest -/
theorem At.bind {W : WX} {w : Wd} {ρ : Env'} {σ : L2.St} {o : EOut} {f : D → Store → EOut} {Q : VK} (h : At G W w ρ σ (o.bind f) Q) :
    At G W w ρ σ o fun v H' => ∃ d w', w'.H = H' ∧ Le w w' ∧ Rep G w' d v ∧ At G W w' ρ σ (f d w'.S) Q := by
  obtain ⟨ok, env, post⟩ := h
  refine ⟨ok, env, ?_⟩
  cases o with
  | ok d S' =>
    intro w' e ok' l v r
    refine ⟨d, w', rfl, l, r, At.of_le env l ok' ?_⟩
    rw [e]
    exact post
  | exc x S' => exact post
  | stuck => exact post
/-- as a reading -/
theorem At.td {W : WX} {w : Wd} {ρ : Env'} {σ : L2.St} {m : Env' → Store → EOut} {Q : VK} (h : At G W w ρ σ (m ρ w.S) Q) : tD G W m σ w.H Q := ⟨w, ρ, rfl, h⟩
theorem pe_imp {X : Cx} {e : Expr} {t t' : TE} (h : PE X e t) (k : ∀ σ H Q, t' σ H Q → t σ H Q) : PE X e t' := ⟨fun pins s σ H Q I q => h.run pins s σ H Q I (k σ H Q q)⟩
end
end PD
set_option maxHeartbeats 2000000
/-! PG1: defs that are called where no repr is under way; repr of plain data -/
namespace PD
open PySem PySem.Spec PyProof.Rows L2
/-- the code object of a def -/
def cdOf (K : PySem.W.Frag) (f : Addr) : Value := match K.lookup f with
  | some ⟨_, _, .func fd, _⟩ => fd.code
  | _ => .none
/-- a def's promise, where no repr is under way -/
structure FnG (P : Program) (w : World) (K : PySem.W.Frag) (mg : Str → Option Value) (base : Heap) (CX : CXT) (k : Nat) (f : Addr) (fd : FuncData) (ps : List Str) (sp : Sp) : Prop where
  len : ∀ vs H Q E, sp vs H Q E → vs.length = ps.length
  run : ∀ (A : Around) (outer : List Env) (s : Shared) (H : Hp) (args : Args) (us : List Value) (vs : List V) (Q : VK) (E : XK), Room k A → A.guards = some [] → Env0 P w K mg base A outer s H → BindsTo s fd args (ps.zip us) → Vals vs us → sp vs H Q E →
    codeAny (model P w) A (.call (.ref f) args) (CR CX outer P w H s Q E) s
section
variable {P : Program} {w : World} {K : PySem.W.Frag} {mg : Str → Option Value} {base : Heap} {CX : CXT} {k : Nat} {x qual : Str} {params : Arguments} {body : List Stmt} {scope : Scope} {dvs : List V} {kws : List (Str × V)} {f : Addr} {fd : FuncData} {N ps : List Str} {sp : Sp}
theorem FnG.of (F : FunD K x qual params body scope dvs kws f fd) (S : FnScope N ps scope) (len : ∀ vs H Q E, sp vs H Q E → vs.length = ps.length)
    (hb : ∀ (cdv : Value) (A : Around) (outer : List Env) (s : Shared) (H : Hp) (vs : List V) (Q : VK) (E : XK), Room k (A.deeper (envOfC qual scope s.heap.objs.size f cdv)) → A.guards = some [] → cdOf K f = cdv → sp vs H Q E →
      ∃ t, PSs (cxOf CX P w K mg base N qual scope f cdv A outer s H E) body t ∧ t { nx := fun _ H' => Q .non H', rt := Q } (start N vs) H) : FnG P w K mg base CX (k + 1) f fd ps sp := by
  obtain ⟨oc, od, dV, kV, doc, pm, an, cdv, ct, osl, rfl, lk, hcd, _, _⟩ := F.ex
  refine ⟨len, fun A outer s H args us vs Q E hr hg e0 bd r hsp => ?_⟩
  have hl := len _ _ _ _ hsp
  have up : ∀ b o, base.get? b = some o → s.heap.get? b = some o := fun b o e => (e0.bs b o e).1
  have KX : K.In s.heap := PySem.W.Frag.In.keeps e0.mod.kin up
  have kinds : ∀ y ∈ ps.zip us, scope.names.lookup y.1 = some .local ∨ (scope.names.lookup y.1 = some .cell ∧ ((cellsFrom (s.heap.objs.size + 1) scope.names []).lookup y.1).isSome = true) := fun y hy =>
    (S.par y.1 (List.of_mem_zip (a := y.1) (b := y.2) hy).1).imp id fun q => ⟨q, PySem.W.cellsFrom_some _ _ _ (.inl q)⟩
  refine codeAny_call_function (fd := PySem.W.fnOf x qual params body scope dV kV doc pm an cdv ct) hr.depth (KX _ _ lk) rfl S.co S.gen rfl (PySem.W.codeRec_of KX hcd) (bd _ _ _ _ (wpAny_newFunctionEnv_cells S.kind kinds fun env he s1 ic => ?_))
  subst he
  refine ⟨(Heap.NoLimit.keeps e0.mod.nolimit up).keeps ic.toInCall.keep, codeAny_func ?_⟩
  obtain ⟨t, ht, hq⟩ := hb cdv A outer s H vs Q E (hr.deeper _) hg (by unfold cdOf; rw [lk]) hsp
  refine wpAny_mono (ht.run [] s1 (start N vs) H _ (inv_start S hr.hd e0 hl r ic) hq) (fun fl s' z => ?_) fun _ _ z => z
  cases fl with
  | ret u => obtain ⟨v, _, H', J, rv, q⟩ := z; exact ⟨v, H', J.os, J.bare, J.base, J.hok, rv, q⟩
  | next => obtain ⟨_, H', J, q⟩ := z; exact ⟨V.non, H', J.os, J.bare, J.base, J.hok, rfl, q⟩
  | brk => obtain ⟨_, _, _, q⟩ := z; exact q.elim
  | cont => obtain ⟨_, _, _, q⟩ := z; exact q.elim
end
/-- the law called, where defs hand lambdas on: cs, their code objects and tables -/
theorem law_callT {P : Program} {w : World} {K : PySem.W.Frag} {mg mb : Str → Option Value} {CX : CXT} {k : Nat} {fa a : Addr} {cs : List (Addr × Addr)} {fd : FuncData} {x : Str} {sp : Sp} {s₁ : Shared} {vs : List Value} {ns : List Int}
    (KX : K.In s₁.heap) (hns : s₁.heap.Ns mainGlobals mg) (hb : s₁.heap.Ns builtinsNs mb) (hbb : ∀ x : Str, x ≠ "__name__" → mb x = bootBuiltins x) (hlim : s₁.heap.NoLimit) (hg : s₁.gens = #[])
    (hT : ∀ p ∈ cs, s₁.heap.get? p.2 = some { cls := .none, data := .fields #[] }) (nT : ∀ p ∈ cs, K.lookup p.2 = none) (C : ∀ p ∈ cs, PySem.W.CodeHd s₁.heap p.1 p.2)
    (hbm : ∃ (bm : Addr) (ob : Obj), mg "__builtins__" = some (.ref bm) ∧ bm ≠ builtinsNs ∧ s₁.heap.get? bm = some ob ∧ ob.cls = .type "module" ∧ ob.dict = some builtinsNs ∧ ob.data = .plain)
    (ha : s₁.heap.get? a = some { cls := .type "list", data := .seq vs.toArray }) (hi : IntsAre vs ns) (hl : ns.length ≤ sizeLine) (hr : Room k callerA)
    (F : ∀ base : Heap, K.In base → base.Ns mainGlobals mg → (∀ p ∈ cs, LamX.TabB base mg p.1 p.2) → FnG P w K mg base CX k fa fd [x] sp) (hbind : ∀ (s : Shared) (u : Value), BindsTo s fd ⟨[u], []⟩ [(x, u)])
    (hsp : ∀ H : Hp, (∀ p ∈ cs, H p.2 = some (.tbl #[])) → SqL K H a (ns.map V.int) → sp [.ref a] H (fun v _ => v = .bl true) fun _ _ _ => False)
    (hCX : ∀ H e s', CX [] H s₁ (fun _ _ _ => False) e s' → False) :
    codeAny (model P w) callerA (.call (.ref fa) ⟨[.ref a], []⟩) (fun r s' => r = .ok (.ret (.bool true)) ∧ OldK s₁.heap s'.heap ∧ s'.os = s₁.os ∧ AllBare s'.gens) s₁ := by
  have rv := vals_ints hi
  have isT : ∀ b : Addr, b ∈ cs.map (·.2) → s₁.heap.get? b = some { cls := .none, data := .fields #[] } := fun b hb => by
    obtain ⟨p, hp, e⟩ := List.mem_map.mp hb
    exact e ▸ hT p hp
  have aT : a ∉ cs.map (·.2) := fun z => by
    cases (ha.symm.trans (isT a z))
  have memT : ∀ p ∈ cs, p.2 ∈ cs.map (·.2) := fun p hp => List.mem_map.mpr ⟨p, hp, rfl⟩
  -- what H tracks: the tables, the script if it is not written
  have main : ∀ H : Hp, (∀ p ∈ cs, H p.2 = some (.tbl #[])) → (∀ b, H b = none ∨ b ∈ cs.map (·.2) ∨ ∃ o xs, H b = some (.frz o (.lst xs))) → SqL K H a (ns.map V.int) → HOk P w H s₁.heap → (∀ b u, H b = some u → (b = a ∧ K.lookup a = none) ∨ b ∈ cs.map (·.2)) →
      codeAny (model P w) callerA (.call (.ref fa) ⟨[.ref a], []⟩) (fun r s' => r = .ok (.ret (.bool true)) ∧ OldK s₁.heap s'.heap ∧ s'.os = s₁.os ∧ AllBare s'.gens) s₁ := fun H hH hO hS hok hA => by
    have keepN : ∀ {b : Addr} {o : Obj}, s₁.heap.get? b = some o → (∀ vs n, o.data ≠ .seq vs n) → o.data ≠ .fields #[] → (hidT s₁.heap H).get? b = some o := fun {b o} e h1 h2 => hidT_get e (by
      cases q : H b with
      | none => rfl
      | some u =>
        rcases hA b u q with ⟨rfl, _⟩ | z
        · rw [ha] at e; cases e; exact (h1 _ _ rfl).elim
        · rw [isT b z] at e; cases e; exact (h2 rfl).elim)
    have ns : ∀ {b : Addr} {m : Str → Option Value}, s₁.heap.Ns b m → (hidT s₁.heap H).Ns b m := fun {b m} ⟨o, es, ep, e, d, r⟩ => ⟨o, es, ep, keepN e (fun vs n z => by rw [d] at z; cases z) (fun z => by rw [d] at z; cases z), d, r⟩
    have kin : K.In (hidT s₁.heap H) := fun b o e => hidT_get (KX b o e) (by
      cases q : H b with
      | none => rfl
      | some u =>
        rcases hA b u q with ⟨rfl, z⟩ | z
        · rw [z] at e; cases e
        · obtain ⟨p, hp, rfl⟩ := List.mem_map.mp z
          rw [nT p hp] at e; cases e)
    have TB : ∀ p ∈ cs, LamX.TabB (hidT s₁.heap H) mg p.1 p.2 := fun p hp => by
      have hTp := hT p hp
      obtain ⟨o, us, file, tf, flags, tg, inF, text, tt, e1, r1, r2, r3, r4⟩ := C p hp
      obtain ⟨bm, ob, b1, b2, b3, b4, b5, b6⟩ := hbm
      refine ⟨⟨o, us, file, tf, flags, tg, inF, text, tt, keepN e1 (fun vs n z => by rw [r2] at z; cases z) (fun z => ?_), r1, r2, r3, r4⟩, ⟨bm, ob, b1, b2, fun q => ?_, fun q => ?_, keepN b3 (fun vs n z => by rw [b6] at z; cases z) (fun z => by rw [b6] at z; cases z), b4, b5, b6⟩, fun z => ?_⟩
      · rw [r2] at z
        cases z
        simp at r3
      · obtain ⟨og, es, ep, e, hd, _⟩ := hns
        rw [q, e] at b3
        cases b3
        rw [hd] at b6
        cases b6
      · rw [q, hTp] at b3
        cases b3
        cases b6
      · obtain ⟨og, es, ep, e, hd, _⟩ := hns
        rw [z, hTp] at e
        cases e
        cases hd
    have e0 : Env0 P w K mg (hidT s₁.heap H) callerA [] s₁ H :=
      { frames := rfl, mod := ⟨kin, ns hns, ⟨mb, ns hb, hbb⟩, let ⟨m, h1, h2⟩ := hlim; ⟨m, ns h1, h2⟩⟩, bs := fun b o e => of_hidT e, bsz := Nat.le_of_eq (hidT_size _ _), funs := trivial, frf := fun b hb => absurd (show b ∈ ([] : List Addr) from hb) (by simp), hok := hok, bare := .of_eq hg }
    refine codeAny_mono ((F _ kin (ns hns) TB).run callerA [] s₁ H ⟨[.ref a], []⟩ [.ref a] [.ref a] _ _ hr rfl e0 (hbind s₁ _) (.cons rfl .nil) (hsp H hH hS)) fun r s' h => ?_
    match r, h with
    | .error e, h => exact (hCX H e s' h).elim
    | .ok .next, h => exact False.elim h
    | .ok .brk, h => exact False.elim h
    | .ok .cont, h => exact False.elim h
    | .ok (.ret u), ⟨v, H', os, bare, un, hok', r', q⟩ =>
      obtain rfl : v = .bl true := q
      obtain rfl : u = Value.bool true := r'
      have key : ∀ b o, b ∉ cs.map (·.2) → s₁.heap.get? b = some o → s'.heap.get? b = some o := fun b o nb e => by
        rcases hO b with z | z | ⟨ob, xs, z⟩
        · exact un.keep b o e z (by intro z; exact absurd (show b ∈ ([] : List Addr) from z) (by simp)) (fun z => nomatch z)
        · exact absurd z nb
        · cases e.symm.trans (hok b _ z).1
          exact (hok' b _ (un.frzs b _ _ z)).1
      have grown : ∀ p ∈ cs, ∃ more : Array Value, s'.heap.get? p.2 = some { cls := .none, data := .fields more } := fun p hp => by
        obtain ⟨more, z⟩ := un.tbls p.2 #[] (hH p hp)
        exact ⟨_, hok' p.2 _ z⟩
      refine ⟨rfl, ⟨fun b o e => ?_, fun b o e => ?_⟩, os, bare⟩
      · by_cases hb : b ∈ cs.map (·.2)
        · obtain ⟨p, hp, rfl⟩ := List.mem_map.mp hb
          obtain ⟨more, hm⟩ := grown p hp
          rw [hT p hp] at e
          cases e
          exact .inr (.inl ⟨((C p hp).tab (hT p hp)).isCodeTable, rfl, #[], more, rfl, by rw [Array.empty_append]; exact hm⟩)
        · exact .inl (key b o hb e)
      · by_cases hb : b ∈ cs.map (·.2)
        · obtain ⟨p, hp, rfl⟩ := List.mem_map.mp hb
          obtain ⟨more, hm⟩ := grown p hp
          exact ⟨_, hm⟩
        · exact ⟨o, key b o hb e⟩
  have tb : ∀ {b : Addr}, b ∈ cs.map (·.2) → ObjOk P w (fun _ => none) s₁.heap b (.tbl #[]) := fun hb => isT _ hb
  cases hk : K.lookup a with
  | some o =>
    cases ha.symm.trans (KX a o hk)
    have at0 : ∀ b u, (if b ∈ cs.map (·.2) then some (HO.tbl #[]) else none) = some u → b ∈ cs.map (·.2) ∧ u = .tbl #[] := fun b u z => by
      split at z
      · cases z; exact ⟨by assumption, rfl⟩
      · cases z
    refine main (fun b => if b ∈ cs.map (·.2) then some (.tbl #[]) else none) (fun p hp => if_pos (memT p hp)) (fun b => ?_) (.inr ⟨_, vs.toArray, _, hk, rfl, rfl, rfl, by rw [List.size_toArray, hi.length]; exact hl, by simpa using rv⟩) (fun b u z => ?_) fun b u z => .inr (at0 b u z).1
    · by_cases hb : b ∈ cs.map (·.2)
      · exact .inr (.inl hb)
      · exact .inl (if_neg hb)
    · obtain ⟨h1, rfl⟩ := at0 b u z
      exact isT b h1
  | none =>
    have at0 : ∀ b u, (if b = a then some (HO.frz { cls := .type "list", data := .seq vs.toArray } (.lst (ns.map V.int))) else if b ∈ cs.map (·.2) then some (HO.tbl #[]) else none) = some u →
        (b = a ∧ u = .frz { cls := .type "list", data := .seq vs.toArray } (.lst (ns.map V.int))) ∨ (b ∈ cs.map (·.2) ∧ u = .tbl #[]) := fun b u z => by
      split at z
      · cases z; exact .inl ⟨by assumption, rfl⟩
      · split at z
        · cases z; exact .inr ⟨by assumption, rfl⟩
        · cases z
    refine main (fun b => if b = a then some (.frz { cls := .type "list", data := .seq vs.toArray } (.lst (ns.map V.int))) else if b ∈ cs.map (·.2) then some (.tbl #[]) else none)
      (fun p hp => (if_neg (show ¬ p.2 = a from fun z => aT (by rw [← z]; exact memT p hp))).trans (if_pos (memT p hp))) (fun b => ?_) (.inl (.inr ⟨_, if_pos rfl⟩)) (fun b u z => ?_) fun b u z => (at0 b u z).imp (fun h => ⟨h.1, hk⟩) (·.1)
    · by_cases hb : b = a
      · exact .inr (.inr ⟨_, _, if_pos hb⟩)
      · by_cases hb2 : b ∈ cs.map (·.2)
        · exact .inr (.inl hb2)
        · exact .inl ((if_neg hb).trans (if_neg hb2))
    · rcases at0 b u z with ⟨rfl, rfl⟩ | ⟨h1, rfl⟩
      · exact ⟨ha, by rw [List.length_map]; exact hl, vs, _, rv, ha⟩
      · exact isT b h1
/-! ### repr of plain data -/
/-- a key as data -/
def encK : Key → PyData
  | .inl i => .int i
  | .inr x => .str x
mutual
/-- what stands there, as data, dicts too -/
inductive Dq (K : PySem.W.Frag) (H : Hp) : V → PyData → Prop
  | non : Dq K H .non .none
  | bl (b : Bool) : Dq K H (.bl b) (.bool b)
  | int (i : Int) : Dq K H (.int i) (.int i)
  | str (x : Str) : Dq K H (.str x) (.str x)
  | lst {a : Addr} {xs : List V} {ds : List PyData} : SqL K H a xs → DqAll K H xs ds → Dq K H (.ref a) (.list ds)
  | tup {a : Addr} {xs : List V} {ds : List PyData} : SqT K H a xs → DqAll K H xs ds → Dq K H (.ref a) (.tuple ds)
  | dic {a : Addr} {us : List (Key × V)} {ds : List (PyData × PyData)} : H a = some (.dK us) → DqK K H us ds → Dq K H (.ref a) (.dict ds)
inductive DqAll (K : PySem.W.Frag) (H : Hp) : List V → List PyData → Prop
  | nil : DqAll K H [] []
  | cons {v : V} {vs : List V} {d : PyData} {ds : List PyData} : Dq K H v d → DqAll K H vs ds → DqAll K H (v :: vs) (d :: ds)
inductive DqK (K : PySem.W.Frag) (H : Hp) : List (Key × V) → List (PyData × PyData) → Prop
  | nil : DqK K H [] []
  | cons {k : Key} {v : V} {vs : List (Key × V)} {d : PyData} {ds : List (PyData × PyData)} : Dq K H v d → DqK K H vs ds → DqK K H ((k, v) :: vs) ((encK k, d) :: ds)
end
/-- the dict of modules is written, no list -/
def SmK (K : PySem.W.Frag) : Prop := ∃ o es n, K.lookup sysModules = some o ∧ o.data = .dict es n
section
variable {X : Cx} {pins : List (Addr × Obj)} {σ : L2.St} {H : Hp} {s : Shared}
theorem sm_seq (I : Inv X pins σ H s) (sm : SmK X.K) {a : Addr} {o : Obj} {its : Array Value} {n : Nat} (ho : s.heap.get? a = some o) (hd : o.data = .seq its n) : sysModules ≠ a := fun z => by
  obtain ⟨o2, es, n2, h1, h2⟩ := sm
  have h3 := I.kIn _ _ h1
  rw [z, ho] at h3
  cases h3
  rw [hd] at h2
  cases h2
theorem key_reads {h : Heap} : ∀ k key, keyIs k key = true → Reads h key (encK k) [] := fun k key e => by
  rcases keyIs_shape e with ⟨i, t, rfl, rfl⟩ | ⟨x, t, rfl, rfl⟩
  · exact .int i t
  · exact .str x t
mutual
theorem Dq.reads (I : Inv X pins σ H s) (sm : SmK X.K) : ∀ (d : PyData) (v : V) (u : Value), Dq X.K H v d → RelV v u → ∃ as, Reads s.heap u d as ∧ sysModules ∉ as
  | .none, _, _, h, r => by cases h; cases r; exact ⟨_, .none, fun z => nomatch z⟩
  | .bool b, _, _, h, r => by cases h; cases r; exact ⟨_, .bool b, fun z => nomatch z⟩
  | .int i, _, _, h, r => by cases h; obtain ⟨t, rfl⟩ := r; exact ⟨_, .int i t, fun z => nomatch z⟩
  | .str x, _, _, h, r => by cases h; obtain ⟨t, rfl⟩ := r; exact ⟨_, .str x t, fun z => nomatch z⟩
  | .list ds, _, _, h, r => by
    cases h with
    | lst hs ha =>
      cases r
      obtain ⟨its, rv, ⟨o, n, ho, hc, _, hd⟩, _⟩ := I.list hs
      obtain ⟨as, q, na⟩ := Dq.readsAll I sm ds _ its ha rv
      refine ⟨_, .list ho hc hd q, fun z => ?_⟩
      rcases List.mem_cons.mp z with z | z
      · exact sm_seq I sm ho hd z
      · exact na z
  | .tuple ds, _, _, h, r => by
    cases h with
    | tup hs ha =>
      cases r
      obtain ⟨its, rv, ⟨o, ho, hc, n, hd⟩, _⟩ := I.tuple hs
      obtain ⟨as, q, na⟩ := Dq.readsAll I sm ds _ its ha rv
      exact ⟨_, .tuple ho hc hd q, na⟩
  | .dict ds, _, _, h, r => by
    cases h with
    | dic hs ha =>
      cases r
      obtain ⟨_, hne, vs, hkv, hdo⟩ := dk_of I.hok hs
      obtain ⟨as, q, na⟩ := Dq.readsK I sm ds _ vs ha hkv
      refine ⟨_, PyProof.V.reads_dictOf (enc := encK) key_reads hdo q, fun z => ?_⟩
      rcases List.mem_cons.mp z with z | z
      · rw [← z] at hne; simp at hne
      · exact na z
theorem Dq.readsAll (I : Inv X pins σ H s) (sm : SmK X.K) : ∀ (ds : List PyData) (vs : List V) (us : List Value), DqAll X.K H vs ds → Vals vs us → ∃ as, ReadsAll s.heap us ds as ∧ sysModules ∉ as
  | [], _, _, h, r => by cases h; cases r; exact ⟨_, .nil, fun z => nomatch z⟩
  | d :: ds, _, _, h, r => by
    cases h with
    | cons h1 h2 =>
      cases r with
      | cons r1 r2 =>
        obtain ⟨as, q1, n1⟩ := Dq.reads I sm d _ _ h1 r1
        obtain ⟨bs, q2, n2⟩ := Dq.readsAll I sm ds _ _ h2 r2
        exact ⟨_, .cons q1 q2, fun z => (List.mem_append.mp z).elim n1 n2⟩
theorem Dq.readsK (I : Inv X pins σ H s) (sm : SmK X.K) : ∀ (ds : List (PyData × PyData)) (vs : List (Key × V)) (us : List (Key × Value)), DqK X.K H vs ds → KV vs us → ∃ as, PyProof.V.PairsRead s.heap encK us ds as ∧ sysModules ∉ as
  | [], _, _, h, r => by cases h; cases r; exact ⟨_, .nil, fun z => nomatch z⟩
  | (k', d) :: ds, _, _, h, r => by
    cases h with
    | cons h1 h2 =>
      cases r with
      | @cons p q ps qs r1 r2 =>
        obtain ⟨e1, e2⟩ := r1
        obtain ⟨as, q1, n1⟩ := Dq.reads I sm d _ _ h1 e2
        obtain ⟨bs, q2, n2⟩ := Dq.readsK I sm ds _ _ h2 r2
        obtain ⟨qk, qv⟩ := q
        have e1 : _ = qk := e1
        subst e1
        exact ⟨_, .cons q1 q2, fun z => (List.mem_append.mp z).elim n1 n2⟩
end
end
def reprPd (p : PyData) : Option Str := if p.showable && (Nat.ble p.depth 50 && decide (p.shown.length ≤ sizeLine)) then some p.shown else none
theorem reprPd_some {p : PyData} {z : Str} (h : reprPd p = some z) : z = p.shown ∧ p.showable = true ∧ p.depth ≤ 50 ∧ p.shown.length ≤ sizeLine := by
  unfold reprPd at h
  split at h
  · rename_i c
    cases h
    obtain ⟨h1, c⟩ := Bool.and_eq_true_iff.mp c
    obtain ⟨h2, h4⟩ := Bool.and_eq_true_iff.mp c
    exact ⟨rfl, h1, Nat.le_of_ble_eq_true h2, of_decide_eq_true h4⟩
  · cases h
/-- repr of a list, of a tuple, of a dict -/
def rRepP (K : PySem.W.Frag) : List V → Hp → VK → Prop := fun xs H Q => ∃ (a : Addr) (p : PyData) (z : Str), xs = [.ref a] ∧ Dq K H (.ref a) p ∧ reprPd p = some z ∧ Q (.str z) H
theorem call_reprP {X : Cx} (hg : X.A.guards = some []) (hu : X.A.units + 65 < cLine) (sm : SmK X.K) : CallR X (.builtin "repr") (rRepP X.K) := by
  intro pins s σ H xs us Q I r ⟨a, p, z, exs, dp, hz, q⟩
  subst exs
  obtain ⟨rfl, h1, h2, h4⟩ := reprPd_some hz
  cases r with
  | cons r0 rr =>
    cases rr
    obtain ⟨as, rd, na⟩ := Dq.reads I sm p _ _ dp r0
    cases (show _ = Value.ref a from r0)
    exact repr_of_reads' rd h1 (fun _ => na) hg (by omega) (fun _ _ e => e) (fun h' u tk hk => ⟨.str p.shown, H, I.kept (t' := tk) hk, ⟨u, rfl⟩, q⟩) h4
end PD
set_option maxHeartbeats 1000000
/-! PD2: the small language, what it does on data -/
namespace PD
open PySem PySem.Spec L2
/-- a text by its signs -/
def T (l : List Nat) : Str := ⟨l.toArray⟩
theorem T_cps (l : List Nat) : (T l).cps.toList = l := by simp [T]
theorem T_len (l : List Nat) : (T l).length = l.length := by simp [T, Str.length]
theorem T_inj {l l' : List Nat} : T l = T l' ↔ l = l' := by
  constructor
  · intro h; rw [← T_cps l, ← T_cps l', h]
  · intro h; rw [h]
/-- built-in functions -/
inductive Bn where
  | len | abs | int | str | bool | repr | ord | all | any | sum | max | min | sorted | list | tuple | isi
  deriving DecidableEq, Repr
/-- what may be called in an except suite, too -/
def Bn.quiet : Bn → Bool
  | .all => false
  | .any => false
  | .max => false
  | .min => false
  | _ => true
/-- methods of built-in types -/
inductive Mt where
  | append | extend | pop | popAt | insert | join | split | index
  deriving DecidableEq, Repr
/-- built-in types by name -/
inductive BT where
  | int | bool | str | list | tuple | dict
  deriving DecidableEq, Repr
def BT.nm : BT → String
  | .int => "int"
  | .bool => "bool"
  | .str => "str"
  | .list => "list"
  | .tuple => "tuple"
  | .dict => "dict"
/-- a target -/
inductive Tg where
  | name (i : Nat)
  | tup (is : List Nat)
  | nest (ts : List Tg)
/-- where a parameter's value comes from: the i-th value that is given, a default -/
inductive Src where
  | arg (i : Nat)
  | dat (d : D) (j : Nat)
/-- a form of call: the function, how many values by place, which by name, and how they go to the parameters -/
structure CSig where
  f : Nat
  n : Nat
  ks : List Str
  src : List Src
mutual
inductive E where
  | lit (d : D)
  | var (i : Nat)
  | glo (x : Str) (d : D)
  | bin (o : Operator) (a b : E)
  | neg (a : E)
  | not (a : E)
  | and (a b : E)
  | or (a b : E)
  | ite (c a b : E)
  | cmp (o : CmpOp) (a b : E)
  | chn (o o' : CmpOp) (a b c : E)
  | tup (es : Es)
  | lst (m : Bool) (es : Es)
  | dic (es : Es)
  | call (c : CSig) (es zs : Es)
  | blt (b : Bn) (m : Bool) (es : Es)
  | meth (t : Mt) (a : E) (es : Es)
  | tyv (t : BT)
  | clsv (x : Str) (c : Nat)
  | idx (a i : E)
  | slc (m : Bool) (a : E) (lo hi : Oe)
  | comp (m : Bool) (own : List (Str × Nat)) (tg : Tg) (it : It) (conds : Es) (elt : E)
  | frz (a : E)
  | cat (m : Bool) (a b : E)
  | rep (m : Bool) (a b : E)
  | att (a : E) (f : Str)
  /-- h(lambda: e) -/
  | lam (h : Nat) (e : E)
  /-- what the def got, called -/
  | ask
inductive Oe where
  | no
  | some (e : E)
inductive Es where
  | nil
  | cons (e : E) (r : Es)
  | star (e : E) (r : Es)
inductive It where
  | val (e : E)
  | rng (a : E)
  | rng2 (a b : E)
  | zip (a b : E)
  | enum (a : E)
end
mutual
inductive Cm where
  | exp (e : E)
  | asg (t : Tg) (e : E)
  | iset (o i e : E)
  | ret (e : E)
  | retN
  | pass
  | brk
  | cont
  | ite (c : E) (a b : Cms)
  | forS (t : Tg) (it : It) (b : Cms)
  | whl (c : E) (b : Cms)
  | raise (x : Str) (c np : Nat) (fs : List (Str × Nat)) (es : Es)
  | tryE (x : Str) (c : Nat) (i : Option Nat) (b s : Cms)
inductive Cms where
  | nil
  | cons (s : Cm) (r : Cms)
  /-- from here on this list stays (nothing in the text) -/
  | fix (i : Nat) (r : Cms)
end
/-! ### data -/
mutual
/-- every reference lies below -/
def D.lows (n : Nat) : D → Bool
  | .tup xs => lowsL n xs
  | .lst xs => lowsL n xs
  | .dic kvs => lowsK n kvs
  | .dct => true
  | .fnv => true
  | .ins _ fs => lowsF n fs
  | .exc _ fs => lowsF n fs
  | .ref m => decide (m < n)
  | .non => true
  | .bl _ => true
  | .int _ => true
  | .str _ => true
  | .cls _ => true
  | .ty _ => true
def lowsL (n : Nat) : List D → Bool
  | [] => true
  | d :: r => d.lows n && lowsL n r
def lowsF (n : Nat) : List (Str × D) → Bool
  | [] => true
  | d :: r => d.2.lows n && lowsF n r
def lowsK (n : Nat) : List (Key × D) → Bool
  | [] => true
  | d :: r => d.2.lows n && lowsK n r
end
def MO.lows (n : Nat) : MO → Bool
  | .lst xs => lowsL n xs
  | .ins _ fs => lowsF n fs
  | .dead => true
/-- what a list or tuple holds -/
def itemsOf (S : Store) : D → Option (List D)
  | .lst xs => some xs
  | .tup xs => some xs
  | .ref n => match S[n]? with
    | some (.lst xs) => some xs
    | _ => none
  | _ => none
/-- what a list holds -/
def lstOf (S : Store) : D → Option (List D)
  | .lst xs => some xs
  | .ref n => match S[n]? with
    | some (.lst xs) => some xs
    | _ => none
  | _ => none
def truD (S : Store) : D → Option Bool
  | .non => some false
  | .bl b => some b
  | .int i => some (i != 0)
  | .str x => some ((x.length : Int) != 0)
  | .tup xs => some (!xs.isEmpty)
  | .lst xs => some (!xs.isEmpty)
  | .dic kvs => some (!kvs.isEmpty)
  | .ref n => match S[n]? with
    | some (.lst xs) => some (!xs.isEmpty)
    | _ => none
  | _ => none
mutual
/-- plain data for == -/
def toP (S : Store) : Nat → D → Option PyData
  | _, .non => some .none
  | _, .bl b => some (.bool b)
  | _, .int i => some (.int i)
  | _, .str x => some (.str x)
  | k, .tup xs => (toPL S k xs).map .tuple
  | k, .lst xs => (toPL S k xs).map .list
  | _, _ => none
def toPL (S : Store) : Nat → List D → Option (List PyData)
  | _, [] => some []
  | k, d :: r => match toP S k d, toPL S k r with
    | some p, some q => some (p :: q)
    | _, _ => none
end
/-- a new list: fixed, or an entry of the store -/
def newL (m : Bool) (xs : List D) (S : Store) : EOut := if xs.length ≤ sizeLine then (if m then .ok (.ref S.length) (S ++ [.lst xs]) else .ok (.lst xs) S) else .stuck
def newT (xs : List D) (S : Store) : EOut := if xs.length ≤ sizeLine then .ok (.tup xs) S else .stuck
def newS (x : Str) (S : Store) : EOut := if x.length ≤ sizeLine then .ok (.str x) S else .stuck
def intOp (o : Operator) (i j : Int) (S : Store) : EOut := match o with
  | .Add => .ok (.int (i + j)) S
  | .Sub => .ok (.int (i - j)) S
  | .Mult => if i.natAbs < 2 ^ 64 ∨ j.natAbs < 2 ^ 64 ∨ i.natAbs.log2 + j.natAbs.log2 < 1000000 then .ok (.int (i * j)) S else .stuck
  | .FloorDiv => if 0 < j ∧ j.natAbs.log2 < 9000 then .ok (.int (i / j)) S else .stuck
  | .Mod => if 0 < j then .ok (.int (i % j)) S else .stuck
  | .Pow => if 0 ≤ j ∧ j ≤ 1000000 ∧ i.natAbs < 2 ^ 64 then .ok (.int (i ^ j.toNat)) S else .stuck
  | _ => .stuck
def binD (o : Operator) (x y : D) (S : Store) : EOut := match x, y with
  | .int i, .int j => intOp o i j S
  | .str x, .str y => match o with
    | .Add => newS (x ++ y) S
    | _ => .stuck
  | _, _ => .stuck
/-- put together: lists, tuples -/
def catD (m : Bool) (x y : D) (S : Store) : EOut := match x, y with
  | .int i, .int j => binD .Add (.int i) (.int j) S
  | .str i, .str j => binD .Add (.str i) (.str j) S
  | .tup xs, .tup ys => newT (xs ++ ys) S
  | x, y => match lstOf S x, lstOf S y with
    | some xs, some ys => newL m (xs ++ ys) S
    | _, _ => .stuck
/-- repeated: lists, tuples, texts -/
def repD (m : Bool) (x y : D) (S : Store) : EOut := match y with
  | .int k => match x with
    | .int j => binD .Mult (.int j) (.int k) S
    | .str z => if 2 ≤ k ∧ k ≤ 100000 ∧ 1 ≤ z.length ∧ z.length * k.toNat ≤ 100000 then .ok (.str (T (List.replicate k.toNat z.cps.toList).flatten)) S else .stuck
    | .tup xs => if 2 ≤ k ∧ k ≤ 1000 ∧ xs.length ≤ 1000 ∧ xs.length ≠ 0 then .ok (.tup (List.replicate k.toNat xs).flatten) S else .stuck
    | x => match lstOf S x with
      | some xs => if -(2 ^ 63) ≤ k ∧ k < 2 ^ 63 ∧ xs.length * k.toNat ≤ sizeLine then newL m (List.replicate k.toNat xs).flatten S else .stuck
      | none => .stuck
  | _ => .stuck
def cmpI (o : CmpOp) (i j : Int) : Option Bool := match o with
  | .Lt => some (decide (i < j))
  | .LtE => some (decide (i ≤ j))
  | .Gt => some (decide (j < i))
  | .GtE => some (decide (j ≤ i))
  | _ => none
def cmpS (o : CmpOp) (i j : List Nat) : Option Bool := match o with
  | .Lt => some (decide (i < j))
  | .LtE => some (!decide (j < i))
  | .Gt => some (decide (j < i))
  | .GtE => some (!decide (i < j))
  | _ => none
/-- a list that may change, too -/
def toPR (S : Store) (d : D) : Option PyData := match d with
  | .ref n => match S[n]? with
    | some (.lst xs) => (toPL S 0 xs).map .list
    | _ => none
  | d => toP S 0 d
def eqP (S : Store) (x y : D) : Option Bool := match toPR S x, toPR S y with
  | some p, some q => if SeqAt.shaped p && SeqAt.shaped q then some (PyData.eqv p q) else none
  | _, _ => none
/-- two lists, not of one length -/
def lenNe (S : Store) (x y : D) : Bool := match lstOf S x, lstOf S y with
  | some xs, some ys => xs.length != ys.length
  | _, _ => false
def eqD (S : Store) (x y : D) : Option Bool := match x, y with
  | .str a, .str b => some (decide (a = b))
  | x, y => if lenNe S x y then some false else eqP S x y
def isD (x y : D) : Option Bool := match x, y with
  | .non, .non => some true
  | _, .non => some false
  | .bl a, .bl b => some (decide (a = b))
  | _, _ => none
/-- c in z, c one sign; x in a list, a tuple -/
def inD (S : Store) (x y : D) : Option Bool := match x, y with
  | .str c, .str z => if c.length = 1 then some (decide (c.cps.getD 0 0 ∈ z.cps.toList)) else none
  | x, y => match toPR S x, toPR S y with
    | some p, some (.list ps) => if SeqAt.shaped p && SeqAt.shaped (.list ps) then some (ps.any fun z => PyData.eqv z p) else none
    | some p, some (.tuple ps) => if SeqAt.shaped p && SeqAt.shaped (.tuple ps) then some (ps.any fun z => PyData.eqv z p) else none
    | _, _ => none
def cmpD (o : CmpOp) (x y : D) (S : Store) : EOut :=
  match (match o with
    | .Eq => eqD S x y
    | .NotEq => (eqD S x y).map not
    | .Is => isD x y
    | .IsNot => (isD x y).map not
    | .In => inD S x y
    | .NotIn => (inD S x y).map not
    | o => match x, y with
      | .int i, .int j => cmpI o i j
      | .str i, .str j => cmpS o i.cps.toList j.cps.toList
      | _, _ => none) with
  | some b => .ok (.bl b) S
  | none => .stuck
def tyD (S : Store) : D → Option String
  | .non => some "NoneType"
  | .bl _ => some "bool"
  | .int _ => some "int"
  | .str _ => some "str"
  | .tup _ => some "tuple"
  | .lst _ => some "list"
  | .dic _ => some "dict"
  | .ref n => match S[n]? with
    | some (.lst _) => some "list"
    | _ => none
  | _ => none
def isTy (t n : String) : Bool := t == n || (t == "bool" && n == "int")
/-- is a thing of type t one of n's -/
def tyNames : List String := ["NoneType", "bool", "int", "str", "tuple", "list", "dict"]
def isi1 (t : D) (c : D) : Option Bool := match t, c with
  | .ty t, .ty n => if t ∈ tyNames ∧ n ∈ tyNames then some (isTy t n) else none
  | .ty t, .cls _ => if t ∈ tyNames then some false else none
  | _, _ => none
def isiL (t : D) : List D → Option Bool
  | [] => some false
  | c :: r => match isi1 t c, isiL t r with
    | some a, some b => some (a || b)
    | _, _ => none
/-- classes are numbered so: a bit for each class above, the own one the highest -/
def subC (c c' : Nat) : Bool := c.testBit c'.log2
/-- built-in classes that exceptions are asked for -/
def xTy : List (String × Bool) := [("ValueError", true), ("Exception", true), ("LookupError", false), ("TypeError", false), ("ArithmeticError", false), ("AttributeError", false), ("RuntimeError", false), ("str", false), ("int", false), ("tuple", false), ("list", false), ("dict", false)]
def isx1 (x : Nat) (c : D) : Option Bool := match c with
  | .cls c => some (subC x c)
  | .ty n => (xTy.find? fun p => p.1 == n).map (·.2)
  | _ => none
def isxL (x : Nat) : List D → Option Bool
  | [] => some false
  | c :: r => match isx1 x c, isxL x r with
    | some a, some b => some (a || b)
    | _, _ => none
def isiD (S : Store) (x c : D) : Option Bool := match tyD S x with
  | some t => match c with
    | .tup cs => isiL (.ty t) cs
    | c => isi1 (.ty t) c
  | none => match x with
    | .exc k _ => match c with
      | .tup cs => isxL k cs
      | c => isx1 k c
    | .dct => match c with
      | .tup cs => isiL (.ty "dict") cs
      | c => isi1 (.ty "dict") c
    | _ => none
def idxD (x i : D) (S : Store) : EOut := match i with
  | .int k => match x with
    | .str z => match L2.atI z.cps.toList k with
      | some c => .ok (.str (T [c])) S
      | none => .stuck
    | x => match itemsOf S x with
      | some xs => match L2.atI xs k with
        | some v => .ok v S
        | none => .stuck
      | none => .stuck
  | _ => .stuck
def cutD (xs : List D) (lo hi : Option Int) : List D := (xs.drop (HT.sIx xs.length 0 lo)).take (HT.sIx xs.length xs.length hi - HT.sIx xs.length 0 lo)
def cutN (xs : List Nat) (lo hi : Option Int) : List Nat := (xs.drop (HT.sIx xs.length 0 lo)).take (HT.sIx xs.length xs.length hi - HT.sIx xs.length 0 lo)
def slcD (m : Bool) (x : D) (lo hi : Option Int) (S : Store) : EOut := match x with
  | .str z => .ok (.str (T (cutN z.cps.toList lo hi))) S
  | .tup xs => .ok (.tup (cutD xs lo hi)) S
  | x => match lstOf S x with
    | some xs => newL m (cutD xs lo hi) S
    | none => .stuck
def boolsOf : List D → Option (List Bool)
  | [] => some []
  | .bl b :: r => (boolsOf r).map (b :: ·)
  | _ => none
def intsOf : List D → Option (List Int)
  | [] => some []
  | .int b :: r => (intsOf r).map (b :: ·)
  | _ => none
def strsOf : List D → Option (List Str)
  | [] => some []
  | .str b :: r => (strsOf r).map (b :: ·)
  | _ => none
def insI (x : Int) : List Int → List Int
  | [] => [x]
  | y :: r => if x ≤ y then x :: y :: r else y :: insI x r
def sortI (xs : List Int) : List Int := xs.foldr insI []
def txt (s : String) : Str := Str.ofString s
/-- repr of what is one -/
def reprD : D → Option Str
  | .non => some (txt "None")
  | .bl b => some (txt (if b then "True" else "False"))
  | .int i => if i.natAbs.log2 < 1920 then some (txt (toString i)) else none
  | .str x => if (reprText x).length ≤ sizeLine then some (reprText x) else none
  | _ => none
mutual
/-- plain data for repr: dicts, too -/
def toQ : D → Option PyData
  | .non => some .none
  | .bl b => some (.bool b)
  | .int i => some (.int i)
  | .str x => some (.str x)
  | .tup xs => (toQL xs).map .tuple
  | .lst xs => (toQL xs).map .list
  | .dic kvs => (toQK kvs).map .dict
  | _ => none
def toQL : List D → Option (List PyData)
  | [] => some []
  | d :: r => match toQ d, toQL r with
    | some p, some q => some (p :: q)
    | _, _ => none
def toQK : List (Key × D) → Option (List (PyData × PyData))
  | [] => some []
  | d :: r => match toQ d.2, toQK r with
    | some p, some q => some ((encK d.1, p) :: q)
    | _, _ => none
end
def toQR (S : Store) (d : D) : Option PyData := match d with
  | .ref n => match S[n]? with
    | some (.lst xs) => (toQL xs).map .list
    | _ => none
  | d => toQ d
/-- .. of lists, tuples, dicts, too -/
def reprX (S : Store) (x : D) : Option Str := match x with
  | .tup xs => (toQR S (.tup xs)).bind reprPd
  | .lst xs => (toQR S (.lst xs)).bind reprPd
  | .ref n => (toQR S (.ref n)).bind reprPd
  | .dic kvs => (toQR S (.dic kvs)).bind reprPd
  | x => reprD x
/-- how many it has -/
def sizeD (S : Store) (x : D) : Option Nat := match x with
  | .str z => some z.length
  | .dic kvs => some kvs.length
  | x => (itemsOf S x).map List.length
def strD : D → Option Str
  | .int i => if i.natAbs.log2 < 1920 then some (txt (toString i)) else none
  | _ => none
def intD : D → Option Int
  | .int i => some i
  | .bl b => some (if b then 1 else 0)
  | _ => none
def boolD : D → Option Bool
  | .bl b => some b
  | .int i => some (i != 0)
  | _ => none
def absD : D → Option Int
  | .int i => some (if i < 0 then -i else i)
  | _ => none
def ordD : D → Option Int
  | .str z => if z.length = 1 then some (z.cps.getD 0 0 : Nat) else none
  | _ => none
def gvI (S : Store) : Option Int → EOut
  | some i => .ok (.int i) S
  | none => .stuck
def gvB (S : Store) : Option Bool → EOut
  | some i => .ok (.bl i) S
  | none => .stuck
def gvS (S : Store) : Option Str → EOut
  | some i => .ok (.str i) S
  | none => .stuck
def sortedD (m : Bool) (S : Store) (x : D) : EOut := match (lstOf S x).bind intsOf with
  | some ns => if ns.length < 64 then newL m ((sortI ns).map .int) S else .stuck
  | none => .stuck
def listD (m : Bool) (S : Store) (x : D) : EOut := match itemsOf S x with
  | some xs => newL m xs S
  | none => .stuck
def tupleD (S : Store) (x : D) : EOut := match x with
  | .tup xs => .ok (.tup xs) S
  | x => match lstOf S x with
    | some xs => newT xs S
    | none => .stuck
def blt1 (b : Bn) (m : Bool) (x : D) (S : Store) : EOut := match b with
  | .len => gvI S ((sizeD S x).map Int.ofNat)
  | .abs => gvI S (absD x)
  | .int => gvI S (intD x)
  | .bool => gvB S (boolD x)
  | .str => gvS S (strD x)
  | .repr => gvS S (reprX S x)
  | .ord => gvI S (ordD x)
  | .all => gvB S (((lstOf S x).bind boolsOf).map fun bs => bs.all id)
  | .any => gvB S (((lstOf S x).bind boolsOf).map fun bs => bs.any id)
  | .sorted => sortedD m S x
  | .list => listD m S x
  | .tuple => tupleD S x
  | _ => .stuck
def maxD (S : Store) : D → D → EOut
  | .int i, .int j => .ok (.int (if j > i then j else i)) S
  | _, _ => .stuck
def minD (S : Store) : D → D → EOut
  | .int i, .int j => .ok (.int (if j < i then j else i)) S
  | _, _ => .stuck
def blt2 (b : Bn) (m : Bool) (x y : D) (S : Store) : EOut := match b with
  | .isi => gvB S (isiD S x y)
  | .max => maxD S x y
  | .min => minD S x y
  | _ => .stuck
def bltD (b : Bn) (m : Bool) (xs : List D) (S : Store) : EOut := match xs with
  | [x] => blt1 b m x S
  | [x, y] => blt2 b m x y S
  | _ => .stuck
/-- it has the method -/
def Mt.self (S : Store) : Mt → D → Bool
  | .join, .str _ => true
  | .join, _ => false
  | .split, .str _ => true
  | .split, _ => false
  | _, .ref n => match S[n]? with
    | some (.lst _) => true
    | _ => false
  | _, _ => false
def lenJ (sep : Str) (xs : List Str) : Nat := (xs.map Str.length).sum + xs.length * sep.length
def splitD (S : Store) : D → D → EOut
  | .str a, .str b => if (b.length == 0) = false ∧ a.length + 2 ≤ sizeLine ∧ ((Txt.split a b).all fun z => decide (z.length ≤ sizeLine)) = true then newL false ((Txt.split a b).map .str) S else .stuck
  | _, _ => .stuck
def appD (S : Store) (x y : D) : EOut := match x with
  | .ref n => match S[n]? with
    | some (.lst xs) => if xs.length < sizeLine then .ok .non (S.set n (.lst (xs ++ [y]))) else .stuck
    | _ => .stuck
  | _ => .stuck
def methD (t : Mt) (x : D) (xs : List D) (S : Store) : EOut := match t, xs with
  | .join, [y] => match x with
    | .str sep => match (itemsOf S y).bind strsOf with
      | some zs => if lenJ sep zs ≤ sizeLine then .ok (.str (Txt.join sep zs)) S else .stuck
      | none => .stuck
    | _ => .stuck
  | .split, [y] => splitD S x y
  | .append, [y] => appD S x y
  | _, _ => .stuck
def setL (x i v : D) (S : Store) : Option Store := match x, i with
  | .ref n, .int k => match S[n]? with
    | some (.lst xs) => match L2.ixN xs.length k with
      | some j => some (S.set n (.lst (xs.set j v)))
      | none => none
    | _ => none
  | _, _ => none
def keyOf : D → Option Key
  | .int i => some (.inl i)
  | .str x => some (.inr x)
  | _ => none
def pairsOf : List D → Option (List (Key × D))
  | [] => some []
  | k :: v :: r => match keyOf k, pairsOf r with
    | some k, some ps => some ((k, v) :: ps)
    | _, _ => none
  | _ => none
def putD (kvs : List (Key × D)) (k : Key) (v : D) : List (Key × D) :=
  if (kvs.any fun kv => decide (kv.1 = k)) = true then kvs.map (fun kv => if kv.1 = k then (kv.1, v) else kv) else kvs ++ [(k, v)]
def mergeD (kvs more : List (Key × D)) : List (Key × D) := more.foldl (fun acc kv => putD acc kv.1 kv.2) kvs
/-- all of it are keys -/
def keysOf : List D → Option (List Key)
  | [] => some []
  | d :: r => match keyOf d, keysOf r with
    | some k, some ks => some (k :: ks)
    | _, _ => none
def dicT (xs : List D) (S : Store) : EOut := match xs with
  | [.tup ks, _] => match keysOf ks with
    | some _ => .ok .dct S
    | none => .stuck
  | _ => .stuck
/-- a dict display -/
def dicD (xs : List D) (S : Store) : EOut := match pairsOf xs with
  | some kvs => .ok (.dic (mergeD [] kvs)) S
  | none => dicT xs S
mutual
/-- a target's names stored -/
def bindT : Tg → D → Env' → Option Env'
  | .name i, d, ρ => some (ρ.set i (some d))
  | .tup is, d, ρ => match d with
    | .tup xs => if xs.length = is.length then some ((is.zip xs).foldl (fun ρ p => ρ.set p.1 (some p.2)) ρ) else none
    | _ => none
  | .nest ts, d, ρ => match d with
    | .tup xs => bindTs ts xs ρ
    | _ => none
def bindTs : List Tg → List D → Env' → Option Env'
  | [], xs, ρ => match xs with
    | [] => some ρ
    | _ => none
  | t :: ts, xs, ρ => match xs with
    | x :: xs => match bindT t x ρ with
      | some ρ => bindTs ts xs ρ
      | none => none
    | _ => none
end
def wipeD (ρ : Env') : List Nat → Env'
  | [] => ρ
  | v :: vs => (wipeD ρ vs).set v none
/-- an exception's fields, by what it is made of -/
def fldD (ds : List D) (fs : List (Str × Nat)) : List (Str × D) := fs.foldl (fun acc p => match ds[p.2]? with | some v => (p.1, v) :: acc | none => acc) []
def attD (x : D) (f : Str) (S : Store) : EOut := match x with
  | .exc _ fs => match fs.lookup f with
    | some d => .ok d S
    | none => .stuck
  | _ => .stuck
/-! ### running -/
inductive LOut where
  | ok (ds : List D) (S : Store)
  | exc (x : Exn) (S : Store)
  | stuck
  deriving Inhabited
def LOut.bind (o : LOut) (f : List D → Store → EOut) : EOut := match o with
  | .ok d S => f d S
  | .exc x S => .exc x S
  | .stuck => .stuck
def EOut.bindL (o : EOut) (f : D → Store → LOut) : LOut := match o with
  | .ok d S => f d S
  | .exc x S => .exc x S
  | .stuck => .stuck
def LOut.bindL (o : LOut) (f : List D → Store → LOut) : LOut := match o with
  | .ok d S => f d S
  | .exc x S => .exc x S
  | .stuck => .stuck
/-- no exception comes out of a comprehension -/
def EOut.calm : EOut → EOut
  | .exc _ _ => .stuck
  | o => o
/-- the turns of a comprehension -/
def compGo (g : D → Store → Option (Option D × Store)) : List D → Store → LOut
  | [], S => .ok [] S
  | x :: r, S => match g x S with
    | some (y, S1) => (compGo g r S1).bindL fun ys S2 => .ok (match y with | some y => y :: ys | none => ys) S2
    | none => .stuck
/-- what calls do: of defs, two frames deeper, of a def that gets a lambda, of what was got -/
structure CallF where
  fn : Nat → List D → Store → EOut
  low : Nat → List D → Store → EOut
  lam : Nat → (Store → EOut) → Store → EOut
  ask : Store → EOut
instance : CoeFun CallF (fun _ => Nat → List D → Store → EOut) := ⟨CallF.fn⟩
def CallF.no : CallF := ⟨fun _ _ _ => .stuck, fun _ _ _ => .stuck, fun _ _ _ => .stuck, fun _ => .stuck⟩
def srcs (xs : List D) : List Src → Option (List D)
  | [] => some []
  | .arg i :: r => match xs[i]?, srcs xs r with
    | some x, some ys => some (x :: ys)
    | _, _ => none
  | .dat d _ :: r => (srcs xs r).map (d :: ·)
mutual
def ev (cf : CallF) : E → Env' → Store → EOut
  | .lit d, _, S => .ok d S
  | .var i, ρ, S => match ρ[i]? with
    | some (some d) => .ok d S
    | _ => .stuck
  | .glo _ d, _, S => .ok d S
  | .bin o a b, ρ, S => (ev cf a ρ S).bind fun x S => (ev cf b ρ S).bind fun y S => binD o x y S
  | .neg a, ρ, S => (ev cf a ρ S).bind fun x S => match x with
    | .int i => .ok (.int (-i)) S
    | _ => .stuck
  | .not a, ρ, S => (ev cf a ρ S).bind fun x S => match truD S x with
    | some b => .ok (.bl (!b)) S
    | none => .stuck
  | .and a b, ρ, S => (ev cf a ρ S).bind fun x S => match truD S x with
    | some true => ev cf b ρ S
    | some false => .ok x S
    | none => .stuck
  | .or a b, ρ, S => (ev cf a ρ S).bind fun x S => match truD S x with
    | some true => .ok x S
    | some false => ev cf b ρ S
    | none => .stuck
  | .ite c a b, ρ, S => (ev cf c ρ S).bind fun x S => match truD S x with
    | some true => ev cf a ρ S
    | some false => ev cf b ρ S
    | none => .stuck
  | .cmp o a b, ρ, S => (ev cf a ρ S).bind fun x S => (ev cf b ρ S).bind fun y S => cmpD o x y S
  | .chn o o' a b c, ρ, S => (ev cf a ρ S).bind fun x S => (ev cf b ρ S).bind fun y S => (cmpD o x y S).bind fun k S => match k with
    | .bl true => (ev cf c ρ S).bind fun z S => cmpD o' y z S
    | .bl false => .ok (.bl false) S
    | _ => .stuck
  | .tup es, ρ, S => (evs cf es ρ S).bind newT
  | .lst m es, ρ, S => (evs cf es ρ S).bind (newL m)
  | .dic es, ρ, S => (evs cf es ρ S).bind fun xs S => dicD xs S
  | .call c es zs, ρ, S => (evs cf es ρ S).bind fun xs S => (evs cf zs ρ S).bind fun ys S => match srcs (xs ++ ys) c.src with
    | some ys => cf c.f ys S
    | none => .stuck
  | .blt b m es, ρ, S => (evs cf es ρ S).bind (bltD b m)
  | .meth t a es, ρ, S => (ev cf a ρ S).bind fun x S => if t.self S x then (evs cf es ρ S).bind fun xs S => methD t x xs S else .stuck
  | .tyv t, _, S => .ok (.ty t.nm) S
  | .clsv _ c, _, S => .ok (.cls c) S
  | .idx a i, ρ, S => (ev cf a ρ S).bind fun x S => (ev cf i ρ S).bind fun y S => idxD x y S
  | .slc m a lo hi, ρ, S => (ev cf a ρ S).bind fun x S => evo cf lo ρ S fun l S => evo cf hi ρ S fun u S => slcD m x l u S
  | .comp m own tg it conds elt, ρ, S => (evI cf it ρ S).bind fun xs S =>
      (compGo (fun x S => match bindT tg x (wipeD ρ (own.map (·.2))) with
        | some ρ' => match evC cf conds ρ' S with
          | some (true, S) => match ev cf elt ρ' S with
            | .ok d S => some (some d, S)
            | _ => none
          | some (false, S) => some (none, S)
          | none => none
        | none => none) xs S).bind (newL m)
  | .frz a, ρ, S => (ev cf a ρ S).bind fun x S => match x with
    | .ref n => match S[n]? with
      | some (.lst xs) => .ok (.lst xs) (S.set n .dead)
      | some (.ins c fs) => .ok (.ins c fs) (S.set n .dead)
      | _ => .stuck
    | _ => .stuck
  | .cat m a b, ρ, S => (ev cf a ρ S).bind fun x S => (ev cf b ρ S).bind fun y S => catD m x y S
  | .rep m a b, ρ, S => (ev cf a ρ S).bind fun x S => (ev cf b ρ S).bind fun y S => repD m x y S
  | .att a f, ρ, S => (ev cf a ρ S).bind fun x S => attD x f S
  | .lam h e, ρ, S => cf.lam h (fun S => ev { CallF.no with fn := cf.low } e ρ S) S
  | .ask, ρ, S => match (ρ[0]? : Option (Option D)) with
    | some (some .fnv) => cf.ask S
    | _ => .stuck
def evs (cf : CallF) : Es → Env' → Store → LOut
  | .nil, _, S => .ok [] S
  | .cons e r, ρ, S => (ev cf e ρ S).bindL fun x S => (evs cf r ρ S).bindL fun xs S => .ok (x :: xs) S
  | .star e r, ρ, S => (ev cf e ρ S).bindL fun x S => match itemsOf S x with
    | some ys => (evs cf r ρ S).bindL fun xs S => .ok (ys ++ xs) S
    | none => .stuck
def evo (cf : CallF) : Oe → Env' → Store → (Option Int → Store → EOut) → EOut
  | .no, _, S, k => k none S
  | .some e, ρ, S, k => (ev cf e ρ S).bind fun x S => match x with
    | .int i => k (some i) S
    | _ => .stuck
/-- a comprehension's tests -/
def evC (cf : CallF) : Es → Env' → Store → Option (Bool × Store)
  | .nil, _, S => some (true, S)
  | .cons e r, ρ, S => match ev cf e ρ S with
    | .ok x S => match truD S x with
      | some true => evC cf r ρ S
      | some false => some (false, S)
      | none => none
    | _ => none
  | .star _ _, _, _ => none
/-- the items of what is walked -/
def evI (cf : CallF) : It → Env' → Store → LOut
  | .val e, ρ, S => (ev cf e ρ S).bindL fun x S => match x with
    | .str z => .ok (z.cps.toList.map fun c => .str (T [c])) S
    | .tup xs => .ok xs S
    | .lst xs => .ok xs S
    | _ => .stuck
  | .rng a, ρ, S => (ev cf a ρ S).bindL fun x S => match x with
    | .int j => if -(2 ^ 62) ≤ j ∧ j < 2 ^ 62 then .ok ((List.range j.toNat).map fun i => .int (i : Nat)) S else .stuck
    | _ => .stuck
  | .rng2 a b, ρ, S => (ev cf a ρ S).bindL fun x S => (ev cf b ρ S).bindL fun y S => match x, y with
    | .int i, .int j => if -(2 ^ 62) ≤ i ∧ i < 2 ^ 62 ∧ -(2 ^ 62) ≤ j ∧ j < 2 ^ 62 then .ok ((List.range (j - i).toNat).map fun k => .int (i + (k : Nat))) S else .stuck
    | _, _ => .stuck
  | .zip a b, ρ, S => (ev cf a ρ S).bindL fun x S => (ev cf b ρ S).bindL fun y S => match x, y with
    | .lst xs, .lst ys => .ok ((xs.zip ys).map fun p => .tup [p.1, p.2]) S
    | .tup xs, .tup ys => .ok ((xs.zip ys).map fun p => .tup [p.1, p.2]) S
    | _, _ => .stuck
  | .enum a, ρ, S => (ev cf a ρ S).bindL fun x S => match x with
    | .lst xs => .ok (((List.range xs.length).zip xs).map fun p => .tup [.int (p.1 : Nat), p.2]) S
    | .tup xs => .ok (((List.range xs.length).zip xs).map fun p => .tup [.int (p.1 : Nat), p.2]) S
    | _ => .stuck
end
section
variable (cf : CallF)
/-! ### statements -/
inductive SOut where
  | nx (ρ : Env') (S : Store)
  | rt (d : D) (ρ : Env') (S : Store)
  | bk (ρ : Env') (S : Store)
  | ct (ρ : Env') (S : Store)
  | exc (x : Exn) (ρ : Env') (S : Store)
  | stuck
  deriving Inhabited
def EOut.bindS (o : EOut) (ρ : Env') (f : D → Store → SOut) : SOut := match o with
  | .ok d S => f d S
  | .exc x S => .exc x ρ S
  | .stuck => .stuck
def LOut.bindS (o : LOut) (ρ : Env') (f : List D → Store → SOut) : SOut := match o with
  | .ok d S => f d S
  | .exc x S => .exc x ρ S
  | .stuck => .stuck
def SOut.seq (o : SOut) (f : Env' → Store → SOut) : SOut := match o with
  | .nx ρ S => f ρ S
  | o => o
/-- behind an except clause: its name goes -/
def wipe1 (i : Option Nat) (ρ : Env') : Env' := match i with
  | some i => ρ.set i none
  | none => ρ
def set1 (i : Option Nat) (d : D) (ρ : Env') : Env' := match i with
  | some i => ρ.set i (some d)
  | none => ρ
def SOut.fin (i : Option Nat) : SOut → SOut
  | .nx ρ S => .nx (wipe1 i ρ) S
  | .rt d ρ S => .rt d (wipe1 i ρ) S
  | .bk ρ S => .bk (wipe1 i ρ) S
  | .ct ρ S => .ct (wipe1 i ρ) S
  | _ => .stuck
/-- try .. except -/
def tryGo (c : Nat) (i : Option Nat) (o : SOut) (g : Env' → Store → SOut) : SOut := match o with
  | .exc x ρ S => if subC x.c c then (g (set1 i (.exc x.c x.fs) ρ) S).fin i else .exc x ρ S
  | o => o
/-- a for over items -/
def forGo (g : D → Env' → Store → SOut) : List D → Env' → Store → SOut
  | [], ρ, S => .nx ρ S
  | x :: r, ρ, S => match g x ρ S with
    | .nx ρ S => forGo g r ρ S
    | .ct ρ S => forGo g r ρ S
    | .bk ρ S => .nx ρ S
    | o => o
def whlGo (c : Env' → Store → EOut) (b : Env' → Store → SOut) : Nat → Env' → Store → SOut
  | 0, _, _ => .stuck
  | n + 1, ρ, S => (c ρ S).bindS ρ fun x S => match truD S x with
    | some true => match b ρ S with
      | .nx ρ S => whlGo c b n ρ S
      | .ct ρ S => whlGo c b n ρ S
      | .bk ρ S => .nx ρ S
      | o => o
    | some false => .nx ρ S
    | none => .stuck
/-- turns of a while at most -/
def whlMost : Nat := 100000
mutual
def st : Cm → Env' → Store → SOut
  | .exp e, ρ, S => (ev cf e ρ S).bindS ρ fun _ S => .nx ρ S
  | .asg t e, ρ, S => (ev cf e ρ S).bindS ρ fun x S => match bindT t x ρ with
    | some ρ' => .nx ρ' S
    | none => .stuck
  | .iset o i e, ρ, S => (ev cf e ρ S).bindS ρ fun v S => (ev cf o ρ S).bindS ρ fun x S => (ev cf i ρ S).bindS ρ fun k S => match setL x k v S with
    | some S' => .nx ρ S'
    | none => .stuck
  | .ret e, ρ, S => (ev cf e ρ S).bindS ρ fun x S => .rt x ρ S
  | .retN, ρ, S => .rt .non ρ S
  | .pass, ρ, S => .nx ρ S
  | .brk, ρ, S => .bk ρ S
  | .cont, ρ, S => .ct ρ S
  | .ite c a b, ρ, S => (ev cf c ρ S).bindS ρ fun x S => match truD S x with
    | some true => sts a ρ S
    | some false => sts b ρ S
    | none => .stuck
  | .forS t it b, ρ, S => (evI cf it ρ S).bindS ρ fun xs S => forGo (fun x ρ S => match bindT t x ρ with
      | some ρ' => sts b ρ' S
      | none => .stuck) xs ρ S
  | .whl c b, ρ, S => whlGo (ev cf c) (sts b) whlMost ρ S
  | .raise _ c np fs es, ρ, S => (evs cf es ρ S).bindS ρ fun xs S => if xs.length = np then .exc ⟨c, fldD xs fs⟩ ρ S else .stuck
  | .tryE _ c i b s, ρ, S => tryGo c i (sts b ρ S) (sts s)
def sts : Cms → Env' → Store → SOut
  | .nil, ρ, S => .nx ρ S
  | .cons s r, ρ, S => (st s ρ S).seq (sts r)
  | .fix i r, ρ, S => match (ρ[i]? : Option (Option D)) with
    | some (some (.ref n)) => match S[n]? with
      | some (.lst xs) => sts r (ρ.set i (some (.lst xs))) (S.set n .dead)
      | _ => .stuck
    | _ => .stuck
end
end
/-! ### the program -/
structure FD where
  at_ : Str × Option Str
  name : Str
  qual : Str
  params : Arguments
  stmts : List Stmt
  scope : Scope
  N : List Str
  np : Nat
  body : Cms
  /-- it hands a lambda on -/
  mkr : Bool := false
  /-- it calls what it got -/
  ask : Bool := false
  /-- the values of its defaults -/
  dvs : List He.Dv := []
abbrev Pg := List FD
def gc (n : Nat) : EOut → EOut
  | .ok d S => if d.lows n && (S.take n).all (MO.lows n) then .ok d (S.take n) else .ok d S
  | .exc x S => if lowsF n x.fs && (S.take n).all (MO.lows n) then .exc x (S.take n) else .exc x S
  | .stuck => .stuck
def run (cf : CallF) (fd : FD) (xs : List D) (S : Store) : EOut :=
  if xs.length = fd.np then match sts cf fd.body (xs.map some ++ List.replicate (fd.N.length - fd.np) none) S with
    | .nx _ S' => .ok .non S'
    | .rt d _ S' => .ok d S'
    | .exc x _ S' => .exc x S'
    | _ => .stuck
  else .stuck
/-- calls behind each other: so many frames; the defs, those one frame deeper -/
def callK2 (P : Pg) : Nat → CallF × (Nat → List D → Store → EOut)
  | 0 => (.no, CallF.no.fn)
  | k + 1 => ({
      fn := fun f xs S => match P[f]? with
        | some fd => gc S.length (run (callK2 P k).1 fd xs S)
        | none => .stuck
      low := (callK2 P k).2
      lam := fun h b S => match k with
        | 0 => .stuck
        | _ + 1 => match P[h]? with
          | some fd => gc S.length (run { CallF.no with fn := (callK2 P k).1.fn, ask := b } fd [.fnv] S)
          | none => .stuck
      ask := fun _ => .stuck }, (callK2 P k).1.fn)
def callK (P : Pg) (k : Nat) : CallF := (callK2 P k).1
end PD
set_option maxHeartbeats 1000000
/-! PD3: rules by values -/
namespace PD
open PySem PySem.Spec L2
section
variable {G : PC} {W : WX} {w : Wd} {ρ : Env'} {σ : L2.St} {Q : VK}
theorem At.q {d : D} {v : V} (h : At G W w ρ σ (.ok d w.S) Q) (r : Rep G w d v) : Q v w.H := h.post w rfl h.ok (Le.refl w) v r
theorem Ok.at_some {w : Wd} (ok : Ok G w) {i : Nat} {a : Addr} (h : w.ms[i]? = some a) : ∃ mo, w.S[i]? = some mo ∧ MRep G w a mo := by
  obtain ⟨hl, _⟩ := List.getElem?_eq_some_iff.mp h
  have hs : i < w.S.length := by rw [← ok.len]; exact hl
  exact ⟨w.S[i], List.getElem?_eq_getElem hs, ok.rep i a _ h (List.getElem?_eq_getElem hs)⟩
theorem MRep.there {w : Wd} {a : Addr} : ∀ {mo : MO}, MRep G w a mo → ∃ o, w.H a = some o
  | .lst _, ⟨_, h, _⟩ => ⟨_, h⟩
  | .ins _ _, ⟨_, _, h, _⟩ => ⟨_, h⟩
  | .dead, ⟨o, h, _⟩ => ⟨o, h⟩
theorem Ok.there {w : Wd} (ok : Ok G w) {i : Nat} {a : Addr} (h : w.ms[i]? = some a) : ∃ o, w.H a = some o := let ⟨_, _, m⟩ := ok.at_some h; m.there
theorem Ok.notMu {w : Wd} (ok : Ok G w) {a : Addr} (h : w.H a = none) : ¬ Mu w a := fun m => by
  rcases m with ⟨i, mo, e, _, _⟩ | m
  · obtain ⟨o, q⟩ := ok.there e
    rw [h] at q; cases q
  · obtain ⟨⟨o, q, _⟩, _⟩ := ok.pv a m
    rw [h] at q; cases q
theorem MRep.pl {w : Wd} {a : Addr} : ∀ {mo : MO}, MRep G w a mo → ∃ o, w.H a = some o ∧ Pl o
  | .lst _, ⟨_, h, _⟩ => ⟨_, h, rfl, fun _ z => nomatch z⟩
  | .ins _ _, ⟨_, _, h, _⟩ => ⟨_, h, rfl, fun _ z => nomatch z⟩
  | .dead, h => h
/-- the world with a new object -/
abbrev Wd.put (w : Wd) (p : Addr) (o : HO) : Wd := { w with H := upd w.H p o }
theorem Ok.notMuPut {w : Wd} (ok : Ok G w) {a : Addr} {o : HO} (h : w.H a = none) : ¬ Mu (w.put a o) a := fun m => ok.notMu h m
theorem Le0.put {w : Wd} {p : Addr} {o : HO} (h : w.H p = none) : Le0 w (w.put p o) :=
  ⟨fun a u e n _ => ⟨(upd_ne (ne_of_none e h)).trans e, n⟩, [], by simp⟩
theorem Le.put {w : Wd} {p : Addr} {o : HO} (ok : Ok G w) (h : w.H p = none) : Le w (w.put p o) :=
  ⟨.put h, rfl, fun a ha => let ⟨⟨_, e, _⟩, _⟩ := ok.pv a ha; upd_ne (ne_of_none e h)⟩
theorem MRep.put {w : Wd} {p a : Addr} {o : HO} (h : w.H p = none) : ∀ {mo : MO}, MRep G w a mo → MRep G (w.put p o) a mo
  | .lst _, ⟨_, e, r⟩ => ⟨_, (upd_ne (ne_of_none e h)).trans e, r.le (Le0.put h)⟩
  | .ins _ _, ⟨_, _, e, r⟩ => ⟨_, _, (upd_ne (ne_of_none e h)).trans e, r.le (Le0.put h)⟩
  | .dead, ⟨_, e, q⟩ => ⟨_, (upd_ne (ne_of_none e h)).trans e, q⟩
theorem Ok.put {w : Wd} {p : Addr} {o : HO} (ok : Ok G w) (h : w.H p = none) : Ok G (w.put p o) := ⟨ok.len, ok.nd, fun i a mo e1 e2 => (ok.rep i a mo e1 e2).put h, fun a ha => let ⟨⟨u, e, q⟩, n⟩ := ok.pv a ha; ⟨⟨u, (upd_ne (ne_of_none e h)).trans e, q⟩, n⟩, ok.tab.ext fun b u e => (upd_ne (ne_of_none e h)).trans e⟩
theorem Fz.put {w : Wd} {p : Addr} {o : HO} (ok : Ok G w) (h : w.H p = none) : Fz (w.put p o) p o := ⟨ok.notMu h, .inl upd_same⟩
theorem At.put {d : D} {p : Addr} {o : HO} (h : At G W w ρ σ (.ok d w.S) Q) (hp : w.H p = none) (r : Rep G (w.put p o) d (.ref p)) : Q (.ref p) (upd w.H p o) :=
  h.post (w.put p o) rfl (h.ok.put hp) (Le.put h.ok hp) _ r
/-- a new tuple -/
theorem At.newT {xs : List D} {vs : List V} (h : At G W w ρ σ (newT xs w.S) Q) (r : RepL G w xs vs) (hl : xs.length = vs.length) : vs.length ≤ sizeLine ∧ ∀ p, w.H p = none → Q (.ref p) (upd w.H p (.tup vs)) := by
  unfold PD.newT at h
  by_cases c : xs.length ≤ sizeLine
  · rw [if_pos c] at h
    exact ⟨by omega, fun p hp => h.put hp ⟨p, vs, rfl, .inl ⟨h.ok.notMuPut hp, upd_same⟩, r.le (Le0.put hp)⟩⟩
  · rw [if_neg c] at h; exact h.post.elim
theorem RepL.length {w : Wd} : ∀ {ds : List D} {vs : List V}, RepL G w ds vs → ds.length = vs.length
  | [], _, e => by rw [show _ = [] from e]; rfl
  | _ :: _, _, ⟨_, _, e, _, t⟩ => by rw [e, List.length_cons, List.length_cons, RepL.length t]
theorem RepK.length {w : Wd} : ∀ {ds : List (Key × D)} {vs : List (Key × V)}, RepK G w ds vs → ds.length = vs.length
  | [], _, e => by rw [show _ = [] from e]; rfl
  | _ :: _, _, ⟨_, _, e, _, t⟩ => by rw [e, List.length_cons, List.length_cons, RepK.length t]
/-- the world with a new entry -/
abbrev Wd.grow (w : Wd) (p : Addr) (o : HO) (mo : MO) : Wd := ⟨upd w.H p o, w.ms ++ [p], w.S ++ [mo], w.pv⟩
theorem mu_grow {w : Wd} {p a : Addr} {o : HO} {mo : MO} (hl : w.ms.length = w.S.length) (h : Mu (w.grow p o mo) a) : Mu w a ∨ a = p := by
  rcases h with ⟨i, m, e1, e2, l⟩ | h
  rotate_left
  · exact .inl (.inr h)
  by_cases hi : i < w.ms.length
  · rw [List.getElem?_append_left hi] at e1
    rw [List.getElem?_append_left (by omega)] at e2
    exact .inl (.inl ⟨i, m, e1, e2, l⟩)
  · rw [List.getElem?_append_right (by omega)] at e1
    have : i - w.ms.length = 0 := by
      by_cases z : i - w.ms.length = 0
      · exact z
      · rw [List.getElem?_eq_none (by simp; omega)] at e1; cases e1
    rw [this] at e1
    simp at e1
    exact .inr e1.symm
theorem Le0.grow {w : Wd} {p : Addr} {o : HO} {mo : MO} (ok : Ok G w) (h : w.H p = none) : Le0 w (w.grow p o mo) :=
  ⟨fun a u e n _ => ⟨(upd_ne (ne_of_none e h)).trans e, fun m => by
    rcases mu_grow ok.len m with z | z
    · exact n z
    · exact ne_of_none e h z⟩, [p], rfl⟩
theorem Le.grow {w : Wd} {p : Addr} {o : HO} {mo : MO} (ok : Ok G w) (h : w.H p = none) : Le w (w.grow p o mo) :=
  ⟨.grow ok h, rfl, fun a ha => let ⟨⟨_, e, _⟩, _⟩ := ok.pv a ha; upd_ne (ne_of_none e h)⟩
theorem MRep.grow {w : Wd} {p a : Addr} {o : HO} {mo' : MO} (ok : Ok G w) (h : w.H p = none) : ∀ {mo : MO}, MRep G w a mo → MRep G (w.grow p o mo') a mo
  | .lst _, ⟨_, e, r⟩ => ⟨_, (upd_ne (ne_of_none e h)).trans e, r.le (Le0.grow ok h)⟩
  | .ins _ _, ⟨_, _, e, r⟩ => ⟨_, _, (upd_ne (ne_of_none e h)).trans e, r.le (Le0.grow ok h)⟩
  | .dead, ⟨_, e, q⟩ => ⟨_, (upd_ne (ne_of_none e h)).trans e, q⟩
theorem Ok.grow {w : Wd} {p : Addr} {o : HO} {mo : MO} (ok : Ok G w) (h : w.H p = none) (r : MRep G (w.grow p o mo) p mo) : Ok G (w.grow p o mo) := by
  refine ⟨by simp [ok.len], ?_, fun i a m e1 e2 => ?_, fun a ha => ?_, ok.tab.ext fun b u e => (upd_ne (ne_of_none e h)).trans e⟩
  rotate_right
  · obtain ⟨⟨u, e, q⟩, n⟩ := ok.pv a ha
    refine ⟨⟨u, (upd_ne (ne_of_none e h)).trans e, q⟩, fun z => ?_⟩
    rcases List.mem_append.mp z with z | z
    · exact n z
    · exact ne_of_none e h (List.mem_singleton.mp z)
  · show (w.ms ++ [p]).Nodup
    rw [List.nodup_append]
    refine ⟨ok.nd, by simp, fun a ha b hb => ?_⟩
    simp at hb
    subst hb
    obtain ⟨i, _, e⟩ := List.getElem_of_mem ha
    obtain ⟨u, q⟩ := ok.there (List.getElem?_eq_some_iff.mpr ⟨‹_›, e⟩)
    exact ne_of_none q h
  · by_cases hi : i < w.ms.length
    · have e1' : (w.ms ++ [p])[i]? = some a := e1
      have e2' : (w.S ++ [mo])[i]? = some m := e2
      rw [List.getElem?_append_left hi] at e1'
      rw [List.getElem?_append_left (by rw [← ok.len]; exact hi)] at e2'
      exact (ok.rep i a m e1' e2').grow ok h
    · have e1' : (w.ms ++ [p])[i]? = some a := e1
      have e2' : (w.S ++ [mo])[i]? = some m := e2
      rw [List.getElem?_append_right (by omega)] at e1'
      rw [List.getElem?_append_right (by rw [← ok.len]; omega)] at e2'
      have z : i - w.ms.length = 0 := by
        by_cases z : i - w.ms.length = 0
        · exact z
        · rw [List.getElem?_eq_none (by simp; omega)] at e1'; cases e1'
      rw [z] at e1'
      rw [show i - w.S.length = 0 by rw [← ok.len]; exact z] at e2'
      simp at e1' e2'
      subst e1' e2'
      exact r
theorem At.newL {m : Bool} {xs : List D} {vs : List V} (h : At G W w ρ σ (newL m xs w.S) Q) (r : RepL G w xs vs) : vs.length ≤ sizeLine ∧ ∀ p, w.H p = none → Q (.ref p) (upd w.H p (.lst vs)) := by
  have hl := r.length
  unfold PD.newL at h
  by_cases c : xs.length ≤ sizeLine
  · rw [if_pos c] at h
    refine ⟨by omega, fun p hp => ?_⟩
    cases m with
    | false => exact h.put hp ⟨p, vs, rfl, .inl (.put h.ok hp), r.le (Le0.put hp)⟩
    | true =>
      have l := Le.grow (o := .lst vs) (mo := .lst xs) h.ok hp
      exact h.post (w.grow p (.lst vs) (.lst xs)) rfl (h.ok.grow hp ⟨vs, upd_same, r.le l.toLe0⟩) l _ ⟨p, rfl, by
        show (w.ms ++ [p])[w.S.length]? = some p
        rw [← h.ok.len]; simp⟩
  · rw [if_neg c] at h; exact h.post.elim
/-! ### lists and tuples as they are read -/
theorem LstAt.sql {a : Addr} {xs : List V} (h : LstAt G w a xs) : SqL G.K w.H a xs := h.imp (fun h => h.2) id
theorem TupAt.sqt {a : Addr} {xs : List V} (h : TupAt G w a xs) : SqT G.K w.H a xs := h.imp (fun h => .inl h.2) id
theorem lstOf_ok {x : D} {v : V} {xs : List D} (ok : Ok G w) (r : Rep G w x v) (e : lstOf w.S x = some xs) : ∃ a vs, v = .ref a ∧ SqL G.K w.H a vs ∧ RepL G w xs vs := by
  cases x with
  | lst ys =>
    cases e
    obtain ⟨a, vs, e1, t, r⟩ := r
    exact ⟨a, vs, e1, t.sql, r⟩
  | ref n =>
    obtain ⟨a, e1, e2⟩ := r
    obtain ⟨mo, e3, m⟩ := ok.at_some e2
    unfold lstOf at e
    simp only [e3] at e
    cases mo with
    | lst ys =>
      cases e
      obtain ⟨vs, h1, h2⟩ := m
      exact ⟨a, vs, e1, .of h1, h2⟩
    | _ => cases e
  | _ => cases e
theorem itemsOf_ok {x : D} {v : V} {xs : List D} (ok : Ok G w) (r : Rep G w x v) (e : itemsOf w.S x = some xs) : ∃ a vs, v = .ref a ∧ (SqL G.K w.H a vs ∨ SqT G.K w.H a vs) ∧ RepL G w xs vs := by
  cases x with
  | lst ys =>
    cases e
    obtain ⟨a, vs, e1, t, r⟩ := r
    exact ⟨a, vs, e1, .inl t.sql, r⟩
  | tup ys =>
    cases e
    obtain ⟨a, vs, e1, t, r⟩ := r
    exact ⟨a, vs, e1, .inr t.sqt, r⟩
  | ref n =>
    obtain ⟨a, vs, e1, h1, h2⟩ := lstOf_ok ok r (show lstOf w.S (.ref n) = some xs from e)
    exact ⟨a, vs, e1, .inl h1, h2⟩
  | _ => cases e
theorem RepL.get {w : Wd} : ∀ {ds : List D} {vs : List V} {i : Nat} {d : D}, RepL G w ds vs → ds[i]? = some d → ∃ v, vs[i]? = some v ∧ Rep G w d v
  | [], _, _, _, _, h => by simp at h
  | _ :: _, _, 0, _, ⟨v, r, e, h, t⟩, q => by simp at q; subst q; exact ⟨v, by rw [e]; rfl, h⟩
  | _ :: _, _, i + 1, _, ⟨v, r, e, h, t⟩, q => by
    obtain ⟨u, e1, r1⟩ := RepL.get (i := i) t (by simpa using q)
    exact ⟨u, by rw [e]; simpa using e1, r1⟩
theorem RepL.take {w : Wd} : ∀ {ds : List D} {vs : List V} (n : Nat), RepL G w ds vs → RepL G w (ds.take n) (vs.take n)
  | _, _, 0, _ => by simp [RepL]
  | [], _, n + 1, e => by rw [show _ = [] from e]; simp [RepL]
  | _ :: _, _, n + 1, ⟨v, r, e, h, t⟩ => by rw [e]; exact ⟨v, r.take n, rfl, h, RepL.take n t⟩
theorem RepL.drop {w : Wd} : ∀ {ds : List D} {vs : List V} (n : Nat), RepL G w ds vs → RepL G w (ds.drop n) (vs.drop n)
  | _, _, 0, h => h
  | [], _, n + 1, e => by rw [show _ = [] from e]; simp [RepL]
  | _ :: _, _, n + 1, ⟨v, r, e, h, t⟩ => by rw [e]; exact RepL.drop n t
theorem RepL.append {w : Wd} : ∀ {ds es : List D} {vs us : List V}, RepL G w ds vs → RepL G w es us → RepL G w (ds ++ es) (vs ++ us)
  | [], _, _, _, e, h => by rw [show _ = [] from e]; exact h
  | _ :: _, _, _, _, ⟨v, r, e, h, t⟩, q => by rw [e]; exact ⟨v, _, rfl, h, RepL.append t q⟩
theorem RepL.set {w : Wd} {d : D} {v : V} (h : Rep G w d v) : ∀ {ds : List D} {vs : List V} (i : Nat), RepL G w ds vs → RepL G w (ds.set i d) (vs.set i v)
  | [], _, _, e => by rw [show _ = [] from e]; simp [RepL]
  | _ :: _, _, 0, ⟨u, r, e, _, t⟩ => by rw [e]; exact ⟨v, r, rfl, h, t⟩
  | _ :: _, _, i + 1, ⟨u, r, e, q, t⟩ => by rw [e]; exact ⟨u, _, rfl, q, RepL.set h i t⟩
theorem RepL.cut {ds : List D} {vs : List V} (h : RepL G w ds vs) (lo hi : Option Int) : RepL G w (cutD ds lo hi) (cutV vs lo hi) := by
  unfold cutD cutV
  rw [h.length]
  exact (h.drop _).take _
theorem RepL.atI {ds : List D} {vs : List V} {i : Int} {d : D} (h : RepL G w ds vs) (e : L2.atI ds i = some d) : ∃ v, L2.atI vs i = some v ∧ Rep G w d v := by
  unfold L2.atI at e ⊢
  rw [h.length] at e
  cases q : ixN vs.length i with
  | none => rw [q] at e; cases e
  | some j =>
    rw [q] at e
    exact h.get e
/-- truth -/
theorem truD_ok {x : D} {v : V} {k : Bool} (ok : Ok G w) (r : Rep G w x v) (e : truD w.S x = some k) : TruV G.K v w.H k := by
  have lst : ∀ {y : D} {xs : List D}, Rep G w y v → lstOf w.S y = some xs → TruV G.K v w.H (!xs.isEmpty) := fun {y xs} r e => by
    obtain ⟨a, vs, e1, h1, h2⟩ := lstOf_ok ok r e
    subst e1
    refine .inl ⟨vs, h1, ?_⟩
    have := h2.length
    cases xs <;> cases vs <;> simp_all
  cases x with
  | non => cases e; rw [show v = .non from r]; rfl
  | bl b => cases e; rw [show v = .bl _ from r]; rfl
  | int i => cases e; rw [show v = .int i from r]; rfl
  | str y => cases e; rw [show v = .str y from r.1]; exact ⟨r.2, rfl⟩
  | tup xs =>
    cases e
    obtain ⟨a, vs, e1, t, h2⟩ := r
    subst e1
    refine .inr (.inl ⟨vs, t.sqt, ?_⟩)
    have := h2.length
    cases xs <;> cases vs <;> simp_all
  | lst xs => cases e; exact lst r rfl
  | dic kvs =>
    cases e
    obtain ⟨a, us, e1, t, h2⟩ := r
    subst e1
    refine .inr (.inr ⟨us, t.2, ?_⟩)
    have := h2.length
    cases kvs <;> cases us <;> simp_all
  | ref n =>
    unfold truD at e
    cases q : w.S[n]? with
    | none => simp [q] at e
    | some mo =>
      cases mo with
      | lst xs =>
        have e' : some (!xs.isEmpty) = some k := by simpa only [q] using e
        cases e'
        exact lst r (by simp [lstOf, q])
      | _ => simp [q] at e
  | _ => cases e
end
end PD
set_option maxHeartbeats 2000000
/-! PD3b: lists and texts put together and repeated -/
namespace PD
open PySem PySem.Spec PyProof.Rows L2
section
variable {X : Cx}
/-- a list and a list -/
def rCatL (K : PySem.W.Frag) : R2 := fun x y H Q => ∃ l b xs zs, x = .ref l ∧ y = .ref b ∧ SqL K H l xs ∧ SqL K H b zs ∧ xs.length + zs.length ≤ sizeLine ∧ ∀ p, H p = none → Q (.ref p) (upd H p (.lst (xs ++ zs)))
theorem op_catL : OpR X (binaryOp .Add) (rCatL X.K) := by
  intro pins s σ H x y v u Q I rx ry h
  obtain ⟨l, b, xs, zs, rfl, rfl, hl, hb, hz, q⟩ := h
  cases rx
  cases ry
  obtain ⟨its, r, ⟨⟨cls, dd, data, sl⟩, n, ho, hc, hdn, hd⟩, hlen⟩ := I.list hl
  obtain ⟨its2, r2, ⟨⟨cls2, dd2, data2, sl2⟩, n2, ho2, hc2, hdn2, hd2⟩, hlen2⟩ := I.list hb
  simp only at hc hd hc2 hd2
  subst hc hd hc2 hd2
  have e : its.toArray ++ its2.toArray = (its ++ its2).toArray := by simp
  have l1 := r.length
  have l2 := r2.length
  refine concat_meets ⟨_, ho, rfl⟩ ⟨_, ho2, rfl⟩ noFill_list_add seq_list_add PySem.F.slot_list_add PySem.F.entry_list_add (PySem.F.args_list_add_2 _ _)
    (list_addW l b its.toArray its2.toArray n n2 dd dd2 sl sl2 (by rw [List.size_toArray, List.size_toArray]; omega)) ⟨ho, ho2, ?_⟩
  rw [e]
  exact ⟨.ref _, _, I.lnew (t' := s.toks) (r.append r2) (by rw [List.length_append]; exact hz), rfl, q _ I.fresh⟩
/-- a list times an int -/
def rRepL (K : PySem.W.Frag) : R2 := fun x y H Q => ∃ l k xs, x = .ref l ∧ y = .int k ∧ SqL K H l xs ∧ -(2 ^ 63) ≤ k ∧ k < 2 ^ 63 ∧ xs.length * k.toNat ≤ sizeLine ∧ ∀ p, H p = none → Q (.ref p) (upd H p (.lst (List.replicate k.toNat xs).flatten))
theorem op_repL : OpR X (binaryOp .Mult) (rRepL X.K) := by
  intro pins s σ H x y v u Q I rx ry h
  obtain ⟨l, k, xs, rfl, rfl, hl, h1, h2, hz, q⟩ := h
  cases rx
  obtain ⟨t, rfl⟩ := ry
  obtain ⟨its, r, ⟨⟨cls, dd, data, sl⟩, n, ho, hc, hdn, hd⟩, hlen⟩ := I.list hl
  simp only at hc hd
  subst hc hd
  have l1 := r.length
  have hsz : its.toArray.size * k.toNat ≤ 2 ^ 24 := by
    rw [List.size_toArray, ← l1]
    rw [sizeLine_eq] at hz
    exact hz
  refine wpAny_binaryOp_repeat_ref (T := "list") (U := "int") (by decide) ⟨_, ho, rfl⟩ (fun s' => typeIs_int s' k t) noFill_list_mul F.fills_int_mul F.slot_int_rmul repeat_list F.slot_int_index.lookup
    (call_meets F.slot_int_rmul (typeIs_int s k t) F.entry_int_rmul (F.args_int_rmul_2 _ _) (lm_int_rmul_list_any k t l its.toArray n dd sl)
      ⟨ho, rfl, ⟨_, ho, rfl⟩, call_meets F.slot_list_mul ⟨_, ho, rfl⟩ F.entry_list_mul (F.args_list_mul_2 _ _)
        (lm_list_mul_any l its.toArray n dd sl k t (by simp [Builtin.List.listFitsIndex]; omega) (by omega) (by simp [Builtin.List.listTooLong, sizeLine]; omega))
        ⟨ho, ?_⟩⟩)
  rw [listMul_foldl_if]
  exact ⟨.ref _, _, I.lnew (t' := s.toks) (r.rep k.toNat) (by rw [lm_len_rep_flat, Nat.mul_comm]; exact hz), rfl, q _ I.fresh⟩
theorem repS_cps : ∀ (k : Nat) (x acc : Array Nat), ((List.replicate k x).foldl (· ++ ·) acc).toList = acc.toList ++ (List.replicate k x.toList).flatten
  | 0, x, acc => by simp
  | k + 1, x, acc => by
    rw [List.replicate_succ, List.foldl_cons, repS_cps k, List.replicate_succ, List.flatten_cons, Array.toList_append, List.append_assoc]
/-- a text times an int -/
def repS (x : Str) (k : Nat) : Str := ⟨(List.replicate k x.cps).foldl (· ++ ·) #[]⟩
def rRepS : R2 := fun x y H Q => ∃ a k, x = .str a ∧ y = .int k ∧ 2 ≤ k ∧ k ≤ 100000 ∧ 1 ≤ a.length ∧ a.length * k.toNat ≤ 100000 ∧ Q (.str (repS a k.toNat)) H
theorem op_repS : OpR X (binaryOp .Mult) rRepS := by
  intro pins s σ H x y v u Q I rx ry h
  obtain ⟨a, k, rfl, rfl, h1, h2, h3, h4, q⟩ := h
  obtain ⟨t, rfl⟩ := rx
  obtain ⟨t', rfl⟩ := ry
  have n1 : ¬ k < 1 := by omega
  have n2 : (k == 1 || a.length == 0) = false := by
    rw [Bool.or_eq_false_iff]
    exact ⟨beq_eq_false_iff_ne.mpr (by omega), beq_eq_false_iff_ne.mpr (by omega)⟩
  refine PySem.P.mul_str ?_ (fun _ _ => ?_) (fun _ _ => ?_) ?_
  · rw [Bool.or_eq_false_iff]
    exact ⟨decide_eq_false (by omega), decide_eq_false (by omega)⟩
  · have hq : (92233720368547 : Int) ≤ (2 ^ 63 - 1) / k := by
      have := Int.ediv_le_ediv (a := 92233720368547 * k) (b := 2 ^ 63 - 1) (by omega : (0:Int) < k) (by omega)
      rwa [Int.mul_ediv_cancel _ (by omega)] at this
    have : (a.length : Int) ≤ 100000 := by
      have : a.length * 1 ≤ a.length * k.toNat := Nat.mul_le_mul_left _ (by omega)
      omega
    omega
  · exact decide_eq_false (by rw [sizeLine_eq]; omega)
  · rw [if_neg n1, if_neg (by rw [n2]; exact Bool.false_ne_true)]
    refine ⟨?_, .str (repS a k.toNat), H, I.tok _, ⟨_, rfl⟩, q⟩
    show ((List.replicate k.toNat a.cps).foldl (· ++ ·) #[]).size ≤ sizeLine
    rw [← Array.length_toList, repS_cps]
    have e : (List.replicate k.toNat a.cps.toList).flatten.length = k.toNat * a.length := by
      rw [List.length_flatten, List.map_replicate, List.sum_replicate_nat]
      rfl
    rw [List.length_append, e, sizeLine_eq, Nat.mul_comm]
    show 0 + _ ≤ _
    omega
end
end PD
set_option maxHeartbeats 1000000
/-! PD4: operators, comparisons, subscripts, built-ins on data -/
namespace PD
open PySem PySem.Spec L2
section
variable {G : PC} {W : WX} {w : Wd} {ρ : Env'} {σ : L2.St} {Q : VK} {X : Cx}
theorem At.no {α : Prop} (h : At G W w ρ σ .stuck Q) : α := h.post.elim
/-! ### binary operators -/
def rNo : R2 := fun _ _ _ _ => False
theorem op_no (f : Value → Value → Sem Value) : OpR X f rNo := fun _ _ _ _ _ _ _ _ _ _ _ _ h => h.elim
def rOp (o : Operator) : R2 := match o with
  | .Add => fun x y H Q => (∃ i j, x = .int i ∧ y = .int j ∧ Q (.int (i + j)) H) ∨ (∃ i j, x = .str i ∧ y = .str j ∧ i.length + j.length ≤ sizeLine ∧ Q (.str (i ++ j)) H)
  | .Sub => rI0 fun i j => .int (i - j)
  | .Mult => fun x y H Q => rI CMul (fun i j => .int (i * j)) x y H Q ∨ rI CMulW (fun i j => .int (i * j)) x y H Q
  | .FloorDiv => rI CDivW fun i j => .int (i / j)
  | .Mod => rI (fun _ j => 0 < j) fun i j => .int (i % j)
  | .Pow => rI CPow fun i j => .int (i ^ j.toNat)
  | _ => rNo
theorem op_ok (o : Operator) : OpR X (binaryOp o) (rOp o) := by
  cases o with
  | Add => exact op_add.or op_add_str
  | Sub => exact op_sub
  | Mult => exact op_mul.or op_mulW
  | FloorDiv => exact op_fdivW
  | Mod => exact op_mod
  | Pow => exact op_pow
  | _ => exact op_no _
theorem str_len_append (x y : Str) : (x ++ y).length = x.length + y.length := by
  show (x.cps ++ y.cps).size = _
  rw [Array.size_append]; rfl
theorem bin_ok {o : Operator} {d e : D} {x y : V} (h : At G W w ρ σ (binD o d e w.S) Q) (rx : Rep G w d x) (ry : Rep G w e y) : rOp o x y w.H Q := by
  unfold binD at h
  split at h
  · rename_i i j
    rw [show x = .int i from rx, show y = .int j from ry]
    unfold intOp at h
    split at h
    · exact .inl ⟨i, j, rfl, rfl, h.q rfl⟩
    · exact ⟨i, j, rfl, rfl, h.q rfl⟩
    · split at h
      · rename_i hc
        rcases hc with hc | hc | hc
        · exact .inl ⟨i, j, rfl, rfl, .inl (by constructor <;> omega), h.q rfl⟩
        · exact .inl ⟨i, j, rfl, rfl, .inr (by constructor <;> omega), h.q rfl⟩
        · exact .inr ⟨i, j, rfl, rfl, hc, h.q rfl⟩
      · exact h.no
    · split at h
      · exact ⟨i, j, rfl, rfl, by assumption, h.q rfl⟩
      · exact h.no
    · split at h
      · exact ⟨i, j, rfl, rfl, by assumption, h.q rfl⟩
      · exact h.no
    · split at h
      · exact ⟨i, j, rfl, rfl, by assumption, h.q rfl⟩
      · exact h.no
    · exact h.no
  · rename_i i j
    split at h
    · unfold newS at h
      split at h
      · rename_i hz
        rw [str_len_append] at hz
        rw [show x = .str i from rx.1, show y = .str j from ry.1]
        exact .inr ⟨i, j, rfl, rfl, hz, h.q ⟨rfl, by rw [str_len_append]; exact hz⟩⟩
      · exact h.no
    · exact h.no
  · exact h.no
theorem neg_ok {d : D} {x : V} (h : At G W w ρ σ (match d with | .int i => EOut.ok (.int (-i)) w.S | _ => .stuck) Q) (rx : Rep G w d x) : rU (fun i => .int (-i)) x w.H Q := by
  split at h
  · rename_i i
    exact ⟨i, rx, h.q rfl⟩
  · exact h.no
/-! ### comparisons -/
mutual
theorem dp_of {p : PyData} : ∀ {k : Nat} {d : D} {v : V}, Rep G w d v → toP w.S k d = some p → Dp G.K w.H v p
  | _, .non, v, r, e => by cases e; rw [show v = .non from r]; exact .non
  | _, .bl b, v, r, e => by cases e; rw [show v = .bl b from r]; exact .bl b
  | _, .int b, v, r, e => by cases e; rw [show v = .int b from r]; exact .int b
  | _, .str b, v, r, e => by cases e; rw [show v = .str b from r.1]; exact .str b
  | k, .tup xs, v, ⟨a, vs, e1, t, r⟩, e => by
    subst e1
    unfold toP at e
    cases q : toPL w.S k xs with
    | none => rw [q] at e; cases e
    | some ps => rw [q] at e; cases e; exact .tup t.sqt (dpl_of r q)
  | k, .lst xs, v, ⟨a, vs, e1, t, r⟩, e => by
    subst e1
    unfold toP at e
    cases q : toPL w.S k xs with
    | none => rw [q] at e; cases e
    | some ps => rw [q] at e; cases e; exact .lst t.sql (dpl_of r q)
  | _, .dic _, _, _, e => by cases e
  | _, .dct, _, _, e => by cases e
  | _, .ins _ _, _, _, e => by cases e
  | _, .exc _ _, _, _, e => by cases e
  | _, .ref _, _, _, e => by cases e
  | _, .cls _, _, _, e => by cases e
  | _, .ty _, _, _, e => by cases e
theorem dpl_of {ps : List PyData} : ∀ {k : Nat} {d : List D} {v : List V}, RepL G w d v → toPL w.S k d = some ps → DpAll G.K w.H v ps
  | _, [], v, r, e => by cases e; rw [show v = [] from r]; exact .nil
  | k, d :: r, v, ⟨u, us, e1, h, t⟩, e => by
    subst e1
    unfold toPL at e
    cases q : toP w.S k d with
    | none => rw [q] at e; cases e
    | some p =>
      cases q2 : toPL w.S k r with
      | none => rw [q, q2] at e; cases e
      | some ps => rw [q, q2] at e; cases e; exact .cons (dp_of h q) (dpl_of t q2)
end
mutual
theorem dq_of : ∀ {d : D} {v : V} {p : PyData}, Rep G w d v → toQ d = some p → Dq G.K w.H v p
  | .non, v, _, r, e => by cases e; rw [show v = .non from r]; exact .non
  | .bl b, v, _, r, e => by cases e; rw [show v = .bl b from r]; exact .bl b
  | .int b, v, _, r, e => by cases e; rw [show v = .int b from r]; exact .int b
  | .str b, v, _, r, e => by cases e; rw [show v = .str b from r.1]; exact .str b
  | .tup xs, v, _, ⟨a, vs, e1, t, r⟩, e => by
    subst e1
    unfold toQ at e
    obtain ⟨ps, q, rfl⟩ := Option.map_eq_some_iff.mp e
    exact .tup t.sqt (dql_of r q)
  | .lst xs, v, _, ⟨a, vs, e1, t, r⟩, e => by
    subst e1
    unfold toQ at e
    obtain ⟨ps, q, rfl⟩ := Option.map_eq_some_iff.mp e
    exact .lst t.sql (dql_of r q)
  | .dic kvs, v, _, ⟨a, us, e1, t, r⟩, e => by
    subst e1
    unfold toQ at e
    obtain ⟨ps, q, rfl⟩ := Option.map_eq_some_iff.mp e
    exact .dic t.2 (dqk_of r q)
  | .dct, _, _, _, e => by cases e
  | .fnv, _, _, _, e => by cases e
  | .ins _ _, _, _, _, e => by cases e
  | .exc _ _, _, _, _, e => by cases e
  | .ref _, _, _, _, e => by cases e
  | .cls _, _, _, _, e => by cases e
  | .ty _, _, _, _, e => by cases e
theorem dql_of : ∀ {d : List D} {v : List V} {ps : List PyData}, RepL G w d v → toQL d = some ps → DqAll G.K w.H v ps
  | [], v, _, r, e => by cases e; rw [show v = [] from r]; exact .nil
  | d :: r, v, _, ⟨u, us, e1, h, t⟩, e => by
    subst e1
    unfold toQL at e
    cases q : toQ d with
    | none => rw [q] at e; cases e
    | some p =>
      cases q2 : toQL r with
      | none => rw [q, q2] at e; cases e
      | some ps => rw [q, q2] at e; cases e; exact .cons (dq_of h q) (dql_of t q2)
theorem dqk_of : ∀ {d : List (Key × D)} {v : List (Key × V)} {ps : List (PyData × PyData)}, RepK G w d v → toQK d = some ps → DqK G.K w.H v ps
  | [], v, _, r, e => by cases e; rw [show v = [] from r]; exact .nil
  | d :: r, v, _, ⟨u, us, e1, h, t⟩, e => by
    subst e1
    unfold toQK at e
    cases q : toQ d.2 with
    | none => rw [q] at e; cases e
    | some p =>
      cases q2 : toQK r with
      | none => rw [q, q2] at e; cases e
      | some ps => rw [q, q2] at e; cases e; exact .cons (dq_of h q) (dqk_of t q2)
end
theorem dqr_of {p : PyData} {d : D} {v : V} (ok : Ok G w) (r : Rep G w d v) (e : toQR w.S d = some p) : Dq G.K w.H v p := by
  unfold toQR at e
  split at e
  · rename_i n
    split at e
    · rename_i xs hS
      obtain ⟨ps, e1, rfl⟩ := Option.map_eq_some_iff.mp e
      obtain ⟨a, ea, hn⟩ := r
      subst ea
      obtain ⟨mo, hS', m⟩ := ok.at_some hn
      rw [hS] at hS'
      cases hS'
      obtain ⟨vs, hH, rl⟩ := m
      exact .lst (.inl (.inl hH)) (dql_of rl e1)
    · cases e
  · exact dq_of r e
theorem dpr_of {p : PyData} {d : D} {v : V} (ok : Ok G w) (r : Rep G w d v) (e : toPR w.S d = some p) : Dp G.K w.H v p := by
  unfold toPR at e
  split at e
  · rename_i n
    split at e
    · rename_i xs hS
      obtain ⟨ps, e1, rfl⟩ := Option.map_eq_some_iff.mp e
      obtain ⟨a, ea, hn⟩ := r
      subst ea
      obtain ⟨mo, hS', m⟩ := ok.at_some hn
      rw [hS] at hS'
      cases hS'
      obtain ⟨vs, hH, rl⟩ := m
      exact .lst (.inl (.inl hH)) (dpl_of rl e1)
    · cases e
  · exact dp_of r e
theorem eqP_ok {d e : D} {x y : V} {b : Bool} (ok : Ok G w) (rx : Rep G w d x) (ry : Rep G w e y) (h : eqP w.S d e = some b) :
    ∃ p q, Dp G.K w.H x p ∧ Dp G.K w.H y q ∧ SeqAt.shaped p = true ∧ SeqAt.shaped q = true ∧ PyData.eqv p q = b := by
  unfold eqP at h
  split at h
  · rename_i p q e1 e2
    split at h
    · rename_i c
      cases h
      obtain ⟨c1, c2⟩ := Bool.and_eq_true_iff.mp c
      exact ⟨p, q, dpr_of ok rx e1, dpr_of ok ry e2, c1, c2, rfl⟩
    · cases h
  · cases h
theorem eqD_ok {d e : D} {x y : V} {b : Bool} (ok : Ok G w) (rx : Rep G w d x) (ry : Rep G w e y) (h : eqD w.S d e = some b) : (scal x y = true ∧ decide (x = y) = b) ∨ (b = false ∧ ∃ a c xs ys, x = .ref a ∧ y = .ref c ∧ SqL G.K w.H a xs ∧ SqL G.K w.H c ys ∧ xs.length ≠ ys.length) ∨
    ∃ p q, Dp G.K w.H x p ∧ Dp G.K w.H y q ∧ SeqAt.shaped p = true ∧ SeqAt.shaped q = true ∧ PyData.eqv p q = b := by
  unfold eqD at h
  split at h
  · rename_i i j
    cases h
    rw [show x = .str i from rx.1, show y = .str j from ry.1]
    exact .inl ⟨rfl, by simp⟩
  · split at h
    · rename_i c
      cases h
      unfold lenNe at c
      split at c
      · rename_i xs ys e1 e2
        obtain ⟨a1, vs1, rfl, h1, r1⟩ := lstOf_ok ok rx e1
        obtain ⟨a2, vs2, rfl, h2, r2⟩ := lstOf_ok ok ry e2
        refine .inr (.inl ⟨rfl, a1, a2, vs1, vs2, rfl, rfl, h1, h2, fun z => ?_⟩)
        rw [r1.length, r2.length, z] at c
        simp at c
      · cases c
    · exact .inr (.inr (eqP_ok ok rx ry h))
def rEqL (K : PySem.W.Frag) (k : Bool) : R2 := fun x y H Q => ∃ a c xs ys, x = .ref a ∧ y = .ref c ∧ SqL K H a xs ∧ SqL K H c ys ∧ xs.length ≠ ys.length ∧ Q (.bl k) H
theorem op_eqL (hu : X.A.units + 65 < cLine) : OpR X (compareOp .Eq) (rEqL X.K false) := by
  intro pins s σ H x y v u Q I rx ry ⟨a, c, xs, ys, ex, ey, h1, h2, hl, q⟩
  subst ex ey
  cases rx
  cases ry
  obtain ⟨us, r1, p1, _⟩ := I.list h1
  obtain ⟨ws, r2, p2, _⟩ := I.list h2
  exact SeqAt.eq_list_lengthsAt p1.isList p2.isList (by rw [List.size_toArray, List.size_toArray, ← r1.length, ← r2.length]; simpa using hl) (by omega) ⟨.bl false, H, I, rfl, q⟩
theorem op_neL (hu : X.A.units + 65 < cLine) : OpR X (compareOp .NotEq) (rEqL X.K true) := by
  intro pins s σ H x y v u Q I rx ry ⟨a, c, xs, ys, ex, ey, h1, h2, hl, q⟩
  subst ex ey
  cases rx
  cases ry
  obtain ⟨us, r1, p1, _⟩ := I.list h1
  obtain ⟨ws, r2, p2, _⟩ := I.list h2
  exact SeqAt.RcNeAt.lists_lengths p1.isList p2.isList (by rw [List.size_toArray, List.size_toArray, ← r1.length, ← r2.length]; simpa using hl) (by omega) _ _ _ _ ⟨.bl true, H, I, rfl, q⟩
def rInT (K : PySem.W.Frag) : R2 := fun x y H Q => ∃ d ds, Dp K H x d ∧ Dp K H y (.tuple ds) ∧ SeqAt.shaped d = true ∧ SeqAt.shaped (.tuple ds) = true ∧ Q (.bl (ds.any fun z => PyData.eqv z d)) H
def rNotInT (K : PySem.W.Frag) : R2 := fun x y H Q => ∃ d ds, Dp K H x d ∧ Dp K H y (.tuple ds) ∧ SeqAt.shaped d = true ∧ SeqAt.shaped (.tuple ds) = true ∧ Q (.bl (!ds.any fun z => PyData.eqv z d)) H
theorem op_inT (hu : X.A.units + 65 < cLine) : OpR X (compareOp .In) (rInT X.K) := by
  intro pins s σ H x y v u Q I rx ry h
  obtain ⟨d, ds, hd, he, sd, se, q⟩ := h
  obtain ⟨as, r1⟩ := Dp.reads I d x v hd rx
  obtain ⟨bs, r2⟩ := Dp.reads I (.tuple ds) y u he ry
  exact SeqAt.in_tuple_reads r2 r1 (SeqAt.canLay_of_shaped se) (SeqAt.canLay_of_shaped sd) (PyProof.Rows.room_in_shaped sd hu) ⟨.bl _, H, I, rfl, q⟩
theorem op_notInT (hu : X.A.units + 65 < cLine) : OpR X (compareOp .NotIn) (rNotInT X.K) := by
  intro pins s σ H x y v u Q I rx ry h
  obtain ⟨d, ds, hd, he, sd, se, q⟩ := h
  obtain ⟨as, r1⟩ := Dp.reads I d x v hd rx
  obtain ⟨bs, r2⟩ := Dp.reads I (.tuple ds) y u he ry
  exact SeqAt.notIn_tuple_reads r2 r1 (SeqAt.canLay_of_shaped se) (SeqAt.canLay_of_shaped sd) (PyProof.Rows.room_in_shaped sd hu) ⟨.bl _, H, I, rfl, q⟩
def rCmp (K : PySem.W.Frag) (o : CmpOp) : R2 := match o with
  | .Eq => fun x y H Q => rEq x y H Q ∨ (rEqL K false x y H Q ∨ rEqD K x y H Q)
  | .NotEq => fun x y H Q => rNe x y H Q ∨ (rEqL K true x y H Q ∨ rNeD K x y H Q)
  | .Lt => fun x y H Q => rI0 (fun i j => .bl (decide (i < j))) x y H Q ∨ ∃ i j, x = .str i ∧ y = .str j ∧ Q (.bl (decide (i.cps.toList < j.cps.toList))) H
  | .LtE => fun x y H Q => rI0 (fun i j => .bl (decide (i ≤ j))) x y H Q ∨ ∃ i j, x = .str i ∧ y = .str j ∧ Q (.bl (!decide (j.cps.toList < i.cps.toList))) H
  | .Gt => fun x y H Q => rI0 (fun i j => .bl (decide (j < i))) x y H Q ∨ ∃ i j, x = .str i ∧ y = .str j ∧ Q (.bl (decide (j.cps.toList < i.cps.toList))) H
  | .GtE => fun x y H Q => rI0 (fun i j => .bl (decide (j ≤ i))) x y H Q ∨ ∃ i j, x = .str i ∧ y = .str j ∧ Q (.bl (!decide (i.cps.toList < j.cps.toList))) H
  | .Is => fun x y H Q => (y = .non ∧ Q (.bl (decide (x = .non))) H) ∨ (∃ a b : Bool, x = .bl a ∧ y = .bl b ∧ Q (.bl (decide (a = b))) H)
  | .IsNot => fun x y H Q => (y = .non ∧ Q (.bl (!decide (x = .non))) H) ∨ (∃ a b : Bool, x = .bl a ∧ y = .bl b ∧ Q (.bl (!decide (a = b))) H)
  | .In => fun x y H Q => (∃ (c : Nat) (z : Str), x = .str ⟨#[c]⟩ ∧ y = .str z ∧ Q (.bl (decide (c ∈ z.cps.toList))) H) ∨ (rInD K x y H Q ∨ rInT K x y H Q)
  | .NotIn => fun x y H Q => (∃ (c : Nat) (z : Str), x = .str ⟨#[c]⟩ ∧ y = .str z ∧ Q (.bl (!decide (c ∈ z.cps.toList))) H) ∨ (rNotInD K x y H Q ∨ rNotInT K x y H Q)
theorem opBl {f : Value → Value → Sem Value} (g : Bool → Bool → Bool) (hf : ∀ (a b : Bool) (M : Model) (A : Around) (E : Value → Shared → Prop) (Q : Value → Shared → Prop) (s : Shared), Q (.bool (g a b)) s → wpAny M A (f (.bool a) (.bool b)) Q E s) :
    OpR X f (fun x y H Q => ∃ a b : Bool, x = .bl a ∧ y = .bl b ∧ Q (.bl (g a b)) H) := by
  intro pins s σ H x y v u Q I rx ry h
  obtain ⟨a, b, rfl, rfl, q⟩ := h
  cases rx
  cases ry
  exact hf a b _ _ _ _ _ ⟨.bl _, H, I, rfl, q⟩
theorem cmp_ok' (hu : X.A.units + 65 < cLine) (o : CmpOp) : OpR X (compareOp o) (rCmp X.K o) := by
  cases o with
  | Eq => exact op_eq.or ((op_eqL hu).or (op_eqD (by omega)))
  | NotEq => exact op_ne.or ((op_neL hu).or (op_neD (by omega)))
  | Lt => exact op_lt.or op_lt_str
  | LtE => exact op_le.or op_le_str
  | Gt => exact op_gt.or op_gt_str
  | GtE => exact op_ge.or op_ge_str
  | Is => exact op_isN.or op_isBl
  | IsNot => exact op_notN.or op_notBl
  | In => exact op_in_sign.or ((op_inD hu).or (op_inT hu))
  | NotIn => exact op_notIn_sign.or ((op_notInD hu).or (op_notInT hu))
theorem str_one {c : Str} (h : c.length = 1) : c = ⟨#[c.cps.getD 0 0]⟩ := by
  obtain ⟨a⟩ := c
  obtain ⟨l⟩ := a
  match l, h with
  | [x], _ => rfl
theorem inD_ok {d e : D} {x y : V} {b : Bool} (ok : Ok G w) (rx : Rep G w d x) (ry : Rep G w e y) (h : inD w.S d e = some b) : (∃ (c : Nat) (z : Str), x = .str ⟨#[c]⟩ ∧ y = .str z ∧ decide (c ∈ z.cps.toList) = b) ∨
    (∃ p ps, Dp G.K w.H x p ∧ (Dp G.K w.H y (.list ps) ∧ SeqAt.shaped (.list ps) = true ∨ Dp G.K w.H y (.tuple ps) ∧ SeqAt.shaped (.tuple ps) = true) ∧ SeqAt.shaped p = true ∧ (ps.any fun z => PyData.eqv z p) = b) := by
  unfold inD at h
  split at h
  · rename_i c z
    split at h
    · rename_i hc
      cases h
      refine .inl ⟨c.cps.getD 0 0, z, ?_, ry.1, rfl⟩
      rw [show x = .str c from rx.1, ← str_one hc]
    · cases h
  · split at h
    · rename_i p ps e1 e2
      split at h
      · rename_i c
        cases h
        obtain ⟨c1, c2⟩ := Bool.and_eq_true_iff.mp c
        exact .inr ⟨p, ps, dpr_of ok rx e1, .inl ⟨dpr_of ok ry e2, c2⟩, c1, rfl⟩
      · cases h
    · rename_i p ps e1 e2
      split at h
      · rename_i c
        cases h
        obtain ⟨c1, c2⟩ := Bool.and_eq_true_iff.mp c
        exact .inr ⟨p, ps, dpr_of ok rx e1, .inr ⟨dpr_of ok ry e2, c2⟩, c1, rfl⟩
      · cases h
    · cases h
def isNon : D → Bool
  | .non => true
  | _ => false
theorem rep_non {d : D} {x : V} (r : Rep G w d x) : decide (x = .non) = isNon d := by
  cases d with
  | non => rw [show x = .non from r]; rfl
  | bl b => rw [show x = .bl b from r]; rfl
  | int b => rw [show x = .int b from r]; rfl
  | str b => rw [show x = .str b from r.1]; rfl
  | tup xs => obtain ⟨a, vs, e1, _⟩ := r; rw [e1]; rfl
  | lst xs => obtain ⟨a, vs, e1, _⟩ := r; rw [e1]; rfl
  | dic xs => obtain ⟨a, vs, e1, _⟩ := r; rw [e1]; rfl
  | dct => obtain ⟨a, e1, _⟩ := r; rw [e1]; rfl
  | fnv => exact r.elim
  | ins c xs => obtain ⟨a, vs, e1, _⟩ := r; rw [e1]; rfl
  | exc c xs => obtain ⟨a, od, vs, e1, _⟩ := r; rw [e1]; rfl
  | ref n => obtain ⟨a, e1, _⟩ := r; rw [e1]; rfl
  | cls n => rw [show x = .ref _ from r.1]; rfl
  | ty n => rw [show x = .ty n from r]; rfl
theorem isD_ok {d e : D} {x y : V} {b : Bool} (rx : Rep G w d x) (ry : Rep G w e y) (h : isD d e = some b) : (y = .non ∧ decide (x = .non) = b) ∨ (∃ p q : Bool, x = .bl p ∧ y = .bl q ∧ decide (p = q) = b) := by
  unfold isD at h
  split at h
  · cases h
    exact .inl ⟨ry, by rw [rep_non rx]; rfl⟩
  · cases h
    rename_i n
    refine .inl ⟨ry, ?_⟩
    rw [rep_non rx]
    cases d with
    | non => exact (n rfl).elim
    | _ => rfl
  · rename_i p q
    cases h
    exact .inr ⟨p, q, rx, ry, rfl⟩
  · cases h
theorem cmp_ok {o : CmpOp} {d e : D} {x y : V} (h : At G W w ρ σ (cmpD o d e w.S) Q) (rx : Rep G w d x) (ry : Rep G w e y) : rCmp G.K o x y w.H Q := by
  have num : ∀ {p : Int → Int → Bool} {r : List Nat → List Nat → Bool}, (∀ i j, cmpI o i j = some (p i j)) → (∀ i j, cmpS o i j = some (r i j)) → At G W w ρ σ (match (match d, e with | .int i, .int j => cmpI o i j | .str i, .str j => cmpS o i.cps.toList j.cps.toList | _, _ => none) with | some b => EOut.ok (.bl b) w.S | none => .stuck) Q →
      (rI0 fun i j => .bl (p i j)) x y w.H Q ∨ ∃ i j, x = .str i ∧ y = .str j ∧ Q (.bl (r i.cps.toList j.cps.toList)) w.H := by
    intro p r hp hr h
    split at h
    · rename_i b hb
      split at hb
      · rename_i i j
        rw [hp] at hb
        cases hb
        exact .inl ⟨i, j, rx, ry, h.q rfl⟩
      · rename_i i j
        rw [hr] at hb
        cases hb
        exact .inr ⟨i, j, rx.1, ry.1, h.q rfl⟩
      · cases hb
    · exact h.no
  unfold cmpD at h
  cases o with
  | Eq =>
    simp only at h
    split at h
    · rename_i b hb
      rcases eqD_ok h.ok rx ry hb with ⟨h1, h2⟩ | ⟨rfl, a, c, xs, ys, h1, h2, h3, h4, h5⟩ | ⟨p, q, h1, h2, h3, h4, h5⟩
      · exact .inl ⟨h1, by rw [h2]; exact h.q rfl⟩
      · exact .inr (.inl ⟨a, c, xs, ys, h1, h2, h3, h4, h5, h.q rfl⟩)
      · refine .inr (.inr ?_); exact ⟨p, q, h1, h2, h3, h4, by rw [h5]; exact h.q rfl⟩
    · exact h.no
  | NotEq =>
    simp only at h
    split at h
    · rename_i b hb
      obtain ⟨c, hc, rfl⟩ := Option.map_eq_some_iff.mp hb
      rcases eqD_ok h.ok rx ry hc with ⟨h1, h2⟩ | ⟨rfl, a, c, xs, ys, h1, h2, h3, h4, h5⟩ | ⟨p, q, h1, h2, h3, h4, h5⟩
      · exact .inl ⟨h1, by rw [h2]; exact h.q rfl⟩
      · exact .inr (.inl ⟨a, c, xs, ys, h1, h2, h3, h4, h5, h.q rfl⟩)
      · refine .inr (.inr ?_); exact ⟨p, q, h1, h2, h3, h4, by rw [h5]; exact h.q rfl⟩
    · exact h.no
  | Lt => exact num (p := fun i j => decide (i < j)) (r := fun i j => decide (i < j)) (fun _ _ => rfl) (fun _ _ => rfl) h
  | LtE => exact num (p := fun i j => decide (i ≤ j)) (r := fun i j => !decide (j < i)) (fun _ _ => rfl) (fun _ _ => rfl) h
  | Gt => exact num (p := fun i j => decide (j < i)) (r := fun i j => decide (j < i)) (fun _ _ => rfl) (fun _ _ => rfl) h
  | GtE => exact num (p := fun i j => decide (j ≤ i)) (r := fun i j => !decide (i < j)) (fun _ _ => rfl) (fun _ _ => rfl) h
  | Is =>
    simp only at h
    split at h
    · rename_i b hb
      rcases isD_ok rx ry hb with ⟨h1, h2⟩ | ⟨p, q, h1, h2, h3⟩
      · exact .inl ⟨h1, by rw [h2]; exact h.q rfl⟩
      · exact .inr ⟨p, q, h1, h2, by rw [h3]; exact h.q rfl⟩
    · exact h.no
  | IsNot =>
    simp only at h
    split at h
    · rename_i b hb
      obtain ⟨c, hc, rfl⟩ := Option.map_eq_some_iff.mp hb
      rcases isD_ok rx ry hc with ⟨h1, h2⟩ | ⟨p, q, h1, h2, h3⟩
      · exact .inl ⟨h1, by rw [h2]; exact h.q rfl⟩
      · exact .inr ⟨p, q, h1, h2, by rw [h3]; exact h.q rfl⟩
    · exact h.no
  | In =>
    simp only at h
    split at h
    · rename_i b hb
      rcases inD_ok h.ok rx ry hb with ⟨c, z, h1, h2, h3⟩ | ⟨p, ps, h1, h2, h3, h4⟩
      · exact .inl ⟨c, z, h1, h2, by rw [h3]; exact h.q rfl⟩
      · rcases h2 with ⟨h2, h5⟩ | ⟨h2, h5⟩
        · exact .inr (.inl ⟨p, ps, h1, h2, h3, h5, by rw [h4]; exact h.q rfl⟩)
        · exact .inr (.inr ⟨p, ps, h1, h2, h3, h5, by rw [h4]; exact h.q rfl⟩)
    · exact h.no
  | NotIn =>
    simp only at h
    split at h
    · rename_i b hb
      obtain ⟨c, hc, rfl⟩ := Option.map_eq_some_iff.mp hb
      rcases inD_ok h.ok rx ry hc with ⟨c, z, h1, h2, h3⟩ | ⟨p, ps, h1, h2, h3, h4⟩
      · exact .inl ⟨c, z, h1, h2, by rw [h3]; exact h.q rfl⟩
      · rcases h2 with ⟨h2, h5⟩ | ⟨h2, h5⟩
        · exact .inr (.inl ⟨p, ps, h1, h2, h3, h5, by rw [h4]; exact h.q rfl⟩)
        · exact .inr (.inr ⟨p, ps, h1, h2, h3, h5, by rw [h4]; exact h.q rfl⟩)
    · exact h.no
theorem cmpD_bl {o : CmpOp} {d e : D} {S : Store} {k : D} {S' : Store} (h : cmpD o d e S = .ok k S') : ∃ b, k = .bl b ∧ S' = S := by
  unfold cmpD at h
  split at h
  · rename_i b _
    cases h
    exact ⟨_, rfl, rfl⟩
  · cases h
/-! ### put together, repeated -/
def rCatD (K : PySem.W.Frag) : R2 := fun x y H Q => rCatL K x y H Q ∨ rCatA K x y H Q ∨ rOp .Add x y H Q
theorem op_catD : OpR X (binaryOp .Add) (rCatD X.K) := op_catL.or (op_catA.or (op_ok .Add))
theorem cat_ok {m : Bool} {d e : D} {x y : V} (h : At G W w ρ σ (catD m d e w.S) Q) (rx : Rep G w d x) (ry : Rep G w e y) : rCatD G.K x y w.H Q := by
  unfold catD at h
  split at h
  · exact .inr (.inr (bin_ok h rx ry))
  · exact .inr (.inr (bin_ok h rx ry))
  · rename_i xs ys
    obtain ⟨a, us, e1, t1, r1⟩ := rx
    obtain ⟨b, vs, e2, t2, r2⟩ := ry
    have hz : xs.length + ys.length ≤ sizeLine := by
      unfold newT at h
      split at h
      · rename_i hz; rw [List.length_append] at hz; exact hz
      · exact h.no
    have l1 := r1.length
    have l2 := r2.length
    have q : ∀ v, Rep G w (.tup (xs ++ ys)) v → Q v w.H := fun v rv => by
      unfold newT at h
      rw [if_pos (by rw [List.length_append]; exact hz)] at h
      exact h.q rv
    refine .inr (.inl ⟨a, b, us, vs, e1, e2, t1.sqt, t2.sqt, by omega, fun z => ?_, fun _ z => ?_, fun _ _ => ?_⟩)
    · have : xs = [] := List.eq_nil_of_length_eq_zero (by rw [l1, z]; rfl)
      subst this
      exact q _ ⟨b, vs, rfl, t2, r2⟩
    · have : ys = [] := List.eq_nil_of_length_eq_zero (by rw [l2, z]; rfl)
      subst this
      exact q _ ⟨a, us, rfl, t1, by rw [List.append_nil]; exact r1⟩
    · exact (h.newT (r1.append r2) (by rw [List.length_append, List.length_append]; omega)).2
  · split at h
    · rename_i xs ys e1 e2
      obtain ⟨a, us, ea, t1, r1⟩ := lstOf_ok h.ok rx e1
      obtain ⟨b, vs, eb, t2, r2⟩ := lstOf_ok h.ok ry e2
      obtain ⟨hz, q⟩ := h.newL (r1.append r2)
      rw [List.length_append] at hz
      exact .inl ⟨a, b, us, vs, ea, eb, t1, t2, hz, q⟩
    · exact h.no
theorem RepL.rep {ds : List D} {vs : List V} (r : RepL G w ds vs) : ∀ k : Nat, RepL G w (List.replicate k ds).flatten (List.replicate k vs).flatten
  | 0 => rfl
  | k + 1 => by
    rw [List.replicate_succ, List.replicate_succ, List.flatten_cons, List.flatten_cons]
    exact r.append (RepL.rep r k)
def rRepD (K : PySem.W.Frag) : R2 := fun x y H Q => rRepL K x y H Q ∨ rRepT K x y H Q ∨ rRepS x y H Q ∨ rOp .Mult x y H Q
theorem op_repD : OpR X (binaryOp .Mult) (rRepD X.K) := op_repL.or (op_repT.or (op_repS.or (op_ok .Mult)))
theorem repS_T (z : Str) (k : Nat) : repS z k = T (List.replicate k z.cps.toList).flatten := by
  unfold repS T
  congr 1
  apply Array.toList_inj.mp
  rw [repS_cps]
  simp
theorem rep_ok {m : Bool} {d e : D} {x y : V} (h : At G W w ρ σ (repD m d e w.S) Q) (rx : Rep G w d x) (ry : Rep G w e y) : rRepD G.K x y w.H Q := by
  unfold repD at h
  split at h
  · rename_i k
    have hy : y = .int k := ry
    split at h
    · exact .inr (.inr (.inr (bin_ok h rx ry)))
    · rename_i z
      split at h
      · rename_i hc
        refine .inr (.inr (.inl ⟨z, k, rx.1, hy, hc.1, hc.2.1, hc.2.2.1, hc.2.2.2, ?_⟩))
        rw [repS_T]
        refine h.q ⟨rfl, ?_⟩
        rw [T_len, List.length_flatten, List.map_replicate, List.sum_replicate_nat, sizeLine_eq]
        have : z.cps.toList.length = z.length := by show _ = z.cps.size; simp
        rw [this, Nat.mul_comm]
        have := hc.2.2.2
        omega
      · exact h.no
    · rename_i xs
      split at h
      · rename_i hc
        obtain ⟨a, us, e1, t1, r1⟩ := rx
        have l1 := r1.length
        refine .inr (.inl ⟨a, k, us, e1, hy, t1.sqt, ?_, hc.1, hc.2.1, by omega, fun p hp => ?_⟩)
        · intro z; rw [z] at l1; exact hc.2.2.2 l1
        · exact h.put hp ⟨p, _, rfl, .inl ⟨h.ok.notMuPut hp, upd_same⟩, (r1.rep k.toNat).le (Le0.put hp)⟩
      · exact h.no
    · split at h
      · rename_i xs e1
        split at h
        · rename_i hc
          obtain ⟨a, us, ea, t1, r1⟩ := lstOf_ok h.ok rx e1
          have l1 := r1.length
          exact .inl ⟨a, k, us, ea, hy, t1, hc.1, hc.2.1, by rw [← l1]; exact hc.2.2, (h.newL (r1.rep k.toNat)).2⟩
        · exact h.no
      · exact h.no
  · exact h.no
/-! ### subscripts -/
theorem idx_ok {d e : D} {x y : V} (h : At G W w ρ σ (idxD d e w.S) Q) (rx : Rep G w d x) (ry : Rep G w e y) : rIx G.K x y w.H Q := by
  unfold idxD at h
  split at h
  · rename_i k
    rw [show y = .int k from ry]
    split at h
    · rename_i z
      split at h
      · rename_i c hc
        exact .inr (.inr ⟨z, k, c, rx.1, rfl, rx.2, hc, h.q ⟨rfl, by show (1 : Nat) ≤ sizeLine; rw [sizeLine_eq]; decide⟩⟩)
      · exact h.no
    · split at h
      · rename_i xs hi
        split at h
        · rename_i v hv
          obtain ⟨a, vs, e1, h1, h2⟩ := itemsOf_ok h.ok rx hi
          obtain ⟨u, hu, ru⟩ := h2.atI hv
          rcases h1 with h1 | h1
          · exact .inl ⟨a, vs, k, u, e1, rfl, h1, hu, h.q ru⟩
          · exact .inr (.inl ⟨a, vs, k, u, e1, rfl, h1, hu, h.q ru⟩)
        · exact h.no
      · exact h.no
  · exact h.no
def rSl (K : PySem.W.Frag) : V → Option Int → Option Int → Hp → VK → Prop := fun x lo hi H Q => rSlS x lo hi H Q ∨ rSlA K x lo hi H Q ∨ rSlL K x lo hi H Q
theorem sl_ok : SlR X (rSl X.K) := sl_str.or (sl_tupA.or sl_list)
theorem cutN_str (z : Str) (lo hi : Option Int) : T (cutN z.cps.toList lo hi) = cutS z lo hi := by
  unfold T cutN cutS
  have e : z.cps.toList.length = z.length := by show _ = z.cps.size; simp
  rw [e]
theorem cutD_whole (xs : List D) (lo hi : Option Int) (h : HT.sIx xs.length 0 lo = 0 ∧ HT.sIx xs.length xs.length hi = xs.length) : cutD xs lo hi = xs := by
  unfold cutD
  rw [h.1, h.2]
  simp
theorem cutD_length (xs : List D) (lo hi : Option Int) : (cutD xs lo hi).length ≤ xs.length := by
  unfold cutD
  rw [List.length_take, List.length_drop]
  omega
theorem slc_ok {m : Bool} {d : D} {x : V} {lo hi : Option Int} (h : At G W w ρ σ (slcD m d lo hi w.S) Q) (rx : Rep G w d x) : rSl G.K x lo hi w.H Q := by
  unfold slcD at h
  split at h
  · rename_i z
    have q : Q (.str (T (cutN z.cps.toList lo hi))) w.H := h.q ⟨rfl, by rw [cutN_str]; exact Nat.le_trans (cutS_length z lo hi) rx.2⟩
    rw [cutN_str] at q
    exact .inl ⟨z, rx.1, rx.2, q⟩
  · rename_i xs
    obtain ⟨a, vs, e1, t, r⟩ := id rx
    refine .inr (.inl ⟨a, vs, e1, t.sqt, fun c => ?_, fun c p hp => ?_⟩)
    · rw [← r.length] at c
      rw [cutD_whole xs lo hi c] at h
      rw [e1] at rx
      exact h.q rx
    · exact h.put hp ⟨p, _, rfl, .inl ⟨h.ok.notMuPut hp, upd_same⟩, (r.cut lo hi).le (Le0.put hp)⟩
  · split at h
    · rename_i xs hl
      obtain ⟨a, vs, e1, h1, h2⟩ := lstOf_ok h.ok rx hl
      exact .inr (.inr ⟨a, vs, e1, h1, (h.newL (h2.cut lo hi)).2⟩)
    · exact h.no
end
end PD
set_option maxHeartbeats 2000000
/-! PX1: exceptions that are held: isinstance, fields -/
namespace PD
open PySem PySem.Spec PyProof.Rows L2
/-- an own exception class, as it is asked of -/
structure ExcK (K : PySem.W.Frag) (C : Addr) : Prop where
  cl : (PySem.W.clsIn K C).isSome = true
  kga : PySem.W.findIn K (.ref C) "__getattribute__" = some (some (.builtin "BaseException.__getattribute__"))
  kgg : PySem.W.findIn K (.ref C) "__getattr__" = some none
  ksb : PySem.W.subIn K (.ref C) (.type "BaseException") = some true
  khd : PySem.W.hasDictIn K C = true
  kty : PySem.W.typeIn K (.ref C) = some (.type "type")
  kca : PySem.W.findIn K (.ref C) "__class__" = some (some (.builtin "object.__class__"))
  kgs : PySem.W.specialIn K (.builtin "object.__class__") "__get__" = some (some (.builtin "getset_descriptor.__get__"))
  ktk : PySem.W.takesIn K (.builtin "object.__class__") = some true
  kob : PySem.W.mroIn K C (.type "object") = some true
def excKB (K : PySem.W.Frag) (C : Addr) : Bool := (PySem.W.clsIn K C).isSome && (decide (PySem.W.findIn K (.ref C) "__getattribute__" = some (some (.builtin "BaseException.__getattribute__"))) && (decide (PySem.W.findIn K (.ref C) "__getattr__" = some none) &&
  (decide (PySem.W.subIn K (.ref C) (.type "BaseException") = some true) && (PySem.W.hasDictIn K C && (decide (PySem.W.typeIn K (.ref C) = some (.type "type")) && (decide (PySem.W.findIn K (.ref C) "__class__" = some (some (.builtin "object.__class__"))) &&
  (decide (PySem.W.specialIn K (.builtin "object.__class__") "__get__" = some (some (.builtin "getset_descriptor.__get__"))) && (decide (PySem.W.takesIn K (.builtin "object.__class__") = some true) && decide (PySem.W.mroIn K C (.type "object") = some true)))))))))
theorem bax {a b : Bool} (h : (a && b) = true) : a = true ∧ b = true := Bool.and_eq_true_iff.mp h
theorem excKB_ok {K : PySem.W.Frag} {C : Addr} (h : excKB K C = true) : ExcK K C := by
  obtain ⟨h1, h⟩ := bax h
  obtain ⟨h2, h⟩ := bax h
  obtain ⟨h3, h⟩ := bax h
  obtain ⟨h4, h⟩ := bax h
  obtain ⟨h5, h⟩ := bax h
  obtain ⟨h5', h⟩ := bax h
  obtain ⟨h6, h⟩ := bax h
  obtain ⟨h7, h⟩ := bax h
  obtain ⟨h8, h9⟩ := bax h
  exact ⟨h1, of_decide_eq_true h2, of_decide_eq_true h3, of_decide_eq_true h4, h5, of_decide_eq_true h5', of_decide_eq_true h6, of_decide_eq_true h7, of_decide_eq_true h8, of_decide_eq_true h9⟩
section
variable {X : Cx} {pins : List (Addr × Obj)} {σ : L2.St} {H : Hp} {s : Shared} {a C : Addr} {od : Option Addr}
/-- the object of what is held -/
theorem exv_at (I : Inv X pins σ H s) (h : H a = some (ExV (.ref C) od a)) : ∃ (oe : Obj) (vs : Array Value), s.heap.get? a = some oe ∧ oe.cls = .ref C ∧ oe.dict = od ∧ oe.data = .fields vs := by
  obtain ⟨⟨oe, vs, e, z, d⟩, _, _⟩ := I.hok a _ h
  exact ⟨oe, vs, e, z.1, z.2, d⟩
/-- .. with its dict -/
theorem exv_inst (I : Inv X pins σ H s) (h : H a = some (ExV (.ref C) od a)) (hx : ∀ d, od = some d → ∃ us, H d = some (.xd us)) : ∃ oe o, PySem.W.InstAt s.heap a oe C o := by
  obtain ⟨oe, vs, e, z1, z2, d⟩ := exv_at I h
  have no : PySem.W.notCls oe = true := by unfold PySem.W.notCls; rw [d] <;> rfl
  cases od with
  | none => exact ⟨oe, none, e, z1, no, by rw [z2]; trivial⟩
  | some dx =>
    obtain ⟨us, hu⟩ := hx dx rfl
    obtain ⟨mA, hns, _⟩ := (show ObjOk X.prog X.w H s.heap dx (.xd us) from I.hok dx _ hu)
    obtain ⟨ob, ho, _⟩ := lookIn_ns hns
    exact ⟨oe, some ob, e, z1, no, by rw [z2]; exact ho⟩
/-- the second argument: a class, a tuple of them -/
def AskC (K : PySem.W.Frag) (H : Hp) (t : Value) (c : V) (b : Bool) : Prop := (∃ cv, ClsV c cv ∧ PySem.W.kitOne K t cv = some b) ∨ (∃ tp cs us, c = .ref tp ∧ H tp = some (.tup cs) ∧ Paired ClsV cs us ∧ PySem.W.kitAny K t us = some b) ∨
  ∃ (tp : Addr) (dd : Option Addr) (us : List Value) (n : Nat) (sl : Array (Option Value)), c = .ref tp ∧ K.lookup tp = some ⟨.type "tuple", dd, .seq us.toArray n, sl⟩ ∧ PySem.W.kitAny K t us = some b
theorem ask_is {Q : VK} {t : Value} {c : V} {u2 : Value} {b : Bool} {P : Heap → Prop} (I : Inv X pins σ H s) (Z : PySem.W.KitX X.K (.ref a) t P) (J : P s.heap) (hc : AskC X.K H t c b) (r2 : RelV c u2) (q : Q (.bl b) H) :
    wpAny (model X.prog X.w) X.A (call (.builtin "isinstance") [.ref a, u2]) (EP X pins σ Q) X.xe s := by
  rcases hc with ⟨cv, k, e⟩ | ⟨tp, cs, ws, e0, hT, k, e⟩ | ⟨tp, dd, ws, n, sl, e0, hk, e⟩
  · cases k.eq r2
    exact PySem.W.kia_one Z I.kIn J e (fun z => nomatch z) fun tk => ⟨.bl b, H, I.tok tk, rfl, q⟩
  · subst e0
    cases (show u2 = Value.ref tp from r2)
    obtain ⟨_, its, rv, ot, g1, g2, n, g3⟩ := (show ObjOk X.prog X.w H s.heap tp (.tup cs) from I.hok tp _ hT)
    cases ClsV.all k rv
    obtain ⟨oc, odt, dt, sl⟩ := ot
    simp only at g2 g3
    subst g2 g3
    exact PySem.W.kia_tup Z I.kIn J g1 e (fun z => nomatch z) fun tk => ⟨.bl b, H, I.tok tk, rfl, q⟩
  · subst e0
    cases (show u2 = Value.ref tp from r2)
    exact PySem.W.kia_tup Z I.kIn J (I.kIn _ _ hk) e (fun z => nomatch z) fun tk => ⟨.bl b, H, I.tok tk, rfl, q⟩
/-- isinstance of an exception, of such a dict -/
def rIsiX (K : PySem.W.Frag) : List V → Hp → VK → Prop := fun xs H Q => (∃ (a C : Addr) (od : Option Addr) (c : V) (b : Bool), xs = [.ref a, c] ∧ H a = some (ExV (.ref C) od a) ∧ (∀ d, od = some d → ∃ us, H d = some (.xd us)) ∧ ExcK K C ∧ AskC K H (.ref C) c b ∧ Q (.bl b) H) ∨
  ∃ (a : Addr) (c : V) (b : Bool), xs = [.ref a, c] ∧ H a = some (DicX a) ∧ AskC K H (.type "dict") c b ∧ Q (.bl b) H
theorem call_isX : CallR X (.builtin "isinstance") (rIsiX X.K) := by
  intro pins s σ H xs us Q I r h
  rcases h with ⟨a, C, od, c, b, exs, ha, hx, T, hc, q⟩ | ⟨a, c, b, exs, ha, hc, q⟩
  · subst exs
    obtain ⟨u1, u2, rfl, r1, r2⟩ := vals2 r
    cases (show u1 = Value.ref a from r1)
    obtain ⟨oe, o, J⟩ := exv_inst I ha hx
    exact ask_is I (PySem.W.kitx_exc (x := a) (ox := oe) (od := o) T.cl T.kga T.kgg T.ksb T.kca T.kgs T.ktk T.kob) J hc r2 q
  · subst exs
    obtain ⟨u1, u2, rfl, r1, r2⟩ := vals2 r
    cases (show u1 = Value.ref a from r1)
    obtain ⟨⟨o, e, hcl⟩, _, _⟩ := I.hok a _ ha
    exact ask_is I PySem.W.kitx_dict ⟨o, e, hcl⟩ hc r2 q
/-- e.f, e held -/
def rAtt (K : PySem.W.Frag) (f : Str) : V → Hp → VK → Prop := fun x H Q => ∃ (a C d : Addr) (us : List (Str × V)) (v : V), x = .ref a ∧ H a = some (ExV (.ref C) (some d) a) ∧ H d = some (.xd us) ∧ us.lookup f = some v ∧ ExcK K C ∧ PySem.W.findIn K (.ref C) f = some none ∧ Q v H
theorem pe_att {e : Expr} {te : TE} {pos : Pos} {f : Str} (he : PE X e te) (hb : attributeBase e f X.env (eval e X.env) = eval e X.env) : PE X (.Attribute e f pos) (fun σ H Q => te σ H fun x H1 => rAtt X.K f x H1 Q) := by
  refine ⟨fun pins s σ H Q I h => attr_of hb (thn (he.run pins s σ H _ I h) ?_)⟩
  rintro u s1 ⟨x, H1, I1, rx, a, C, d, us, v, rfl, ha, hd, l, T, hf, q⟩
  cases (show u = Value.ref a from rx)
  obtain ⟨oe, vs, g, z1, z2, dt⟩ := exv_at I1 ha
  obtain ⟨mA, hns, hr⟩ := (show ObjOk X.prog X.w H1 s1.heap d (.xd us) from I1.hok d _ hd)
  obtain ⟨ob, ho, hl⟩ := lookIn_ns hns
  obtain ⟨u2, hu, ru⟩ := RelO.some_of (v := v) (o := mA f) (by rw [← l]; exact hr f)
  refine HandSPX.exc_get I1.kIn (od := some ob) ⟨g, z1, by unfold PySem.W.notCls; rw [dt] <;> rfl, by rw [z2]; exact ho⟩ T.kga T.kgg T.ksb (PySem.W.findObj_own T.khd hf rfl (by rw [hl, hu])) (handed_of ru) ?_
  exact ⟨v, H1, I1.tok _, ru, q⟩
/-- {k: v, ..}: keys ints and texts; one pair, its key a tuple -/
def tDispX (K : PySem.W.Frag) (trs : List (TE × TE)) : TE := fun σ H Q => ∀ p, H p = none → tPairs trs σ (upd H p (.dK [])) fun ps H2 => H2 p = some (.dK []) ∧ ((∃ kvs : List (Key × V), ps = kvs.map (fun kv => (kV kv.1, kv.2)) ∧ kvs.length ≤ 15 ∧ Q (.ref p) (upd H2 p (.dK (mergeK [] kvs)))) ∨
  ∃ (b : Addr) (ks : List Key) (v : V), ps = [(.ref b, v)] ∧ (H2 b = some (.tup (ks.map kV)) ∨ KT K b (ks.map kV)) ∧ Q (.ref p) (upd H2 p (DicX p)))
theorem pe_dispX {pos : Pos} {keys : List (Option Expr)} {values : List Expr} {trs : List (TE × TE)} (hu : X.A.units + 65 < cLine) (h : PPs X pos keys values trs) (hall : keys.all (·.isSome) = true) (hl : keys.length = values.length) (h0 : keys ≠ []) (h15 : keys.length ≤ 15) :
    PE X (.Dict keys values pos) (tDispX X.K trs) := by
  refine ⟨fun pins s σ H Q I q => ?_⟩
  have I1 := I.laid (a := s.heap.objs.size) (o := .dK []) (h' := s.heap.push { cls := .type "dict", data := .dict #[] }) (t' := s.toks) (fun _ _ z => Heap.get?_push_of_some _ z) (Nat.le_refl _) (dk_empty s.heap I.big)
  refine PySem.wpAny_Dict_any hall hl h0 h15 (thn (h.run pins _ σ _ _ I1 (q _ (I.hok.fresh (Nat.le_refl _)))) fun ws s2 ⟨ps, H2, I2, rel, e, alt⟩ => ?_)
  obtain ⟨_, hd, vs0, r0, dd⟩ := dk_of I2.hok e
  cases r0
  rcases alt with ⟨kvs, ep, lk, q2⟩ | ⟨b, ks, v, ep, hb, q2⟩
  · subst ep
    obtain ⟨rs, c, rk⟩ := carries_of (P := X.prog) (w := X.w) rel
    have hrs : rs.length ≤ 15 := by rw [← Paired.length rk]; exact lk
    refine wpAny_storeAll (knd := mixKind X.prog X.w) ws rs [] s2 _ c dd (by rw [sizeLine_eq, List.length_nil]; omega) fun h' dd' hs => ⟨.ref s.heap.objs.size, _, ?_, rfl, q2⟩
    have hz : (mergeK [] kvs).length ≤ sizeLine := by
      have := length_mergeK kvs []
      rw [List.length_nil] at this
      rw [sizeLine_eq]; omega
    exact d_write I2 (by rw [e]; exact True.intro) hs (let ⟨o, _, _, ho, _⟩ := dd'; ⟨o, ho⟩) (dk_new hz hd (rk.merge .nil) dd')
  · subst ep
    cases rel with
    | @cons a0 b0 as bs h0 t =>
      cases t
      obtain ⟨u, w2⟩ := b0
      obtain ⟨hr1, hr2⟩ := h0
      cases (show u = Value.ref b from hr1)
      have key : (tupleKind (mixKind X.prog X.w)).is s2.heap ks b := by
        rcases hb with hb | ⟨o, its, n, k1, k2, k3, _, k5⟩
        · exact key_of I2.hok hb
        · exact ⟨o, its, n, I2.kIn _ _ k1, k2, k3, items_are k5⟩
      have ddH : s2.heap.DictOfH (tupleKind (mixKind X.prog X.w)) s.heap.objs.size [] := by
        obtain ⟨o, es, ep, d1, d2, d3, d4, d5, d6⟩ := dd
        refine ⟨o, es, ep, d1, d2, d3, ?_, fun _ z => (nomatch z), List.nodup_nil⟩
        cases hq : es.toList with
        | nil => rfl
        | cons x r => rw [hq] at d5; cases d5
      refine wpAny_storeAllH (knd := tupleKind (mixKind X.prog X.w)) (show X.A.units < cLine by omega) [(.ref b, w2)] [(ks, b, w2)] [] s2 _ ⟨rfl, rfl, key, trivial⟩ ddH (by rw [sizeLine_eq]; show 0 + 1 ≤ _; omega) fun h' tk dd' hs => ?_
      obtain ⟨o, _, _, ho, hx, _⟩ := dd'
      exact ⟨.ref s.heap.objs.size, _, d_write (t' := tk) (ob := DicX s.heap.objs.size) I2 (by rw [e]; exact True.intro) hs ⟨o, ho⟩ ⟨⟨o, ho, hx.1⟩, ⟨o, ho⟩, fun _ _ ⟨o, e, c⟩ k => ⟨o, k o e, c⟩⟩, rfl, q2⟩
end
end PD
set_option maxHeartbeats 1000000
/-! PD5: built-in functions on data -/
namespace PD
open PySem PySem.Spec L2
/-- what the end must show of the classes -/
structure PcOk (G : PC) : Prop where
  kitC : ∀ c, G.okC c → ∀ t ∈ tyNames, PySem.W.kitOne G.K (.type t) (.ref (G.clsA c)) = some false
  kitX : ∀ x, G.okX x → ∀ c, G.okC c → PySem.W.kitOne G.K (.ref (G.clsA x)) (.ref (G.clsA c)) = some (subC x c)
  excX : ∀ x, G.okX x → ∀ c, G.okX c → PySem.W.exmOne G.K (.ref (G.clsA x)) (.ref (G.clsA c)) = some (subC x c)
  kitT : ∀ x, G.okX x → ∀ p ∈ xTy, PySem.W.kitOne G.K (.ref (G.clsA x)) (.type p.1) = some p.2
  exc : ∀ x, G.okX x → ExcK G.K (G.clsA x)
  sm : SmK G.K
theorem kit_types : (tyNames.all fun t => tyNames.all fun n => decide (kitB t n = some (isTy t n))) = true := by decide +kernel
theorem kit_type {K : PySem.W.Frag} {t n : String} (ht : t ∈ tyNames) (hn : n ∈ tyNames) : PySem.W.kitOne K (.type t) (.type n) = some (isTy t n) := by
  have h := kit_types
  rw [List.all_eq_true] at h
  have h1 := h t ht
  rw [List.all_eq_true] at h1
  exact kit_ty (of_decide_eq_true (h1 n hn))
section
variable {G : PC} {W : WX} {w : Wd} {ρ : Env'} {σ : L2.St} {Q : VK} {X : Cx}
theorem tyD_ok {d : D} {v : V} {t : String} (ok : Ok G w) (r : Rep G w d v) (h : tyD w.S d = some t) : TyX G.K w.H v (.type t) ∧ t ∈ tyNames := by
  have inT : ∀ {x : String}, decide (x ∈ tyNames) = true → x ∈ tyNames := fun h => of_decide_eq_true h
  cases d with
  | non => cases h; rw [show v = .non from r]; exact ⟨.base .non, inT (by decide +kernel)⟩
  | bl b => cases h; rw [show v = .bl b from r]; exact ⟨.base (.bl b), inT (by decide +kernel)⟩
  | int b => cases h; rw [show v = .int b from r]; exact ⟨.base (.int b), inT (by decide +kernel)⟩
  | str b => cases h; rw [show v = .str b from r.1]; exact ⟨.base (.str b), inT (by decide +kernel)⟩
  | tup xs =>
    cases h
    obtain ⟨a, vs, e1, t, r⟩ := r
    subst e1
    refine ⟨?_, inT (by decide +kernel)⟩
    rcases t with ⟨_, t⟩ | ⟨o, its, n, h1, h2, _⟩
    · exact .base (.tup t)
    · exact .kTuple h1 h2
  | lst xs =>
    cases h
    obtain ⟨a, vs, e1, t, r⟩ := r
    subst e1
    refine ⟨?_, inT (by decide +kernel)⟩
    rcases t with ⟨_, t | ⟨o, t⟩⟩ | ⟨o, its, n, h1, h2, _⟩
    · exact .base (.lst t)
    · exact .base (.frz t)
    · exact .kList h1 h2
  | dic xs =>
    cases h
    obtain ⟨a, vs, e1, t, r⟩ := r
    subst e1
    exact ⟨.base (.dK t.2), inT (by decide +kernel)⟩
  | ref n =>
    obtain ⟨a, e1, e2⟩ := r
    subst e1
    obtain ⟨mo, e3, m⟩ := ok.at_some e2
    unfold tyD at h
    simp only [e3] at h
    cases mo with
    | lst ys =>
      cases h
      obtain ⟨vs, h1, h2⟩ := m
      exact ⟨.base (.lst h1), inT (by decide +kernel)⟩
    | _ => cases h
  | _ => cases h
theorem isi1_ok (g : PcOk G) {t : String} {c : D} {v : V} {b : Bool} (r : Rep G w c v) (h : isi1 (.ty t) c = some b) : ∃ u, ClsV v u ∧ PySem.W.kitOne G.K (.type t) u = some b := by
  unfold isi1 at h
  split at h
  · rename_i t' n e
    cases e
    split at h
    · rename_i c
      cases h
      rw [show v = .ty n from r]
      exact ⟨_, .ty n, kit_type c.1 c.2⟩
    · cases h
  · rename_i t' n e
    cases e
    split at h
    · rename_i c
      cases h
      rw [show v = .ref _ from r.1]
      exact ⟨_, .own _, g.kitC n r.2 _ c⟩
    · cases h
  · cases h
theorem isx1_ok (g : PcOk G) {x : Nat} (hx : G.okX x) {c : D} {v : V} {b : Bool} (r : Rep G w c v) (h : isx1 x c = some b) : ∃ u, ClsV v u ∧ PySem.W.kitOne G.K (.ref (G.clsA x)) u = some b := by
  unfold isx1 at h
  split at h
  · rename_i k
    cases h
    obtain ⟨rfl, hk⟩ := r
    exact ⟨_, .own _, g.kitX x hx k hk⟩
  · rename_i n
    obtain ⟨p, hp, rfl⟩ := Option.map_eq_some_iff.mp h
    have h1 := List.find?_some hp
    have h2 := List.mem_of_find?_eq_some hp
    have e : p.1 = n := by simpa using h1
    rw [show v = .ty n from r, ← e]
    exact ⟨_, .ty _, g.kitT x hx p h2⟩
  · cases h
theorem isxL_ok (g : PcOk G) {x : Nat} (hx : G.okX x) {b : Bool} : ∀ {cs : List D} {vs : List V}, RepL G w cs vs → isxL x cs = some b → ∃ us, Paired ClsV vs us ∧ PySem.W.kitAny G.K (.ref (G.clsA x)) us = some b := by
  intro cs
  induction cs generalizing b with
  | nil =>
    intro vs r h
    cases h
    rw [show vs = [] from r]
    exact ⟨[], .nil, rfl⟩
  | cons c cs ih =>
    intro vs r h
    obtain ⟨v, t, rfl, r1, r2⟩ := r
    unfold isxL at h
    split at h
    · rename_i k1 k2 q1 q2
      cases h
      obtain ⟨u, hu, hk⟩ := isx1_ok g hx r1 q1
      obtain ⟨us, hus, hks⟩ := ih r2 q2
      refine ⟨u :: us, .cons hu hus, kitAny_cons hk (fun z => ?_) fun z => ?_⟩
      · rw [z]; exact hks
      · rw [z]; rfl
    · cases h
theorem isiL_ok (g : PcOk G) {t : String} {b : Bool} : ∀ {cs : List D} {vs : List V}, RepL G w cs vs → isiL (.ty t) cs = some b → ∃ us, Paired ClsV vs us ∧ PySem.W.kitAny G.K (.type t) us = some b
  | [], _, e, h => by
    cases h
    rw [show _ = [] from e]
    exact ⟨[], .nil, kitAny_nil⟩
  | c :: cs, _, ⟨v, r, e, h1, h2⟩, h => by
    subst e
    unfold isiL at h
    cases q : isi1 (.ty t) c with
    | none => rw [q] at h; cases h
    | some k =>
      cases q2 : isiL (.ty t) cs with
      | none => rw [q, q2] at h; cases h
      | some k2 =>
        rw [q, q2] at h
        cases h
        obtain ⟨u, hu, hk⟩ := isi1_ok g h1 q
        obtain ⟨us, hp, ha⟩ := isiL_ok g h2 q2
        refine ⟨u :: us, .cons hu hp, kitAny_cons hk (fun z => ?_) (fun z => ?_)⟩
        · subst z; exact ha
        · subst z; rfl
theorem RepL.one {w : Wd} {d : D} {vs : List V} (h : RepL G w [d] vs) : ∃ v, vs = [v] ∧ Rep G w d v := by
  obtain ⟨v, r, e, h1, h2⟩ := h
  exact ⟨v, by rw [e, show r = [] from h2], h1⟩
theorem RepL.two {w : Wd} {d e : D} {vs : List V} (h : RepL G w [d, e] vs) : ∃ v u, vs = [v, u] ∧ Rep G w d v ∧ Rep G w e u := by
  obtain ⟨v, r, e, h1, h2⟩ := h
  obtain ⟨u, e2, h3⟩ := h2.one
  exact ⟨v, u, by rw [e, e2], h1, h3⟩
theorem bools_ok {w : Wd} : ∀ {ds : List D} {vs : List V} {bs : List Bool}, RepL G w ds vs → boolsOf ds = some bs → vs = bs.map V.bl
  | [], _, _, e, h => by cases h; exact e
  | d :: ds, _, _, ⟨v, r, e, h1, h2⟩, h => by
    subst e
    cases d with
    | bl b =>
      obtain ⟨c, hc, rfl⟩ := Option.map_eq_some_iff.mp (show (boolsOf ds).map (b :: ·) = some _ from h)
      rw [show v = .bl b from h1, bools_ok h2 hc]; rfl
    | _ => cases h
theorem ints_ok {w : Wd} : ∀ {ds : List D} {vs : List V} {bs : List Int}, RepL G w ds vs → intsOf ds = some bs → vs = bs.map V.int
  | [], _, _, e, h => by cases h; exact e
  | d :: ds, _, _, ⟨v, r, e, h1, h2⟩, h => by
    subst e
    cases d with
    | int b =>
      obtain ⟨c, hc, rfl⟩ := Option.map_eq_some_iff.mp (show (intsOf ds).map (b :: ·) = some _ from h)
      rw [show v = .int b from h1, ints_ok h2 hc]; rfl
    | _ => cases h
theorem strs_ok {w : Wd} : ∀ {ds : List D} {vs : List V} {bs : List Str}, RepL G w ds vs → strsOf ds = some bs → vs = bs.map V.str
  | [], _, _, e, h => by cases h; exact e
  | d :: ds, _, _, ⟨v, r, e, h1, h2⟩, h => by
    subst e
    cases d with
    | str b =>
      obtain ⟨c, hc, rfl⟩ := Option.map_eq_some_iff.mp (show (strsOf ds).map (b :: ·) = some _ from h)
      rw [show v = .str b from h1.1, strs_ok h2 hc]; rfl
    | _ => cases h
theorem repL_strs {w : Wd} : ∀ {zs : List Str}, (∀ z ∈ zs, z.length ≤ sizeLine) → RepL G w (zs.map .str) (zs.map V.str)
  | [], _ => rfl
  | z :: r, h => ⟨_, _, rfl, ⟨rfl, h z List.mem_cons_self⟩, repL_strs fun y hy => h y (List.mem_cons_of_mem _ hy)⟩
theorem repL_ints {w : Wd} : ∀ ns : List Int, RepL G w (ns.map .int) (ns.map V.int)
  | [] => rfl
  | n :: ns => ⟨.int n, _, rfl, rfl, repL_ints ns⟩
/-! ### sorted -/
theorem insI_perm (x : Int) : ∀ l : List Int, (insI x l).Perm (x :: l)
  | [] => .refl _
  | y :: r => by
    unfold insI
    split
    · exact .refl _
    · exact ((insI_perm x r).cons y).trans (.swap x y r)
theorem sortI_perm : ∀ l : List Int, (sortI l).Perm l
  | [] => .refl _
  | x :: r => (insI_perm x (sortI r)).trans ((sortI_perm r).cons x)
theorem insI_sorted (x : Int) : ∀ {l : List Int}, l.Pairwise (· ≤ ·) → (insI x l).Pairwise (· ≤ ·)
  | [], _ => by simp [insI]
  | y :: r, h => by
    unfold insI
    split
    · rename_i c
      refine List.pairwise_cons.mpr ⟨fun z hz => ?_, h⟩
      rcases List.mem_cons.mp hz with e | hz
      · omega
      · have := (List.pairwise_cons.mp h).1 z hz; omega
    · rename_i c
      refine List.pairwise_cons.mpr ⟨fun z hz => ?_, insI_sorted x (List.pairwise_cons.mp h).2⟩
      rcases List.mem_cons.mp ((insI_perm x r).mem_iff.mp hz) with e | hz
      · omega
      · exact (List.pairwise_cons.mp h).1 z hz
theorem sortI_sorted : ∀ l : List Int, (sortI l).Pairwise (· ≤ ·)
  | [] => .nil
  | x :: r => insI_sorted x (sortI_sorted r)
theorem sorted_one : ∀ {l l' : List Int}, l.Perm l' → l.Pairwise (· ≤ ·) → l'.Pairwise (· ≤ ·) → l = l'
  | [], l', p, _, _ => by rw [List.nil_perm.mp p]
  | x :: r, [], p, _, _ => by have := p.length_eq; simp at this
  | x :: r, y :: r', p, h, h' => by
    have e : x = y := by
      have h1 := p.mem_iff.mp (List.mem_cons_self (a := x) (l := r))
      have h2 := p.mem_iff.mpr (List.mem_cons_self (a := y) (l := r'))
      rcases List.mem_cons.mp h1 with e | h1
      · exact e
      · rcases List.mem_cons.mp h2 with e | h2
        · exact e.symm
        · have a := (List.pairwise_cons.mp h).1 y h2
          have b := (List.pairwise_cons.mp h').1 x h1
          omega
    subst e
    rw [sorted_one (List.Perm.cons_inv p) (List.pairwise_cons.mp h).2 (List.pairwise_cons.mp h').2]
/-! ### repr of what is one -/
def reprV : V → Option Str
  | .non => some (txt "None")
  | .bl b => some (txt (if b then "True" else "False"))
  | .int i => if i.natAbs.log2 < 1920 then some (txt (toString i)) else none
  | .str x => if (reprText x).length ≤ sizeLine then some (reprText x) else none
  | _ => none
theorem call_reprV : CallR X (.builtin "repr") (fun xs H Q => ∃ x r, xs = [x] ∧ reprV x = some r ∧ Q (.str r) H) := by
  intro pins s σ H xs us Q I r h
  obtain ⟨x, y, rfl, e, q⟩ := h
  obtain ⟨u, rfl, rx⟩ := vals1 r
  cases x with
  | non =>
    cases e
    rw [show u = Value.none from rx]
    exact PySem.P.repr_of_none ⟨.str _, H, I.tok _, ⟨_, rfl⟩, q⟩
  | bl b =>
    cases e
    rw [show u = Value.bool b from rx]
    refine PySem.P.repr_of_bool ⟨.str (txt (if b then "True" else "False")), H, I.tok _, ⟨s.toks, ?_⟩, q⟩
    cases b <;> rfl
  | int i =>
    obtain ⟨t, rfl⟩ := rx
    have e' : (if i.natAbs.log2 < 1920 then some (txt (toString i)) else none) = some y := e
    split at e'
    · rename_i c
      cases e'
      exact PySem.P.repr_of_int c ⟨.str _, H, I.tok _, ⟨_, rfl⟩, q⟩
    · cases e'
  | str z =>
    obtain ⟨t, rfl⟩ := rx
    have e' : (if (reprText z).length ≤ sizeLine then some (reprText z) else none) = some y := e
    split at e'
    · rename_i c
      cases e'
      exact PySem.P.repr_of_str ⟨.str _, H, I.tok _, ⟨_, rfl⟩, q⟩ c
    · cases e'
  | _ => cases e
theorem reprD_ok {d : D} {v : V} {r : Str} (h : Rep G w d v) (e : reprD d = some r) : reprV v = some r := by
  cases d with
  | non => rw [show v = .non from h]; exact e
  | bl b => rw [show v = .bl b from h]; exact e
  | int b => rw [show v = .int b from h]; exact e
  | str b => rw [show v = .str b from h.1]; exact e
  | _ => cases e
/-! ### the built-ins' readings -/
def Bn.val : Bn → Value
  | .len => .builtin "len"
  | .abs => .builtin "abs"
  | .int => .type "int"
  | .str => .type "str"
  | .bool => .type "bool"
  | .repr => .builtin "repr"
  | .ord => .builtin "ord"
  | .all => .builtin "all"
  | .any => .builtin "any"
  | .sum => .builtin "sum"
  | .max => .builtin "max"
  | .min => .builtin "min"
  | .sorted => .builtin "sorted"
  | .list => .type "list"
  | .tuple => .type "tuple"
  | .isi => .builtin "isinstance"
def rBn (K : PySem.W.Frag) (b : Bn) : List V → Hp → VK → Prop := match b with
  | .len => fun xs H Q => (∃ x n, xs = [x] ∧ LenV K x H n ∧ Q (.int n) H) ∨ ∃ a kvs, xs = [V.ref a] ∧ H a = some (.dK kvs) ∧ Q (.int kvs.length) H
  | .abs => fun xs H Q => ∃ i, xs = [.int i] ∧ Q (.int (if i < 0 then -i else i)) H
  | .int => fun xs H Q => (∃ i, xs = [.int i] ∧ Q (.int i) H) ∨ ∃ k, xs = [.bl k] ∧ Q (.int (if k then 1 else 0)) H
  | .str => fun xs H Q => ∃ i, xs = [.int i] ∧ i.natAbs.log2 < 1920 ∧ Q (.str (toString i)) H
  | .bool => fun xs H Q => (∃ i, xs = [.int i] ∧ Q (.bl (i != 0)) H) ∨ ∃ k, xs = [.bl k] ∧ Q (.bl k) H
  | .repr => fun xs H Q => (∃ x r, xs = [x] ∧ reprV x = some r ∧ Q (.str r) H) ∨ rRepP K xs H Q
  | .ord => fun xs H Q => ∃ x, xs = [.str x] ∧ x.length = 1 ∧ Q (.int (x.cps.getD 0 0 : Nat)) H
  | .all => rAll K
  | .any => rAny K
  | .sorted => rSorted K
  | .list => fun xs H Q => ∃ p ys, xs = [.ref p] ∧ (SqL K H p ys ∨ SqT K H p ys) ∧ ∀ l, H l = none → Q (.ref l) (upd H l (.lst ys))
  | .tuple => fun xs H Q => ∃ p ys, xs = [.ref p] ∧ ((SqL K H p ys ∧ ∀ l, H l = none → Q (.ref l) (upd H l (.tup ys))) ∨ (SqT K H p ys ∧ Q (.ref p) H))
  | .isi => fun xs H Q => rIsiX K xs H Q ∨ rIsi K xs H Q ∨ rIsiT K xs H Q ∨ rIsiK K xs H Q
  | .max => fun xs H Q => ∃ i j, xs = [.int i, .int j] ∧ Q (.int (if j > i then j else i)) H
  | .min => fun xs H Q => ∃ i j, xs = [.int i, .int j] ∧ Q (.int (if j < i then j else i)) H
  | _ => fun _ _ _ => False
theorem callR_no (f : Value) : CallR X f (fun _ _ _ => False) := fun _ _ _ _ _ _ _ _ _ h => h.elim
theorem blt_call (b : Bn) (hc : b.quiet = false → X.calm = true) (hg : X.A.guards = some []) (hu : X.A.units + 65 < cLine) (sm : SmK X.K) : CallR X b.val (rBn X.K b) := by
  cases b with
  | len => exact call_len.or call_lenD
  | abs => exact call_abs
  | int => exact call_int1
  | str => exact call_str_int
  | bool => exact call_bool1
  | repr => exact call_reprV.or (call_reprP hg hu sm)
  | ord => exact call_ord
  | all => exact cr_all (hc rfl)
  | any => exact cr_any (hc rfl)
  | sorted => exact cr_sorted
  | list => exact call_list_of
  | tuple => exact call_tuple_of
  | isi => exact call_isX.or (call_isi.or (call_isiT.or call_isiK))
  | max => exact call_max2 (hc rfl)
  | min => exact call_min2 (hc rfl)
  | _ => exact callR_no _
theorem At.str {z : Str} (h : At G W w ρ σ (.ok (.str z) w.S) Q) (hz : z.length ≤ sizeLine) : Q (.str z) w.H := h.q ⟨rfl, hz⟩
theorem At.gvI {o : Option Int} (h : At G W w ρ σ (gvI w.S o) Q) : ∃ i, o = some i ∧ Q (.int i) w.H := by
  cases o with
  | none => exact h.no
  | some i => exact ⟨i, rfl, h.q rfl⟩
theorem At.gvB {o : Option Bool} (h : At G W w ρ σ (gvB w.S o) Q) : ∃ i, o = some i ∧ Q (.bl i) w.H := by
  cases o with
  | none => exact h.no
  | some i => exact ⟨i, rfl, h.q rfl⟩
theorem At.gvS {o : Option Str} (h : At G W w ρ σ (gvS w.S o) Q) (hl : ∀ i, o = some i → i.length ≤ sizeLine) : ∃ i, o = some i ∧ Q (.str i) w.H := by
  cases o with
  | none => exact h.no
  | some i => exact ⟨i, rfl, h.q ⟨rfl, hl i rfl⟩⟩
theorem size_ok {d : D} {v : V} {n : Nat} (ok : Ok G w) (r : Rep G w d v) (e : sizeD w.S d = some n) : LenV G.K v w.H n ∨ ∃ a kvs, v = V.ref a ∧ w.H a = some (.dK kvs) ∧ n = kvs.length := by
  have its : (itemsOf w.S d).map List.length = some n → LenV G.K v w.H n := fun e => by
    obtain ⟨ys, hi, rfl⟩ := Option.map_eq_some_iff.mp e
    obtain ⟨a, us, e1, h1, h2⟩ := itemsOf_ok ok r hi
    subst e1
    rw [h2.length]
    rcases h1 with h1 | h1
    · exact .inl ⟨us, h1, rfl⟩
    · exact .inr ⟨us, h1, rfl⟩
  cases d with
  | str z => cases e; exact .inl (by rw [show v = .str z from r.1]; exact ⟨r.2, rfl⟩)
  | dic kvs =>
    cases e
    obtain ⟨a, us, e1, t, h2⟩ := r
    exact .inr ⟨a, us, e1, t.2, h2.length⟩
  | _ => exact .inl (its e)
theorem strD_ok {d : D} {v : V} {z : Str} (r : Rep G w d v) (e : strD d = some z) : ∃ i, v = .int i ∧ i.natAbs.log2 < 1920 ∧ z = toString i := by
  cases d with
  | int i =>
    have e' : (if i.natAbs.log2 < 1920 then some (txt (toString i)) else none) = some z := e
    split at e'
    · cases e'; exact ⟨i, r, by assumption, rfl⟩
    · cases e'
  | _ => cases e
theorem reprD_len {d : D} {z : Str} (e : reprD d = some z) : z.length ≤ sizeLine := by
  cases d with
  | non => cases e; decide +kernel
  | bl b => cases e; cases b <;> decide +kernel
  | int i =>
    have e' : (if i.natAbs.log2 < 1920 then some (txt (toString i)) else none) = some z := e
    split at e'
    · cases e'; exact PySem.int_text_fits (by assumption)
    · cases e'
  | str x =>
    have e' : (if (reprText x).length ≤ sizeLine then some (reprText x) else none) = some z := e
    split at e'
    · cases e'; assumption
    · cases e'
  | _ => cases e
theorem reprX_len {S : Store} {d : D} {z : Str} (e : reprX S d = some z) : z.length ≤ sizeLine := by
  have pd : ∀ {o : Option PyData}, o.bind reprPd = some z → z.length ≤ sizeLine := fun {o} e => by
    obtain ⟨p, _, h⟩ := Option.bind_eq_some_iff.mp e
    obtain ⟨rfl, _, _, h⟩ := reprPd_some h
    exact h
  cases d with
  | tup xs => exact pd e
  | lst xs => exact pd e
  | ref n => exact pd e
  | dic n => exact pd e
  | non => exact reprD_len (d := .non) e
  | bl b => exact reprD_len (d := .bl b) e
  | int b => exact reprD_len (d := .int b) e
  | str b => exact reprD_len (d := .str b) e
  | _ => cases e
theorem reprX_ok {d : D} {v : V} {z : Str} (ok : Ok G w) (r : Rep G w d v) (e : reprX w.S d = some z) : reprV v = some z ∨ ∃ a p, v = .ref a ∧ Dq G.K w.H v p ∧ reprPd p = some z := by
  have pd : (∃ a, v = .ref a) → (toQR w.S d).bind reprPd = some z → reprV v = some z ∨ ∃ a p, v = .ref a ∧ Dq G.K w.H v p ∧ reprPd p = some z := fun ⟨a, ha⟩ e => by
    obtain ⟨p, h1, h2⟩ := Option.bind_eq_some_iff.mp e
    exact .inr ⟨a, p, ha, dqr_of ok r h1, h2⟩
  cases d with
  | tup xs => exact pd ⟨_, r.choose_spec.choose_spec.1⟩ e
  | lst xs => exact pd ⟨_, r.choose_spec.choose_spec.1⟩ e
  | ref n => exact pd ⟨_, r.choose_spec.1⟩ e
  | dic n => exact pd ⟨_, r.choose_spec.choose_spec.1⟩ e
  | non => exact .inl (reprD_ok (d := .non) r e)
  | bl b => exact .inl (reprD_ok (d := .bl b) r e)
  | int b => exact .inl (reprD_ok (d := .int b) r e)
  | str b => exact .inl (reprD_ok (d := .str b) r e)
  | _ => cases e
theorem isi_ok (g : PcOk G) {d c : D} {v u : V} {b : Bool} (ok : Ok G w) (r : Rep G w d v) (rc : Rep G w c u) (e : isiD w.S d c = some b) (q : Q (.bl b) w.H) : rBn G.K .isi [v, u] w.H Q := by
  unfold isiD at e
  split at e
  · rename_i t ht
    obtain ⟨tx, _⟩ := tyD_ok ok r ht
    split at e
    · rename_i cs
      obtain ⟨a, vs, e1, t, h2⟩ := rc
      obtain ⟨us, hp, hk⟩ := isiL_ok g h2 e
      subst e1
      rcases t with ⟨_, t⟩ | ⟨o, its, n, h1, h2', hd, hz, hv⟩
      · exact .inr (.inr (.inl ⟨v, a, vs, _, us, b, rfl, t, hp, tx, hk, q⟩))
      · obtain ⟨oc, od, dt, sl⟩ := o
        simp only at h2' hd
        subst h2' hd
        have e2 := ClsV.all hp hv
        refine .inr (.inr (.inr ⟨v, a, od, us, n, sl, _, b, rfl, ?_, tx, hk, q⟩))
        rw [h1, ← e2]
    · obtain ⟨k, hc, hk⟩ := isi1_ok g rc e
      exact .inr (.inl ⟨v, u, _, k, b, rfl, hc, tx, hk, q⟩)
  · split at e
    · rename_i k fs _
      obtain ⟨a, od, us, rfl, ⟨hx, _, ha, hd⟩, _⟩ := r
      have hd' : ∀ d, od = some d → ∃ us, w.H d = some (.xd us) := fun d z => by
        subst z
        exact ⟨_, hd.2⟩
      refine .inl (.inl ⟨a, _, od, u, b, rfl, ha, hd', g.exc k hx, ?_, q⟩)
      split at e
      · rename_i cs
        obtain ⟨p, vs, e1, t, h2⟩ := rc
        obtain ⟨ws, hp, hk⟩ := isxL_ok g hx h2 e
        subst e1
        rcases t with ⟨_, t⟩ | ⟨o, its, n, h1, h2', hd, hz, hv⟩
        · exact .inr (.inl ⟨p, vs, ws, rfl, t, hp, hk⟩)
        · obtain ⟨oc, odd, dt, sl⟩ := o
          simp only at h2' hd
          subst h2' hd
          have e2 := ClsV.all hp hv
          exact .inr (.inr ⟨p, odd, ws, n, sl, rfl, by rw [h1, ← e2], hk⟩)
      · obtain ⟨cv, hc, hk⟩ := isx1_ok g hx rc e
        exact .inl ⟨cv, hc, hk⟩
    · obtain ⟨a, rfl, _, ha⟩ := r
      refine .inl (.inr ⟨a, u, b, rfl, ha, ?_, q⟩)
      split at e
      · rename_i cs
        obtain ⟨p, vs, e1, t, h2⟩ := rc
        obtain ⟨ws, hp, hk⟩ := isiL_ok g h2 e
        subst e1
        rcases t with ⟨_, t⟩ | ⟨o, its, n, h1, h2', hd, hz, hv⟩
        · exact .inr (.inl ⟨p, vs, ws, rfl, t, hp, hk⟩)
        · obtain ⟨oc, odd, dt, sl⟩ := o
          simp only at h2' hd
          subst h2' hd
          have e2 := ClsV.all hp hv
          exact .inr (.inr ⟨p, odd, ws, n, sl, rfl, by rw [h1, ← e2], hk⟩)
      · obtain ⟨cv, hc, hk⟩ := isi1_ok g rc e
        exact .inl ⟨cv, hc, hk⟩
    · cases e
theorem blt_ok (g : PcOk G) {b : Bn} {m : Bool} {xs : List D} {vs : List V} (h : At G W w ρ σ (bltD b m xs w.S) Q) (r : RepL G w xs vs) : rBn G.K b vs w.H Q := by
  unfold bltD at h
  split at h
  · rename_i x
    obtain ⟨v, rfl, r1⟩ := r.one
    cases b with
    | len =>
      obtain ⟨i, e, q⟩ := At.gvI h
      obtain ⟨n, hn, rfl⟩ := Option.map_eq_some_iff.mp e
      rcases size_ok h.ok r1 hn with hl | ⟨a, kvs, e1, hd, e2⟩
      · exact .inl ⟨v, n, rfl, hl, q⟩
      · exact .inr ⟨a, kvs, by rw [e1], hd, by rw [← e2]; exact q⟩
    | abs =>
      obtain ⟨i, e, q⟩ := At.gvI h
      cases x with
      | int j => obtain rfl := Option.some.inj e; exact ⟨j, by rw [show v = .int j from r1], q⟩
      | _ => cases e
    | int =>
      obtain ⟨i, e, q⟩ := At.gvI h
      cases x with
      | int j => obtain rfl := Option.some.inj e; exact .inl ⟨j, by rw [show v = .int j from r1], q⟩
      | bl j => obtain rfl := Option.some.inj e; exact .inr ⟨j, by rw [show v = .bl j from r1], q⟩
      | _ => cases e
    | bool =>
      obtain ⟨i, e, q⟩ := At.gvB h
      cases x with
      | int j => obtain rfl := Option.some.inj e; exact .inl ⟨j, by rw [show v = .int j from r1], q⟩
      | bl j => obtain rfl := Option.some.inj e; exact .inr ⟨j, by rw [show v = .bl j from r1], q⟩
      | _ => cases e
    | str =>
      obtain ⟨i, e, q⟩ := At.gvS h fun i e => by
        obtain ⟨j, _, h1, h2⟩ := strD_ok r1 e
        rw [h2]; exact PySem.int_text_fits h1
      obtain ⟨j, e1, h1, h2⟩ := strD_ok r1 e
      exact ⟨j, by rw [e1], h1, by rw [← h2]; exact q⟩
    | repr =>
      obtain ⟨i, e, q⟩ := At.gvS h fun i e => reprX_len e
      exact (reprX_ok h.ok r1 e).imp (fun e => ⟨v, i, rfl, e, q⟩) fun ⟨a, p, e1, dp, e⟩ => ⟨a, p, i, by rw [e1], by rw [← e1]; exact dp, e, q⟩
    | ord =>
      obtain ⟨i, e, q⟩ := At.gvI h
      cases x with
      | str z =>
        have e' : (if z.length = 1 then some ((z.cps.getD 0 0 : Nat) : Int) else none) = some i := e
        split at e'
        · rename_i hz
          obtain rfl := Option.some.inj e'
          exact ⟨z, by rw [show v = .str z from r1.1], hz, q⟩
        · cases e'
      | _ => cases e
    | all =>
      obtain ⟨i, e, q⟩ := At.gvB h
      obtain ⟨bs, hb, rfl⟩ := Option.map_eq_some_iff.mp e
      obtain ⟨ys, hl, hb⟩ := Option.bind_eq_some_iff.mp hb
      obtain ⟨a, us, e1, h1, h2⟩ := lstOf_ok h.ok r1 hl
      rw [bools_ok h2 hb] at h1
      exact ⟨a, bs, by rw [e1], h1, q⟩
    | any =>
      obtain ⟨i, e, q⟩ := At.gvB h
      obtain ⟨bs, hb, rfl⟩ := Option.map_eq_some_iff.mp e
      obtain ⟨ys, hl, hb⟩ := Option.bind_eq_some_iff.mp hb
      obtain ⟨a, us, e1, h1, h2⟩ := lstOf_ok h.ok r1 hl
      rw [bools_ok h2 hb] at h1
      exact ⟨a, bs, by rw [e1], h1, q⟩
    | sorted =>
      have h' : At G W w ρ σ (sortedD m w.S x) Q := h
      unfold sortedD at h'
      split at h'
      · rename_i ns e
        obtain ⟨ys, hl, hb⟩ := Option.bind_eq_some_iff.mp e
        obtain ⟨a, us, e1, h1, h2⟩ := lstOf_ok h.ok r1 hl
        rw [ints_ok h2 hb] at h1
        split at h'
        · rename_i h64
          refine ⟨a, ns, by rw [e1], h1, h64, fun ns' p hp hs hn => ?_⟩
          rw [sorted_one (hp.trans (sortI_perm ns).symm) hs (sortI_sorted ns)]
          exact (h'.newL (repL_ints _)).2 p hn
        · exact h'.no
      · exact h'.no
    | list =>
      have h' : At G W w ρ σ (listD m w.S x) Q := h
      unfold listD at h'
      split at h'
      · rename_i ys hi
        obtain ⟨a, us, e1, h1, h2⟩ := itemsOf_ok h.ok r1 hi
        exact ⟨a, us, by rw [e1], h1, (h'.newL h2).2⟩
      · exact h'.no
    | tuple =>
      have h' : At G W w ρ σ (tupleD w.S x) Q := h
      unfold tupleD at h'
      split at h'
      · rename_i ys
        obtain ⟨a, us, e1, t, h2⟩ := id r1
        exact ⟨a, us, by rw [e1], .inr ⟨t.sqt, by rw [← e1]; exact h'.q r1⟩⟩
      · split at h'
        · rename_i ys hi
          obtain ⟨a, us, e1, h1, h2⟩ := lstOf_ok h.ok r1 hi
          exact ⟨a, us, by rw [e1], .inl ⟨h1, (h'.newT h2 h2.length).2⟩⟩
        · exact h'.no
    | _ => exact h.no
  · rename_i x y
    obtain ⟨v, u, rfl, r1, r2⟩ := r.two
    cases b with
    | isi =>
      obtain ⟨i, e, q⟩ := At.gvB h
      exact isi_ok g h.ok r1 r2 e q
    | max =>
      have h' : At G W w ρ σ (maxD w.S x y) Q := h
      cases x with
      | int i =>
        cases y with
        | int j => exact ⟨i, j, by rw [show v = .int i from r1, show u = .int j from r2], h'.q rfl⟩
        | _ => exact h'.no
      | _ => cases y <;> exact h'.no
    | min =>
      have h' : At G W w ρ σ (minD w.S x y) Q := h
      cases x with
      | int i =>
        cases y with
        | int j => exact ⟨i, j, by rw [show v = .int i from r1, show u = .int j from r2], h'.q rfl⟩
        | _ => exact h'.no
      | _ => cases y <;> exact h'.no
    | _ => exact h.no
  · exact h.no
end
end PD
set_option maxHeartbeats 1000000
/-! PD6: the small language against the text -/
namespace PD
open PySem PySem.Spec L2
/-! ### equal data -/
mutual
def D.same : D → D → Bool
  | .non, .non => true
  | .bl a, .bl b => a == b
  | .int a, .int b => decide (a = b)
  | .str a, .str b => decide (a = b)
  | .tup a, .tup b => sameL a b
  | .lst a, .lst b => sameL a b
  | .ty a, .ty b => decide (a = b)
  | .cls a, .cls b => decide (a = b)
  | _, _ => false
def sameL : List D → List D → Bool
  | [], [] => true
  | a :: r, b :: t => a.same b && sameL r t
  | _, _ => false
end
mutual
theorem same_ok : ∀ {a b : D}, a.same b = true → a = b
  | .non, .non, _ => rfl
  | .bl a, .bl b, h => by rw [eq_of_beq (show (a == b) = true from h)]
  | .int a, .int b, h => by rw [of_decide_eq_true (show decide (a = b) = true from h)]
  | .str a, .str b, h => by rw [of_decide_eq_true (show decide (a = b) = true from h)]
  | .tup a, .tup b, h => by rw [sameL_ok (show sameL a b = true from h)]
  | .lst a, .lst b, h => by rw [sameL_ok (show sameL a b = true from h)]
  | .ty a, .ty b, h => by rw [of_decide_eq_true (show decide (a = b) = true from h)]
  | .cls a, .cls b, h => by rw [of_decide_eq_true (show decide (a = b) = true from h)]
theorem sameL_ok : ∀ {a b : List D}, sameL a b = true → a = b
  | [], [], _ => rfl
  | a :: r, b :: t, h => by
    obtain ⟨h1, h2⟩ := Bool.and_eq_true_iff.mp (show (a.same b && sameL r t) = true from h)
    rw [same_ok h1, sameL_ok h2]
end
def Src.same : Src → Src → Bool
  | .arg i, .arg j => i == j
  | .dat d i, .dat e j => d.same e && i == j
  | _, _ => false
def srcSame : List Src → List Src → Bool
  | [], [] => true
  | a :: r, b :: t => a.same b && srcSame r t
  | _, _ => false
theorem srcSame_ok : ∀ {a b : List Src}, srcSame a b = true → a = b
  | [], [], _ => rfl
  | a :: r, b :: t, h => by
    obtain ⟨h1, h2⟩ := Bool.and_eq_true_iff.mp (show (a.same b && srcSame r t) = true from h)
    rw [srcSame_ok h2]
    cases a with
    | arg i =>
      cases b with
      | arg j => rw [eq_of_beq (show (i == j) = true from h1)]
      | dat e k => cases h1
    | dat d k =>
      cases b with
      | arg j => cases h1
      | dat e k2 =>
        obtain ⟨z1, z2⟩ := Bool.and_eq_true_iff.mp (show (d.same e && k == k2) = true from h1)
        rw [same_ok z1, eq_of_beq z2]
def CSig.same (c e : CSig) : Bool := c.f == e.f && (c.n == e.n && (decide (c.ks = e.ks) && srcSame c.src e.src))
theorem csig_ok {c e : CSig} (h : c.same e = true) : c = e := by
  obtain ⟨f, n, ks, src⟩ := c
  obtain ⟨f', n', ks', src'⟩ := e
  obtain ⟨h1, h⟩ := Bool.and_eq_true_iff.mp (show (f == f' && (n == n' && (decide (ks = ks') && srcSame src src'))) = true from h)
  obtain ⟨h2, h⟩ := Bool.and_eq_true_iff.mp h
  obtain ⟨h3, h4⟩ := Bool.and_eq_true_iff.mp h
  rw [eq_of_beq h1, eq_of_beq h2, of_decide_eq_true h3, srcSame_ok h4]
/-! ### the check -/
/-- what a check is made over: the scope, the names by slot, the names that the module does not bind, its constants, its classes, its functions' names, the forms of call -/
structure CC where
  sc : Scope
  N : List Str
  free : List Str
  con : List (Str × D)
  cls : List (Str × Nat)
  fnm : List (Nat × Str)
  sigs : List CSig
  /-- exceptions that are made here: name, number, how many values, fields -/
  exs : List (Str × Nat × Nat × List (Str × Nat))
  /-- fields of exceptions that are read -/
  flds : List Str
  /-- classes of exceptions that clauses name -/
  xcl : List (Str × Nat)
  /-- in an except suite -/
  hot : Bool
  /-- defs that get a lambda from here -/
  lms : List (Nat × Str) := []
  /-- in a def that calls what it got -/
  ask : Bool := false
  /-- .. in its own body -/
  askT : Bool := false
  /-- .. where it may be called -/
  askI : Bool := false
/-- in a comprehension -/
abbrev CC.blk (C : CC) (sc : Scope) : CC := { C with sc := sc, lms := [], askT := false, askI := false }
/-- in a try, in a suite -/
abbrev CC.tryC (C : CC) : CC := { C with lms := [], askI := C.askT }
abbrev CC.hotC (C : CC) : CC := { C with hot := true, lms := [], askT := false, askI := false }
/-- no parameters -/
def noParB : Arguments → Bool
  | ⟨[], [], none, [], [], none, []⟩ => true
  | _ => false
theorem noPar_eq {a : Arguments} (h : noParB a = true) : a = ⟨[], [], none, [], [], none, []⟩ := by
  unfold noParB at h
  split at h
  · rfl
  · cases h
def visB (sc : Scope) (x : Str) : Bool := match sc.names.lookup x with
  | some .local => true
  | some .cell => true
  | some .free => true
  | _ => false
theorem vis_ok {sc : Scope} {x : Str} (h : visB sc x = true) : Vis sc x := by
  unfold visB at h
  split at h
  · exact .inl (by assumption)
  · exact .inr (.inl (by assumption))
  · exact .inr (.inr (by assumption))
  · cases h
def gloB (sc : Scope) (x : Str) : Bool := decide (sc.names.lookup x = some .globalImplicit) && !(x == ("__debug__" : Str))
def okName (x : Str) : Bool := !(x == ("__debug__" : Str)) && (!(x == ("__classdict__" : Str)) && !(x == ("__name__" : Str)))
def freeB (C : CC) (x : Str) : Bool := gloB C.sc x && (okName x && C.free.contains x)
def Bn.name : Bn → Str
  | .len => "len"
  | .abs => "abs"
  | .int => "int"
  | .str => "str"
  | .bool => "bool"
  | .repr => "repr"
  | .ord => "ord"
  | .all => "all"
  | .any => "any"
  | .sum => "sum"
  | .max => "max"
  | .min => "min"
  | .sorted => "sorted"
  | .list => "list"
  | .tuple => "tuple"
  | .isi => "isinstance"
def Bn.isTy : Bn → Bool
  | .int => true
  | .str => true
  | .bool => true
  | .list => true
  | .tuple => true
  | _ => false
theorem bn_boot (b : Bn) : bootBuiltins b.name = some b.val := by cases b <;> decide +kernel
/-- built-in types' names -/
def BT.name : BT → Str
  | .int => "int"
  | .bool => "bool"
  | .str => "str"
  | .list => "list"
  | .tuple => "tuple"
  | .dict => "dict"
theorem bt_boot (b : BT) : bootBuiltins b.name = some (.type b.nm) := by cases b <;> decide +kernel
def constB (d : D) (c : Const) : Bool := match d, c with
  | .non, .none => true
  | .bl a, .bool b => a == b
  | .int a, .int b => decide (a = b)
  | .str a, .str b => decide (a = b) && Nat.ble a.length 100000
  | _, _ => false
def notSuper : Expr → Bool
  | .Call (.Name id _) [] [] _ => !(id == ("super" : Str))
  | _ => true
end PD
set_option maxHeartbeats 1000000
/-! PL0: lambdas with a parameter: the check -/
namespace PD
open PySem PySem.Spec PyProof.Rows L2
/-- captured names, globals, a parameter that the maker has not -/
def lamDB (N : List Str) (x : Str) (sc scope : Scope) : Bool :=
  decide (scope.kind = .function) && (!scope.isCoroutine && (!scope.isGenerator && (decide (scope.names.lookup x = some .local) && (decide (x ∉ N) && scope.names.all fun y => !decide (y.2 = .cell) && ((!decide (y.2 = .local) || decide (y.1 = x)) && (!decide (y.2 = .free) || (decide (sc.names.lookup y.1 = some .cell) || decide (sc.names.lookup y.1 = some .free))))))))
end PD
set_option maxHeartbeats 1000000
/-! PD7: the check of expressions -/
namespace PD
open PySem PySem.Spec L2
/-- the names of keywords -/
def kwNames : List Keyword → Option (List Str)
  | [] => some []
  | ⟨some n, _, _⟩ :: r => (kwNames r).map (n :: ·)
  | _ => none
def Mt.okFor (t : Mt) (attr : Str) : Bool := match t with
  | .join => decide (attr = ("join" : Str))
  | .split => decide (attr = ("split" : Str))
  | .append => decide (attr = ("append" : Str))
  | _ => false
/-- a plain local; in a def's own suite a cell, too -/
def locN (C : CC) (b : Bool) (n : Str) : Bool := decide (C.sc.names.lookup n = some .local) || (b && decide (C.sc.names.lookup n = some .cell))
def nameB (C : CC) (b : Bool) (i : Nat) (x : Expr) : Bool := match x with
  | .Name n _ => decide (C.N[i]? = some n) && locN C b n
  | _ => false
mutual
def tgB (C : CC) (b : Bool) : Tg → Expr → Bool
  | .name i, x => nameB C b i x
  | .tup is, x => (match x with
    | .Tuple xs _ _ => !C.hot && (is.length == xs.length && ((is.zip xs).all fun p => nameB C b p.1 p.2))
    | _ => false)
  | .nest ts, x => (match x with
    | .Tuple xs _ _ => !C.hot && tgBs C b ts xs
    | _ => false)
def tgBs (C : CC) (b : Bool) : List Tg → List Expr → Bool
  | [], xs => (match xs with
    | [] => true
    | _ => false)
  | t :: ts, xs => (match xs with
    | x :: xs => tgB C b t x && tgBs C b ts xs
    | _ => false)
end
mutual
/-- the slots of a target -/
def Tg.slots : Tg → List Nat
  | .name i => [i]
  | .tup is => is
  | .nest ts => slotsL ts
def slotsL : List Tg → List Nat
  | [] => []
  | t :: ts => t.slots ++ slotsL ts
end
/-- no set, no star, no slice, no super() -/
def goodX : Expr → Bool
  | .Set .. => false
  | .Starred .. => false
  | .Slice .. => false
  | .Call (.Name id _) [] [] _ => !(id == ("super" : Str))
  | _ => true
/-- the target's slots are the block's own -/
def tgOwn (own : List (Str × Nat)) (t : Tg) : Bool := t.slots.all fun i => (own.map (·.2)).contains i
/-- a lambda's parameters: none, one with a default -/
def lamParB (N : List Str) (sc : Scope) (ps : Arguments) (scope : Scope) : Bool := (noParB ps && LamX.lamSB sc scope) || (match ps with
  | ⟨[], [⟨x, none, _⟩], none, [], [], none, [.Constant (.int _) _ _]⟩ => lamDB N x sc scope
  | _ => false)
mutual
def chk (C : CC) : E → Expr → Bool
  | .lit d, x => (match x with
    | .Constant c _ _ => constB d c
    | _ => false)
  | .var i, x => (match x with
    | .Name n _ => (!C.ask || !(i == 0)) && (decide (C.N[i]? = some n) && (visB C.sc n && okName n))
    | _ => false)
  | .glo n d, x => (match x with
    | .Name m _ => decide (n = m) && (gloB C.sc n && C.con.any fun p => decide (p.1 = n) && p.2.same d)
    | _ => false)
  | .bin o a b, x => (match x with
    | .BinOp l o' r _ => decide (o = o') && (chk C a l && chk C b r)
    | _ => false)
  | .neg a, x => (match x with
    | .UnaryOp .USub y _ => chk C a y
    | _ => false)
  | .not a, x => (match x with
    | .UnaryOp .Not y _ => chk C a y
    | _ => false)
  | .and a b, x => (match x with
    | .BoolOp .And [y, z] _ => chk C a y && chk C b z
    | .BoolOp .And (y :: z :: u :: r) p => chk C a y && chk C b (.BoolOp .And (z :: u :: r) p)
    | _ => false)
  | .or a b, x => (match x with
    | .BoolOp .Or [y, z] _ => chk C a y && chk C b z
    | .BoolOp .Or (y :: z :: u :: r) p => chk C a y && chk C b (.BoolOp .Or (z :: u :: r) p)
    | _ => false)
  | .ite c a b, x => (match x with
    | .IfExp t y z _ => chk C c t && (chk C a y && chk C b z)
    | _ => false)
  | .cmp o a b, x => (match x with
    | .Compare l [o'] [r] _ => decide (o = o') && (chk C a l && chk C b r)
    | _ => false)
  | .chn o o2 a b c, x => (match x with
    | .Compare l [o', o2'] [r, t] _ => decide (o = o') && (decide (o2 = o2') && (chk C a l && (chk C b r && chk C c t)))
    | _ => false)
  | .tup es, x => (match x with
    | .Tuple xs _ _ => chkX C es xs
    | _ => false)
  | .lst _ es, x => (match x with
    | .List xs _ => chkX C es xs
    | _ => false)
  | .dic es, x => (match x with
    | .Dict keys vals _ => Nat.ble keys.length 15 && chkD C es keys vals
    | _ => false)
  | .call c es zs, x => (match x with
    | .Call (.Name n _) xs kws _ => !C.hot && (gloB C.sc n && (!(n == ("super" : Str)) && (C.sigs.any (CSig.same c) && (C.fnm.any (fun p => p.1 == c.f && decide (p.2 = n)) && (xs.length == c.n && (decide (kwNames kws = some c.ks) && (chks C es xs && chkK C zs kws)))))))
    | _ => false)
  | .blt b _ es, x => (match x with
    | .Call (.Name n _) (y :: xs) [] _ => (!C.hot || b.quiet) && (decide (n = b.name) && (freeB C n && chks C es (y :: xs)))
    | _ => false)
  | .meth t a es, x => (match x with
    | .Call (.Attribute o n ap) [y] [] cp => t.okFor n && (ap.endLine == cp.line && (chk C a o && chks C es [y]))
    | _ => false)
  | .tyv t, x => (match x with
    | .Name n _ => decide (n = t.name) && freeB C n
    | _ => false)
  | .clsv m c, x => (match x with
    | .Name n _ => decide (n = m) && (gloB C.sc n && C.cls.any fun p => decide (p.1 = n) && p.2 == c)
    | _ => false)
  | .idx a i, x => (match x with
    | .Subscript o y _ => chk C a o && chk C i y
    | _ => false)
  | .slc _ a lo hi, x => (match x with
    | .Subscript o (.Slice l h none _) _ => chk C a o && (chko C lo l && chko C hi h)
    | _ => false)
  | .comp _ own tg it conds elt, x => (match x with
    | .ListComp e [⟨t, i, ifs, 0⟩] scope _ => !C.hot && (blkC C.N C.sc scope own && (chkI C it t i && (tgB (C.blk (relS scope C.sc)) false tg t && (tgOwn own tg && (chkC (C.blk (relS scope C.sc)) conds ifs && chk (C.blk (relS scope C.sc)) elt e)))))
    | _ => false)
  | .frz a, x => chk C a x
  | .cat _ a b, x => (match x with
    | .BinOp l .Add r _ => chk C a l && chk C b r
    | _ => false)
  | .rep _ a b, x => (match x with
    | .BinOp l .Mult r _ => chk C a l && chk C b r
    | _ => false)
  | .att a f, x => (match x with
    | .Attribute o n _ => decide (n = f) && (C.flds.contains f && chk C a o)
    | _ => false)
  | .lam h e, x => (match x with
    | .Call (.Name n _) [.Lambda ps body scope _] [] _ => !C.hot && (gloB C.sc n && (!(n == ("super" : Str)) && (C.lms.any (fun p => p.1 == h && decide (p.2 = n)) && (lamParB C.N C.sc ps scope &&
      chk { C with sc := scope, hot := false, lms := [], askT := false, askI := false } e body))))
    | _ => false)
  | .ask, x => (match x with
    | .Call (.Name n _) [] [] _ => C.askI && (decide (C.N[0]? = some n) && !(n == ("super" : Str)))
    | _ => false)
def chks (C : CC) : Es → List Expr → Bool
  | .nil, xs => (match xs with
    | [] => true
    | _ => false)
  | .cons e r, xs => (match xs with
    | y :: ys => chk C e y && chks C r ys
    | _ => false)
  | .star e r, xs => false
/-- starred ones, too -/
def chkX (C : CC) : Es → List Expr → Bool
  | .nil, xs => (match xs with
    | [] => true
    | _ => false)
  | .cons e r, xs => (match xs with
    | y :: ys => chk C e y && chkX C r ys
    | _ => false)
  | .star e r, xs => (match xs with
    | .Starred y _ :: ys => chk C e y && chkX C r ys
    | _ => false)
def chkK (C : CC) : Es → List Keyword → Bool
  | .nil, kws => (match kws with
    | [] => true
    | _ => false)
  | .cons e r, kws => (match kws with
    | ⟨_, y, _⟩ :: kws => chk C e y && chkK C r kws
    | _ => false)
  | .star e r, kws => false
def chkD (C : CC) : Es → List (Option Expr) → List Expr → Bool
  | .nil, ks, vs => (match ks, vs with
    | [], [] => true
    | _, _ => false)
  | .cons e r, ks, vs => (match r, ks, vs with
    | .cons f t, some k :: ks, v :: vs => chk C e k && (chk C f v && chkD C t ks vs)
    | _, _, _ => false)
  | .star e r, ks, vs => false
def chko (C : CC) : Oe → Option Expr → Bool
  | .no, x => (match x with
    | none => true
    | _ => false)
  | .some e, x => (match x with
    | some y => chk C e y
    | _ => false)
def chkC (C : CC) : Es → List Expr → Bool
  | .nil, xs => (match xs with
    | [] => true
    | _ => false)
  | .cons e r, xs => (match xs with
    | [y] => chk C e y && (match r with
      | .nil => true
      | _ => false)
    | _ => false)
  | .star e r, xs => false
def chkI (C : CC) : It → Expr → Expr → Bool
  | .val e, t, x => chk C e x
  | .rng a, t, x => (match x with
    | .Call (.Name n _) [y] [] _ => decide (n = ("range" : Str)) && (freeB C n && chk C a y)
    | _ => false)
  | .rng2 a b, t, x => (match x with
    | .Call (.Name n _) [y, z] [] _ => decide (n = ("range" : Str)) && (freeB C n && (chk C a y && chk C b z))
    | _ => false)
  | .zip a b, t, x => (match x with
    | .Call (.Name n _) [y, z] [] _ => decide (n = ("zip" : Str)) && (freeB C n && (chk C a y && (chk C b z && (match t with
      | .Tuple _ _ _ => true
      | _ => false))))
    | _ => false)
  | .enum a, t, x => (match x with
    | .Call (.Name n _) [y] [] _ => decide (n = ("enumerate" : Str)) && (freeB C n && (chk C a y && (match t with
      | .Tuple _ _ _ => true
      | _ => false)))
    | _ => false)
end
theorem ba {a b : Bool} (h : (a && b) = true) : a = true ∧ b = true := Bool.and_eq_true_iff.mp h
theorem chk_good {C : CC} : ∀ {e : E} {x : Expr}, chk C e x = true → goodX x = true := by
  intro e
  induction e using E.rec (motive_2 := fun _ => True) (motive_3 := fun _ => True) (motive_4 := fun _ => True) with
  | frz a ih => intro x h; exact ih (by unfold chk at h; exact h)
  | ask =>
    intro x h
    unfold chk at h
    split at h
    · exact (ba (ba h).2).2
    · cases h
  | call c es zs _ _ =>
    intro x h
    unfold chk at h
    split at h
    · rename_i n p xs kws q
      have h2 := (ba (ba (ba h).2).2).1
      cases xs with
      | nil =>
        cases kws with
        | nil => exact h2
        | cons _ _ => rfl
      | cons _ _ => rfl
    · cases h
  | _ =>
    first
    | trivial
    | (intro x h
       unfold chk at h
       repeat' split at h
       all_goals first | rfl | cases h)
end PD
set_option maxHeartbeats 1000000
/-! PD8: worlds with a private object; the context; shapes -/
namespace PD
open PySem PySem.Spec L2
section
variable {G : PC}
/-! ### an object that is being made -/
abbrev Wd.open' (w : Wd) (p : Addr) (o : HO) : Wd := ⟨upd w.H p o, w.ms, w.S, p :: w.pv⟩
abbrev Wd.chg (w : Wd) (p : Addr) (o : HO) : Wd := ⟨upd w.H p o, w.ms, w.S, w.pv⟩
abbrev Wd.close (w : Wd) (p : Addr) (o : HO) (pv : List Addr) : Wd := ⟨upd w.H p o, w.ms, w.S, pv⟩
theorem MRep.of {w w' : Wd} {a : Addr} (l : Le0 w w') (k : ∀ o, w.H a = some o → w'.H a = some o) : ∀ {mo : MO}, MRep G w a mo → MRep G w' a mo
  | .lst _, ⟨_, e, r⟩ => ⟨_, k _ e, r.le l⟩
  | .ins _ _, ⟨_, _, e, r⟩ => ⟨_, _, k _ e, r.le l⟩
  | .dead, ⟨_, e, q⟩ => ⟨_, k _ e, q⟩
theorem Ok.mem_ms {w : Wd} (ok : Ok G w) {a : Addr} (h : a ∈ w.ms) : ∃ o, w.H a = some o := by
  obtain ⟨i, hi, e⟩ := List.getElem_of_mem h
  exact ok.there (List.getElem?_eq_some_iff.mpr ⟨hi, e⟩)
theorem Le0.open' {w : Wd} {p : Addr} {o : HO} (ok : Ok G w) (h : w.H p = none) : Le0 w (w.open' p o) :=
  ⟨fun a u e n _ => ⟨(upd_ne (ne_of_none e h)).trans e, fun m => by
    rcases m with m | m
    · exact n (.inl m)
    · rcases List.mem_cons.mp m with z | z
      · exact ne_of_none e h z
      · exact n (.inr z)⟩, [], by simp⟩
theorem Ok.open' {w : Wd} {p : Addr} {o : HO} (ok : Ok G w) (h : w.H p = none) (hp : Pl o := by exact ⟨rfl, fun _ z => nomatch z⟩) : Ok G (w.open' p o) := by
  refine ⟨ok.len, ok.nd, fun i a mo e1 e2 => (ok.rep i a mo e1 e2).of (Le0.open' ok h) fun u e => (upd_ne (ne_of_none e h)).trans e, fun a ha => ?_, ok.tab.ext fun b u e => (upd_ne (ne_of_none e h)).trans e⟩
  rcases List.mem_cons.mp ha with z | z
  · subst z
    exact ⟨⟨o, upd_same, hp⟩, fun m => by obtain ⟨u, q⟩ := ok.mem_ms m; rw [h] at q; cases q⟩
  · obtain ⟨⟨u, e, q⟩, n⟩ := ok.pv a z
    exact ⟨⟨u, (upd_ne (ne_of_none e h)).trans e, q⟩, n⟩
/-- what is open changes -/
theorem tabs_upd {H : Hp} {p : Addr} {u o : HO} {T : List (Addr × Str)} (t : LamX.Tabs T H) (h : H p = some u) (hu : Pl u) : LamX.Tabs T (upd H p o) := fun q hq => by
  obtain ⟨ps, h1, h2, h3⟩ := t q hq
  refine ⟨ps, (upd_ne fun z => ?_).trans h1, h2, fun pos cv hc => ?_⟩
  · rw [z, h] at h1
    rw [Option.some.inj h1] at hu
    cases hu.1
  · obtain ⟨c, e1, e2⟩ := h3 pos cv hc
    refine ⟨c, e1, (upd_ne fun z => ?_).trans e2⟩
    rw [z, h] at e2
    exact hu.2 _ (Option.some.inj e2)
theorem Le0.chg {w : Wd} {p : Addr} {o : HO} (hp : p ∈ w.pv) : Le0 w (w.chg p o) :=
  ⟨fun a u e n _ => ⟨(upd_ne fun z => n (.inr (by rw [z]; exact hp))).trans e, n⟩, [], by simp⟩
theorem Ok.chg {w : Wd} {p : Addr} {o : HO} (ok : Ok G w) (hp : p ∈ w.pv) (po : Pl o := by exact ⟨rfl, fun _ z => nomatch z⟩) : Ok G (w.chg p o) := by
  obtain ⟨⟨u0, e0, q0⟩, np⟩ := ok.pv p hp
  refine ⟨ok.len, ok.nd, fun i a mo e1 e2 => (ok.rep i a mo e1 e2).of (Le0.chg hp) fun u e => (upd_ne fun z => ?_).trans e, fun a ha => ?_, tabs_upd ok.tab e0 q0⟩
  · subst z; exact np (List.mem_of_getElem? e1)
  · obtain ⟨⟨u, e, q⟩, n⟩ := ok.pv a ha
    by_cases z : a = p
    · subst z; exact ⟨⟨o, upd_same, po⟩, n⟩
    · exact ⟨⟨u, (upd_ne z).trans e, q⟩, n⟩
/-- it is done -/
theorem Le0.close {w : Wd} {p : Addr} {o : HO} {pv : List Addr} (hp : w.pv = p :: pv) : Le0 w (w.close p o pv) :=
  ⟨fun a u e n _ => ⟨(upd_ne fun z => n (.inr (by rw [z, hp]; exact List.mem_cons_self))).trans e, fun m => by
    rcases m with m | m
    · exact n (.inl m)
    · exact n (.inr (by rw [hp]; exact List.mem_cons_of_mem _ m))⟩, [], by simp⟩
theorem close_notMu {w : Wd} {p : Addr} {o : HO} {pv : List Addr} (ok : Ok G w) (hp : w.pv = p :: pv) (hn : p ∉ pv) : ¬ Mu (w.close p o pv) p := fun m => by
  obtain ⟨_, np⟩ := ok.pv p (by rw [hp]; exact List.mem_cons_self)
  rcases m with ⟨i, mo, e, _⟩ | m
  · exact np (List.mem_of_getElem? e)
  · exact hn m
theorem Ok.close {w : Wd} {p : Addr} {o : HO} {pv : List Addr} (ok : Ok G w) (hp : w.pv = p :: pv) (hn : p ∉ pv) : Ok G (w.close p o pv) := by
  obtain ⟨⟨u0, e0, q0⟩, np⟩ := ok.pv p (by rw [hp]; exact List.mem_cons_self)
  refine ⟨ok.len, ok.nd, fun i a mo e1 e2 => (ok.rep i a mo e1 e2).of (Le0.close hp) fun u e => (upd_ne fun z => ?_).trans e, fun a ha => ?_, tabs_upd ok.tab e0 q0⟩
  · subst z; exact np (List.mem_of_getElem? e1)
  · obtain ⟨⟨u, e, q⟩, n⟩ := ok.pv a (by rw [hp]; exact List.mem_cons_of_mem _ ha)
    have z : a ≠ p := fun z => hn (by rw [← z]; exact ha)
    exact ⟨⟨u, (upd_ne z).trans e, q⟩, n⟩
theorem not_pv {w : Wd} {p : Addr} (ok : Ok G w) (h : w.H p = none) : p ∉ w.pv := fun z => by
  obtain ⟨⟨o, e, _⟩, _⟩ := ok.pv p z
  rw [h] at e; cases e
/-- from ahead of the opening to behind the close -/
theorem Le.through {w w2 : Wd} {p : Addr} {o o' : HO} (ok : Ok G w) (h : w.H p = none) (l0 : Le0 (w.open' p o) w2) (hpv : w2.pv = p :: w.pv) (hK : ∀ a ∈ w.pv, w2.H a = w.H a) : Le w (w2.close p o' w.pv) := by
  refine ⟨(Le0.open' ok h).trans (l0.trans (Le0.close hpv)), rfl, fun a ha => ?_⟩
  have : a ≠ p := fun z => by subst z; exact not_pv ok h ha
  exact (upd_ne this).trans (hK a ha)
/-! ### shapes -/
section
variable {x : Expr} {env : Env}
theorem star_of {es : List Expr} (h : goodX x = true) : starEach (x :: es) env = (false, eval x env) :: starEach es env := by cases x <;> first | rfl | cases h
theorem set_of {v : Value} (h : goodX x = true) : foldedSetIterable x env v = pure v := by cases x <;> first | rfl | cases h
theorem ix_of (h : goodX x = true) : PlainIx x := by
  intro o i
  cases x <;> first | rfl | cases h
theorem mark_of {o : CmpOp} (h : goodX x = true) : behindInMarks o x = false := by cases x <;> first | rfl | cases h
theorem attr_of' {f : Str} (h : goodX x = true) : attributeBase x f env (eval x env) = eval x env := by
  cases x with
  | Call fn args kws pos =>
    cases fn with
    | Name id p =>
      cases args with
      | nil =>
        cases kws with
        | nil =>
          have hs : (id != ("super" : Str)) = true := by
            have h' : (!(id == ("super" : Str))) = true := h
            exact h'
          show (if (id != ("super" : Str) || f == "__class__" || env.kindOf "super" != some .globalImplicit || env.kindOf "__class__" != some .free) = true then _ else _) = _
          rw [hs]
          rfl
        | cons _ _ => rfl
      | cons _ _ => rfl
    | _ => rfl
  | _ => rfl
/-- no comprehension of any kind -/
def noComp : Expr → Bool
  | .ListComp .. => false
  | .SetComp .. => false
  | .DictComp .. => false
  | _ => true
theorem swaps_of {t : Option Expr} {l : Nat} (h : noComp x = true) : swapsWith x t l env = pure false := by cases x <;> first | rfl | cases h
theorem stars_of {C : CC} : ∀ {es : Es} {xs : List Expr}, chks C es xs = true → ∀ {pos : Pos}, (backTo pos (starEach xs env)).any (·.1) = false
  | .nil, xs, h, _ => by
    unfold chks at h
    split at h
    · rfl
    · cases h
  | .cons e r, xs, h, pos => by
    unfold chks at h
    split at h
    · rename_i y ys
      obtain ⟨h1, h2⟩ := PD.ba h
      rw [star_of (chk_good h1)]
      have := stars_of h2 (pos := pos)
      show (false || _) = false
      rw [Bool.false_or]
      exact this
    · cases h
  | .star e r, xs, h, _ => by unfold chks at h; cases h
end
/-! ### argument lists, tests -/
variable (G) in
def PostL (W : WX) (w : Wd) (σ : L2.St) (o : LOut) (Q : List V → Hp → Prop) : Prop := match o with
  | .ok ds S' => ∀ w', w'.S = S' → Ok G w' → Le w w' → ∀ vs, RepL G w' ds vs → Q vs w'.H
  | .exc x S' => ∀ w', w'.S = S' → Ok G w' → Le w w' → ∀ cls od, XRep G w' x cls od → W cls od σ w'.H
  | .stuck => False
variable (G) in
structure AtL (W : WX) (w : Wd) (ρ : Env') (σ : L2.St) (o : LOut) (Q : List V → Hp → Prop) : Prop where
  ok : Ok G w
  env : REnv G w ρ σ
  post : PostL G W w σ o Q
variable (G) in
def tL (W : WX) (m : Env' → Store → LOut) : TA := fun σ H Q => ∃ w ρ, w.H = H ∧ AtL G W w ρ σ (m ρ w.S) Q
variable {W : WX} {w : Wd} {ρ : Env'} {σ : L2.St} {Q : VK} {QL : List V → Hp → Prop} {X : Cx}
theorem AtL.of_le {w' : Wd} {o : LOut} (env : REnv G w ρ σ) (l : Le w w') (ok : Ok G w') (p : PostL G W w σ o QL) : AtL G W w' ρ σ o QL := by
  refine ⟨ok, env.le l.toLe0, ?_⟩
  cases o with
  | ok d S' => exact fun w2 e ok2 l2 v r => p w2 e ok2 (l.trans l2) v r
  | exc x S' => exact fun w2 e ok2 l2 cls od r => p w2 e ok2 (l.trans l2) cls od r
  | stuck => exact p
theorem At.bindX {o : EOut} {f : D → Store → EOut} (h : At G W w ρ σ (o.bind f) Q) {R : VK} (k : ∀ d v w', Le w w' → Rep G w' d v → At G W w' ρ σ (f d w'.S) Q → R v w'.H) : At G W w ρ σ o R := by
  obtain ⟨ok, env, post⟩ := h
  refine ⟨ok, env, ?_⟩
  cases o with
  | ok d S' => exact fun w' e ok' l v r => k d v w' l r (At.of_le env l ok' (by rw [e]; exact post))
  | exc x S' => exact post
  | stuck => exact post
theorem AtL.bindX {o : LOut} {f : List D → Store → EOut} (h : At G W w ρ σ (o.bind f) Q) {R : List V → Hp → Prop} (k : ∀ ds vs w', Le w w' → RepL G w' ds vs → At G W w' ρ σ (f ds w'.S) Q → R vs w'.H) : AtL G W w ρ σ o R := by
  obtain ⟨ok, env, post⟩ := h
  refine ⟨ok, env, ?_⟩
  cases o with
  | ok d S' => exact fun w' e ok' l v r => k d v w' l r (At.of_le env l ok' (by rw [e]; exact post))
  | exc x S' => exact post
  | stuck => exact post
theorem At.bindLX {o : EOut} {f : D → Store → LOut} (h : AtL G W w ρ σ (o.bindL f) QL) {R : VK} (k : ∀ d v w', Le w w' → Rep G w' d v → AtL G W w' ρ σ (f d w'.S) QL → R v w'.H) : At G W w ρ σ o R := by
  obtain ⟨ok, env, post⟩ := h
  refine ⟨ok, env, ?_⟩
  cases o with
  | ok d S' => exact fun w' e ok' l v r => k d v w' l r (AtL.of_le env l ok' (by rw [e]; exact post))
  | exc x S' => exact post
  | stuck => exact post
theorem AtL.bindLX {o : LOut} {f : List D → Store → LOut} (h : AtL G W w ρ σ (o.bindL f) QL) {R : List V → Hp → Prop} (k : ∀ ds vs w', Le w w' → RepL G w' ds vs → AtL G W w' ρ σ (f ds w'.S) QL → R vs w'.H) : AtL G W w ρ σ o R := by
  obtain ⟨ok, env, post⟩ := h
  refine ⟨ok, env, ?_⟩
  cases o with
  | ok d S' => exact fun w' e ok' l v r => k d v w' l r (AtL.of_le env l ok' (by rw [e]; exact post))
  | exc x S' => exact post
  | stuck => exact post
theorem AtL.q {ds : List D} {vs : List V} (h : AtL G W w ρ σ (.ok ds w.S) QL) (r : RepL G w ds vs) : QL vs w.H := h.post w rfl h.ok (Le.refl w) vs r
theorem AtL.no {α : Prop} (h : AtL G W w ρ σ .stuck QL) : α := h.post.elim
theorem pa_imp {es : List Expr} {t t' : TA} (h : PA X es t) (k : ∀ σ H Q, t' σ H Q → t σ H Q) : PA X es t' := ⟨fun pos pins s σ H Q I q => h.run pos pins s σ H Q I (k σ H Q q)⟩
/-- what a test is on data -/
def tru (o : EOut) : Option (Bool × Store) := none
variable (G) in
def PostT (W : WX) (w : Wd) (σ : L2.St) (o : EOut) (Q : Bool → Hp → Prop) : Prop := match o with
  | .ok d S' => ∃ k, truD S' d = some k ∧ ∀ w', w'.S = S' → Ok G w' → Le w w' → Q k w'.H
  | .exc x S' => ∀ w', w'.S = S' → Ok G w' → Le w w' → ∀ cls od, XRep G w' x cls od → W cls od σ w'.H
  | .stuck => False
variable (G) in
structure AtT (W : WX) (w : Wd) (ρ : Env') (σ : L2.St) (o : EOut) (Q : Bool → Hp → Prop) : Prop where
  ok : Ok G w
  env : REnv G w ρ σ
  post : PostT G W w σ o Q
variable (G) in
def tT (W : WX) (m : Env' → Store → EOut) : TT := fun σ H Q => ∃ w ρ, w.H = H ∧ AtT G W w ρ σ (m ρ w.S) Q
variable {QT : Bool → Hp → Prop}
theorem AtT.of_le {w' : Wd} {o : EOut} (env : REnv G w ρ σ) (l : Le w w') (ok : Ok G w') (p : PostT G W w σ o QT) : AtT G W w' ρ σ o QT := by
  refine ⟨ok, env.le l.toLe0, ?_⟩
  cases o with
  | ok d S' =>
    obtain ⟨k, e, p⟩ := p
    exact ⟨k, e, fun w2 e ok2 l2 => p w2 e ok2 (l.trans l2)⟩
  | exc x S' => exact fun w2 e ok2 l2 cls od r => p w2 e ok2 (l.trans l2) cls od r
  | stuck => exact p
theorem pt_imp {e : Expr} {t t' : TT} (h : PT X e t) (k : ∀ σ H Q, t' σ H Q → t σ H Q) : PT X e t' := ⟨fun pins s σ H Q I q => h.run pins s σ H Q I (k σ H Q q)⟩
/-- a value whose truth is asked -/
theorem AtT.val {o : EOut} (h : AtT G W w ρ σ o QT) : At G W w ρ σ o fun v H' => ∃ k, TruV G.K v H' k ∧ QT k H' := by
  obtain ⟨ok, env, post⟩ := h
  refine ⟨ok, env, ?_⟩
  cases o with
  | ok d S' =>
    obtain ⟨k, e, p⟩ := post
    exact fun w' e' ok' l v r => ⟨k, truD_ok ok' r (by rw [e']; exact e), p w' e' ok' l⟩
  | exc x S' => exact post
  | stuck => exact post
end
end PD
set_option maxHeartbeats 2000000
/-! XI: an own exception's __init__: super().__init__('text'), then self.f = p -/
namespace PD
open PySem PySem.Spec PySem.W PyProof.Rows
section
variable {prog : Program} {w : World} {A : Around} {E : Value → Shared → Prop} {h : Heap} {g : Array GenState} {d : Drawn} {t : Nat} {os : OsState}
/-- the wrapper's call: the args are laid anew -/
theorem call_mw {i newId : String} {bmB : List Value} {B : String} {nm q : Str} {C N : Addr} {bs bm : List Value} {hdct : Bool} {sn : List Str} {sub : List Value} {ab : Bool} {col : Option Bool} {dd : Option Addr} {k0 k1 k2 k3 k5 : Option Value}
    (F : ExcBaseFacts B newId i bmB) {u e t0 : Addr} {rest : List Value} {Q : Value → Shared → Prop}
    (hC : h.get? C = some (excClassObj nm q C N bs bm hdct sn sub ab col dd k0 k1 k2 k3 k5 newId)) (he : h.get? e = some (HandSPX.excO C t0)) (hu : h.get? u = some (kxs_mw i e)) (hrest : rest.length ≤ sizeLine)
    (hq : ∀ h' t1, (∀ b o, b ≠ e → h.get? b = some o → h'.get? b = some o) → h'.get? e = some (HandSPX.excO C t1) → Q .none ⟨h', g, d, t, os⟩) :
    wpAny (model prog w) A (call (.ref u) rest) Q E ⟨h, g, d, t, os⟩ := by
  refine wpAny_call (codeAny_of_tree ?_)
  show wpAny _ A.in1 (callAny (.ref u) ⟨rest, []⟩) _ _ _
  simp only [callAny]
  refine wpAny_bind (wpAny_load hu ?_)
  simp only [kxs_mw, show (Value.type "method-wrapper" == Value.type "method" || Value.type "method-wrapper" == Value.type "builtin_function_or_method" || Value.type "method-wrapper" == Value.type "method-wrapper") = true by decide, if_true]
  refine KFB.if_so (by decide) ?_
  refine wpAny_bind (check_bound_init F.toExcCallFacts hC he rfl ?_)
  refine wpAny_bind (wpAny_pure (wpAny_pure ?_))
  refine ⟨plainId_quiet F.init.plain _, codeAny_builtin F.initEntry ?_⟩
  rw [Around.under_plainId F.init.plain _]
  wp_walk
  refine hq _ h.objs.size (fun b o hb ho => ?_) ?_
  · rw [Heap.get?_update_other _ _ (Ne.symm hb)]
    exact Heap.get?_push_of_some _ ho
  · rw [Heap.get?_update_self _ (Heap.get?_push_of_some _ he) rfl]
    rfl
end
section
variable {prog : Program} {w : World} {A : Around} {E : Value → Shared → Prop}
/-- what the written part says of an own exception's __init__: D the class it was written in, C the object's class -/
structure IniK (prog : Program) (K : Frag) (C D f cc cda : Addr) (fd : FuncData) (sf : Str) : Prop where
  cls : ∃ nm q N bs bm sn sub ab col dd k0 k1 k2 k3 k5, K.lookup C = some (excClassObj nm q C N bs bm true sn sub ab col dd k0 k1 k2 k3 k5 "ValueError.__new__") ∧ HandSPX.refsVE bm = true
  fn : ∃ oc od osl, K.lookup f = some ⟨oc, od, .func fd, osl⟩
  par : ∃ ar, (fd.params.posonlyargs ++ fd.params.args).head? = some ar ∧ ar.arg = sf
  code : ∃ ccl cdd vs ccs file tf, K.lookup cda = some ⟨ccl, cdd, .fields vs, ccs⟩ ∧ vs[2]? = some (.str file tf) ∧ ((prog.main.file : Str) == file) = true
  cell : ∃ cl cld csl, K.lookup cc = some ⟨cl, cld, .cell (some (.ref D)), csl⟩
  clsD : (clsIn K D).isSome = true
  sub : mroIn K C (.ref D) = some true
  subV : subIn K (.ref C) (.type "ValueError") = some true
  opq : nsIn K cStatics "thirdparty.any" = some none
  init : ks_superIn K C D "__init__" = some (some (.builtin "ValueError.__init__"))
  top : (prog.main.scope.names.lookup ("super" : Str)).isSome = false
theorem ini_super {K : Frag} {C D e f cc cda t0 L : Addr} {fd : FuncData} {self txt q : Str} {scope : Scope} {mg mb m : Str → Option Value} {h : Heap} {g : Array GenState} {d : Drawn} {t : Nat} {os : OsState} {j : Nat} {p0 p1 p2 p3 p4 p5 : Pos} {body : List Stmt} {Q : Flow → Shared → Prop}
    (T : IniK prog K C D f cc cda fd self) (X : K.In h) (hn : h.Ns L m) (hv : m self = some (.ref e)) (he : h.get? e = some (HandSPX.excO C t0)) (hG : h.Ns mainGlobals mg) (hmg : mg "super" = none) (hB : h.Ns builtinsNs mb) (hmb : mb "super" = some (.type "super"))
    (hl : (p2.endLine == p4.line) = true) (hks : scope.names.lookup ("super" : Str) = some .globalImplicit) (hkc : scope.names.lookup ("__class__" : Str) = some .free) (hka : scope.names.lookup self = some .local) (hk : scope.kind = .function)
    (hq : ∀ h' t1 t', (∀ b o, b ≠ e → h.get? b = some o → h'.get? b = some o) → h'.get? e = some (HandSPX.excO C t1) → Q .next ⟨h', g, d, t', os⟩) :
    PySem.wpAt (model prog w) A (.func body (ksEnv q scope L f (.ref cda) cc)) (exec (.Expr (.Call (.Attribute (.Call (.Name "super" p0) [] [] p1) "__init__" p2) [.Constant (.str txt) j p3] [] p4) p5) (ksEnv q scope L f (.ref cda) cc)) Q E ⟨h, g, d, t, os⟩ := by
  obtain ⟨nm, qn, N, bs, bm, sn, sub, ab, col, dd, k0, k1, k2, k3, k5, hC, hbm⟩ := T.cls
  obtain ⟨oc, od, osl, hf⟩ := T.fn
  obtain ⟨ar, hp, ha⟩ := T.par
  obtain ⟨ccl, cdd, vs, ccs, file, tf, hcode, hvs, hfile⟩ := T.code
  obtain ⟨cl, cld, csl, hcell⟩ := T.cell
  obtain ⟨cdD, hD⟩ := Option.isSome_iff_exists.mp T.clsD
  have hcl : clsIn K C = some { name := nm, bases := bs, mro := .ref C :: bm, ns := N, qualname := qn, hasDict := true, slotNames := sn, subclasses := sub, abstract := ab, collection := col, hasDel := false } := by unfold clsIn; rw [hC] <;> rfl
  obtain ⟨oD, hD1, hD2⟩ : ∃ oD, h.get? D = some oD ∧ oD.data = .cls cdD := by
    unfold clsIn at hD
    split at hD
    · rename_i c d cd' sl ho
      cases hD
      exact ⟨_, X _ _ ho, rfl⟩
    · cases hD
  have I : InstAt h e (HandSPX.excO C t0) C none := ⟨he, rfl, rfl, trivial⟩
  refine ks_wpAt_Expr_any (ks_wpAt_MethodCall (pl := L2.plainOf (.Call (.Name "super" p0) [] [] p1) (ksEnv q scope L f (.ref cda) cc)) ?_ ?_) (by unfold interactive; simp [hk]) rfl
  rotate_left
  · rw [arm_eval_Call]
    refine bind_congr fun ov => ?_
    refine bind_congr fun _ => ?_
    exact L2.mcall_line rfl hl
  refine ks_wpAt_super_base (env := ksEnv q scope L f (.ref cda) cc) hks hkc (by decide) rfl (X _ _ hf) rfl hp rfl (X _ _ hcode) rfl hvs hfile T.top ?_
  refine ks_loadName_global hk hks (Calls.loadGlobal_builtin (env := ksEnv q scope L f (.ref cda) cc) hG hmg hB hmb ⟨rfl, ?_⟩)
  refine wpAny_loadName_free hk hkc rfl ⟨_, X _ _ hcell, rfl⟩ ?_
  refine wpAny_loadName_local hk (by rw [ha]; exact hka) hn (by rw [ha]; exact hv) ?_
  refine ks_wpAny_isType_cls hD1 hD2 ⟨rfl, ?_⟩
  refine ks_wpAny_call_super hD1 hD2 I.at_ I.cls (fun c z => by cases z) (looks_mroIn X T.sub) (fun h1 e1 k1 => ?_)
  have X1 : K.In h1 := X.keeps k1
  have I1 : InstAt h1 e (HandSPX.excO C t0) C none := ⟨k1 _ _ he, rfl, rfl, trivial⟩
  have hin := T.init
  unfold ks_superIn at hin
  rw [hcl] at hin
  refine kxs_getMethod kxs_ValueError e1 (looks_opaque X1 T.opq) (l₀ := .ref C :: bm) (fun A Q E s k q => wpAny_bind ((looks_clsIn X1 hcl) A _ E s k (wpAny_pure q))) rfl X1 hin (I1.type.andThen (looks_subIn X1 T.subV)) (ks_ne X1 I1 hcl) (by decide) ?_
  refine kxs_callWith (i := "ValueError.__init__") (x := e) rfl ?_
  refine Calls.evalArgs_plain (Calls.spliced_cons (wpAny_Constant_str (k := j) (pos := p3) ?_))
  refine Calls.spliced_nil ?_
  have k2 : ∀ b o, h1.get? b = some o → (h1.push (kxs_mw "ValueError.__init__" e)).get? b = some o := fun b o z => Heap.get?_push_of_some _ z
  have hu : (h1.push (kxs_mw "ValueError.__init__" e)).get? h1.objs.size = some (kxs_mw "ValueError.__init__" e) := Heap.get?_push_at rfl rfl
  refine ⟨hu, ?_⟩
  refine call_mw F.excBase_ValueError (k2 _ _ (X1 _ _ hC)) (k2 _ _ (k1 _ _ he)) hu (by show 1 ≤ sizeLine; rw [sizeLine_eq]; omega) fun h' t1 kk e' => ?_
  exact hq h' t1 _ (fun b o hb z => kk b o hb (k2 _ _ (k1 _ _ z))) e'
end
/-- the stores behind it: self.f = x, .. -/
def iniTail (sf : Str) : List (Str × Str) → List Stmt → Bool
  | [], b => b.isEmpty
  | (f, x) :: r, b => match b with
    | .Assign [.Attribute (.Name s _) g _] (.Name y _) _ :: t => decide (s = sf) && (decide (g = f) && (decide (y = x) && iniTail sf r t))
    | _ => false
def putM (m : Str → Option Value) : List (Str × Str) → (Str → Option Value) → Str → Option Value
  | [], a => a
  | (f, x) :: r, a => putM m r (fun y => if y = f then m x else a y)
/-- the exception's own dict -/
def DSt (h0 h : Heap) (e : Addr) : Option Addr → (Str → Option Value) → Prop
  | none, mA => mA = fun _ => none
  | some dx, mA => h.Ns1 dx mA ∧ h0.get? dx = none ∧ dx ≠ e
/-- behind the stores -/
def IniPost (h0 : Heap) (C e t1 : Addr) (g : Array GenState) (d : Drawn) (os : OsState) (mA : Str → Option Value) (fl : Flow) (s' : Shared) : Prop :=
  fl = .next ∧ ∃ h' t' od', s' = ⟨h', g, d, t', os⟩ ∧ (∀ b o, b ≠ e → h0.get? b = some o → h'.get? b = some o) ∧ h'.get? e = some ({ cls := .ref C, dict := od', data := .fields #[.ref t1, .none, .none, .none, .bool false, .none] } : Obj) ∧ DSt h0 h' e od' mA
abbrev exI (C t1 : Addr) (od : Option Addr) : Obj := { cls := .ref C, dict := od, data := .fields #[.ref t1, .none, .none, .none, .bool false, .none] }
section
variable {prog : Program} {w : World} {A : Around} {E : Value → Shared → Prop} {K : Frag} {C e t1 L : Addr} {sf : Str} {h0 : Heap} {env : Env} {m : Str → Option Value} {g : Array GenState} {d : Drawn} {os : OsState}
theorem ini_tail {cd : ClassData} (hcd : clsIn K C = some cd) (hm : HandSPX.refsVE cd.mro = true) (hh : cd.hasDict = true) (hsa : findIn K (.ref C) "__setattr__" = some (some (.builtin "object.__setattr__")))
    (hk : env.scope.kind = .function) (hL : env.locals = L) (hn : h0.Ns L m) (hLe : L ≠ e) (hsf : m sf = some (.ref e)) (hsk : env.kindOf sf = some .local) (hsd : (sf == ("__debug__" : Str)) = false) (X : K.In h0) (hCe : h0.get? e = none ∨ K.lookup e = none) :
    ∀ (fs : List (Str × Str)) (body : List Stmt) (h : Heap) (t : Nat) (od : Option Addr) (mA : Str → Option Value) (nl : List Str), iniTail sf fs body = true →
      (∀ b o, b ≠ e → h0.get? b = some o → h.get? b = some o) → h.get? e = some (exI C t1 od) → DSt h0 h e od mA → Within mA nl → nl.length + fs.length ≤ 900 →
      (∀ p ∈ fs, env.kindOf p.2 = some .local ∧ (p.2 == ("__debug__" : Str)) = false ∧ (∃ v, m p.2 = some v) ∧ findIn K (.ref C) p.1 = some none) →
      wpAny (model prog w) A (execs body env) (IniPost h0 C e t1 g d os (putM m fs mA)) E ⟨h, g, d, t, os⟩
  | [], body, h, t, od, mA, nl, hb, kp, he, hd, hw, hl, hf => by
    cases body with
    | nil => exact wpAny_execs_nil ⟨rfl, h, t, od, rfl, kp, he, hd⟩
    | cons _ _ => cases hb
  | (f, x) :: r, body, h, t, od, mA, nl, hb, kp, he, hd, hw, hl, hf => by
    unfold iniTail at hb
    split at hb
    · rename_i s p1 g2 p2 y p3 p4 tl
      simp only [Bool.and_eq_true, decide_eq_true_eq] at hb
      obtain ⟨e1, e2, e3, hb⟩ := hb
      subst s
      subst g2
      subst y
      obtain ⟨k1, k2, ⟨v, hv⟩, k3⟩ := hf (f, x) List.mem_cons_self
      have nsL : ∀ {h' : Heap}, (∀ b o, b ≠ e → h0.get? b = some o → h'.get? b = some o) → h'.Ns env.locals m := fun {h'} k => by
        rw [hL]
        obtain ⟨oL, es, ep, q1, q2⟩ := hn
        exact ⟨oL, es, ep, k _ _ hLe q1, q2⟩
      have XH : ∀ {h' : Heap}, (∀ b o, b ≠ e → h0.get? b = some o → h'.get? b = some o) → K.In h' := fun {h'} k b o q => by
        refine k b o (fun z => ?_) (X b o q)
        subst z
        rcases hCe with z | z
        · have := X _ _ q; rw [z] at this; cases this
        · rw [z] at q; cases q
      refine wpAny_execs_cons (plainObj_wpAny_Assign_Attribute (ESX.ldL (nsL kp) hv (ESX.ldL (nsL kp) hsf ?_ hk hsk hsd) hk k1 k2))
      have nxt : ∀ (h' : Heap) (t' : Nat) (od' : Option Addr), (∀ b o, b ≠ e → h0.get? b = some o → h'.get? b = some o) → h'.get? e = some (exI C t1 od') → DSt h0 h' e od' (fun z => if z = f then m x else mA z) → wpAny (model prog w) A (execs tl env) (IniPost h0 C e t1 g d os (putM m r (fun z => if z = f then m x else mA z))) E ⟨h', g, d, t', os⟩ :=
        fun h' t' od' kp' he' hd' => ini_tail hcd hm hh hsa hk hL hn hLe hsf hsk hsd X hCe r tl h' t' od' _ (f :: nl) hb kp' he' hd' (fun z hz => by
          by_cases q : z = f
          · rw [q]; exact List.mem_cons_self
          · rw [if_neg q] at hz; exact List.mem_cons_of_mem _ (hw z hz)) (by simp at hl ⊢; omega) fun p hp => hf p (List.mem_cons_of_mem _ hp)
      cases od with
      | none =>
        have hd : mA = fun _ => none := hd
        refine set_plain (XH kp) (ox := exI C t1 none) (od := none) ⟨he, rfl, rfl, trivial⟩ hsa ?_
        refine HandSPX.exc_osa (XH kp) he hcd hm hh k3 (fun h' tk' dx k dn dne hx hns => ?_)
        refine nxt h' tk' (some dx) (fun b o hb q => k b o hb (kp b o hb q)) hx ⟨?_, ?_, dne⟩
        · rw [hv, hd]; exact hns
        · cases q : h0.get? dx with
          | none => rfl
          | some o => exact absurd (Heap.lt_size (kp dx o dne q)) (Nat.not_lt.mpr dn)
      | some dx =>
        obtain ⟨hns, d0, dne⟩ := hd
        obtain ⟨oD, _, _, hoD, _, _⟩ := hns.count hw
        refine set_plain (XH kp) (ox := exI C t1 (some dx)) (od := some oD) ⟨he, rfl, rfl, hoD⟩ hsa ?_
        refine OEX.osa_old (XH kp) he hns hw (by simp at hl; omega) hcd hm hh k3 (fun h' tk' k hns' => ?_)
        refine nxt h' tk' (some dx) (fun b o hb q => k b o (fun z => by rw [z, d0] at q; cases q) (kp b o hb q)) (k _ _ (Ne.symm dne) he) ⟨?_, d0, dne⟩
        rw [hv]; exact hns'
    · cases hb
end
section
variable {prog : Program} {w : World} {A : Around} {R : Result → Shared → Prop}
/-- the whole of it, called -/
theorem ini_code {K : Frag} {C D e f cc cda t0 : Addr} {oc : Value} {od : Option Addr} {osl : Array (Option Value)} {name qual self txt : Str} {params : Arguments} {scope : Scope} {dV kV doc pm ct : Value} {an : Option Addr} {mg mb : Str → Option Value} {h : Heap} {g : Array GenState} {d : Drawn} {t : Nat} {os : OsState} {j : Nat} {p0 p1 p2 p3 p4 p5 : Pos} {tl : List Stmt} {fs : List (Str × Str)}
    {args : Args} {binds : List (Str × Value)}
    (T : IniK prog K C D f cc cda (ksFn name qual params (.Expr (.Call (.Attribute (.Call (.Name "super" p0) [] [] p1) "__init__" p2) [.Constant (.str txt) j p3] [] p4) p5 :: tl) scope dV kV doc pm an (.ref cda) ct cc) self)
    (ho : K.lookup f = some ⟨oc, od, .func (ksFn name qual params (.Expr (.Call (.Attribute (.Call (.Name "super" p0) [] [] p1) "__init__" p2) [.Constant (.str txt) j p3] [] p4) p5 :: tl) scope dV kV doc pm an (.ref cda) ct cc), osl⟩)
    (hcd : codeIn K (.ref cda) qual = true) (hsa : findIn K (.ref C) "__setattr__" = some (some (.builtin "object.__setattr__")))
    (X : K.In h) (hKe : K.lookup e = none) (hlim : h.NoLimit) (he : h.get? e = some (HandSPX.excO C t0)) (hG : h.Ns mainGlobals mg) (hmg : mg "super" = none) (hB : h.Ns builtinsNs mb) (hmb : mb "super" = some (.type "super"))
    (hroom : A.depth < recursionLimit) (hbind : BindsTo ⟨h, g, d, t, os⟩ (ksFn name qual params (.Expr (.Call (.Attribute (.Call (.Name "super" p0) [] [] p1) "__init__" p2) [.Constant (.str txt) j p3] [] p4) p5 :: tl) scope dV kV doc pm an (.ref cda) ct cc) args binds)
    (hloc : ∀ y ∈ binds, scope.names.lookup y.1 = some .local) (hcell : ∀ x ∈ scope.names, x.2 ≠ .cell) (hco : scope.isCoroutine = false) (hgen : scope.isGenerator = false)
    (hl : (p2.endLine == p4.line) = true) (hks : scope.names.lookup ("super" : Str) = some .globalImplicit) (hkc : scope.names.lookup ("__class__" : Str) = some .free) (hka : scope.names.lookup self = some .local) (hsd : (self == ("__debug__" : Str)) = false) (hk : scope.kind = .function)
    (htl : iniTail self fs tl = true) (hfl : fs.length ≤ 900) (hv : binds.reverse.lookup self = some (.ref e))
    (hf : ∀ p ∈ fs, scope.names.lookup p.2 = some .local ∧ (p.2 == ("__debug__" : Str)) = false ∧ (∃ v, binds.reverse.lookup p.2 = some v) ∧ findIn K (.ref C) p.1 = some none)
    (hq : ∀ h' t1 t' od', (∀ b o, b ≠ e → h.get? b = some o → h'.get? b = some o) → h'.get? e = some (exI C t1 od') → DSt h h' e od' (putM (fun x => binds.reverse.lookup x) fs fun _ => none) → R (.ok (.ret .none)) ⟨h', g, d, t', os⟩) :
    codeAny (model prog w) A (.call (.ref f) args) R ⟨h, g, d, t, os⟩ := by
  obtain ⟨nm, qn, N, bs, bm, sn, sub, ab, col, dd, k0, k1, k2, k3, k5, hC, hbm⟩ := T.cls
  have hcl : clsIn K C = some { name := nm, bases := bs, mro := .ref C :: bm, ns := N, qualname := qn, hasDict := true, slotNames := sn, subclasses := sub, abstract := ab, collection := col, hasDel := false } := by unfold clsIn; rw [hC] <;> rfl
  refine ks_codeAny_call_defAt (fd := ksFn name qual params _ scope dV kV doc pm an (.ref cda) ct cc) (binds := binds) hroom (X _ _ ho) rfl hlim (codeRec_of X hcd) rfl hbind hcell hloc (fun h₁ hns hk₁ => ?_) hco hgen hk
  have ns1 : ∀ {a : Addr} {m : Str → Option Value}, h.Ns a m → h₁.Ns a m := fun {a m} q => by
    obtain ⟨oL, es, ep, q1, q2⟩ := q
    exact ⟨oL, es, ep, hk₁ _ _ q1, q2⟩
  have hLe : h.objs.size ≠ e := fun z => by
    have := Heap.lt_size he
    rw [← z] at this
    exact absurd this (Nat.lt_irrefl _)
  refine ks_wpAt_execs_cons ?_
  refine ini_super (K := K) (L := h.objs.size) (self := self) T (X.keeps hk₁) hns hv (hk₁ _ _ he) (ns1 hG) hmg (ns1 hB) hmb hl hks hkc hka hk fun h2 t1 t2 kk2 he2 => ?_
  refine wpAt_of_wpAny ?_
  refine wpAny_mono (ini_tail (K := K) (C := C) (e := e) (t1 := t1) (L := h.objs.size) (sf := self) (h0 := h₁) (env := ksEnv qual scope h.objs.size f (.ref cda) cc) hcl (show HandSPX.refsVE (.ref C :: bm) = true from hbm) rfl hsa hk rfl hns hLe hv hka hsd (X.keeps hk₁) (.inr hKe) fs tl h2 t2 none (fun _ => none) [] htl kk2 he2 rfl (fun z hz => absurd rfl hz) (by simpa using hfl) hf) ?_ (fun _ _ z => z)
  rintro fl s' ⟨rfl, h', t', od', rfl, kp, he', hd⟩
  refine hq h' t1 t' od' (fun b o hb z => kp b o hb (hk₁ _ _ z)) he' ?_
  cases od' with
  | none => exact hd
  | some dx =>
    refine ⟨hd.1, ?_, hd.2.2⟩
    cases q : h.get? dx with
    | none => rfl
    | some o => have := hk₁ _ _ q; rw [hd.2.1] at this; cases this
end
end PD
set_option maxHeartbeats 2000000
/-! XI2: an own exception made: C(x, ..) -/
namespace PD
open PySem PySem.Spec PyProof.Rows L2
/-- the fields behind __init__: the last one first -/
def fldV (vs : List V) (fs : List (Str × Nat)) : List (Str × V) := fs.foldl (fun acc p => match vs[p.2]? with | some v => (p.1, v) :: acc | none => acc) []
/-- C's instances are made of np values, field f holds the i-th -/
structure ExMk (P : Program) (w : World) (K : PySem.W.Frag) (mg : Str → Option Value) (base : Heap) (C : Addr) (np : Nat) (fs : List (Str × Nat)) : Prop where
  oex : OexC K C
  ne : fs ≠ []
  ix : ∀ p ∈ fs, p.2 < np
  small : np ≤ 1000
  make : ∃ fI, PySem.W.findIn K (.ref C) "__init__" = some (some (.ref fI)) ∧ PySem.W.typeIn K (.ref fI) = some (.type "function") ∧
    ∀ (A : Around) (h : Heap) (g : Array GenState) (d : Drawn) (t : Nat) (os : OsState) (e t0 : Addr) (us : List Value) (R : Result → Shared → Prop), us.length = np → (∀ b o, base.get? b = some o → h.get? b = some o) → base.get? e = none →
      h.get? e = some (HandSPX.excO C t0) → A.depth < recursionLimit →
      (∀ h' t1 t' dx mA, (∀ b o, b ≠ e → h.get? b = some o → h'.get? b = some o) → h'.get? e = some (exI C t1 (some dx)) → h'.Ns1 dx mA → h.get? dx = none → dx ≠ e → (∀ vs, Vals vs us → ∀ f, RelO ((fldV vs fs).lookup f) (mA f)) → R (.ok (.ret .none)) ⟨h', g, d, t', os⟩) →
      codeAny (model P w) A (.call (.ref fI) ⟨.ref e :: us, []⟩) R ⟨h, g, d, t, os⟩
section
variable {X : Cx} {pins : List (Addr × Obj)} {σ : L2.St} {H : Hp} {s : Shared} {C : Addr} {np k : Nat} {fs : List (Str × Nat)} {Q : XK}
theorem fldV_lk {vs : List V} {f : Str} : ∀ {fs : List (Str × Nat)} {acc : List (Str × V)}, (fs.foldl (fun acc p => match vs[p.2]? with | some v => (p.1, v) :: acc | none => acc) acc).lookup f = (fs.foldl (fun o p => match vs[p.2]? with | some v => if f = p.1 then some v else o | none => o) (acc.lookup f))
  | [], _ => rfl
  | p :: fs, acc => by
    rw [List.foldl_cons, List.foldl_cons, fldV_lk]
    congr 1
    cases vs[p.2]? with
    | none => rfl
    | some v => exact lookup_put p.1 f v acc
/-- C(x, ..), the values given -/
theorem mk_ini {us : List Value} {vs : List V} (T : ExMk X.prog X.w X.K X.mg X.base C np fs) (I : Inv X pins σ H s) (r : Vals vs us) (hl : vs.length = np) (hr : X.A.depth + 5 < recursionLimit) (q : ∀ d, H d = none → Q (.ref C) (some d) (upd H d (.xd (fldV vs fs)))) :
    wpAny (model X.prog X.w) X.A (call (.ref C) us) (MkP X pins σ Q) X.xe s := by
  obtain ⟨nm, qn, N, bs, bm, sn, sub, ab, col, dd, k0, k1, k2, k3, k5, hC, hbm⟩ := T.oex.cls
  obtain ⟨fI, iC, tI, run⟩ := T.make
  obtain ⟨hp, g, dr, tk, os⟩ := s
  have hus : us.length = np := by rw [← Paired.length r]; exact hl
  have hsz : hp.objs.size ≤ hp.objs.size + 1 := Nat.le_succ _
  have hn : H (hp.objs.size + 1) = none := I.hok.fresh hsz
  have kk : ∀ b o, hp.get? b = some o → ((hp.push (PySem.W.kdv_tup us)).push (PySem.HandSPX.excO C hp.objs.size)).get? b = some o := fun b o e => Heap.get?_push_of_some _ (Heap.get?_push_of_some _ e)
  have hget : ((hp.push (PySem.W.kdv_tup us)).push (PySem.HandSPX.excO C hp.objs.size)).get? (hp.objs.size + 1) = some (PySem.HandSPX.excO C hp.objs.size) := by heap_get
  have he0 : hp.get? (hp.objs.size + 1) = none := by
    cases z : hp.get? (hp.objs.size + 1) with
    | none => rfl
    | some o => exact absurd (Nat.lt_trans (Nat.lt_succ_self _) (Heap.lt_size z)) (Nat.lt_irrefl _)
  have hb0 : X.base.get? (hp.objs.size + 1) = none := by
    cases z : X.base.get? (hp.objs.size + 1) with
    | none => rfl
    | some o => have := I.bk _ _ z; rw [he0] at this; cases this
  refine wpAny_call (PySem.HandSPX.call_own F.excBase_ValueError (fun Y => PySem.HandSPX.refsVE_contains Y bm hbm) (I.kIn _ _ hC) (PySem.W.looks_findIn I.kIn iC) (fun self => PySem.W.bind_fn I.kIn self tI) (by rw [sizeLine_eq]; have := T.small; omega) ?_)
  refine run _ _ g dr tk os (hp.objs.size + 1) hp.objs.size us _ hus (fun b o z => kk b o (I.bk _ _ z)) hb0 hget (by rw [make_depth]; omega) fun h' t1 t' dx mA kp he hns hdx dne rel => ?_
  have hpe : ∀ b o, hp.get? b = some o → b ≠ hp.objs.size + 1 := fun b o z e => by rw [e, he0] at z; cases z
  have hdp : hp.get? dx = none := by
    cases z : hp.get? dx with
    | none => rfl
    | some o => have := kk _ _ z; rw [hdx] at this; cases this
  have hdH : H dx = none := I.hok.gone hdp
  obtain ⟨G, g1', g2'⟩ := restrict h' fun b => decide (b ≠ hp.objs.size + 1)
  have gk : ∀ b, b ≠ hp.objs.size + 1 → G.get? b = h'.get? b := fun b hb => g1' b (decide_eq_true hb)
  have ge : G.get? (hp.objs.size + 1) = none := g2' _ (by simp)
  have J : Inv X pins σ (upd H dx (.xd (fldV vs fs))) ⟨G, g, dr, t', os⟩ := by
    refine I.laidN (h' := G) (t' := t') (fun b o z => ?_) hdp hdH ?_
    · rw [gk b (hpe b o z)]; exact kp b o (hpe b o z) (kk b o z)
    · exact ⟨mA, hns.at fun o y => (gk dx dne).trans y, rel vs r⟩
  refine ⟨rfl, hp.objs.size + 1, _, _, ⟨G, g, dr, t', os⟩, _, .ref C, some dx, rfl, J, fun b o z => ?_, ge, he, ⟨rfl, rfl⟩, rfl, rfl, ?_, rfl, I.bare, raises_own T.oex.exC T.oex.tyC, q dx hdH⟩
  · have hb : b ≠ hp.objs.size + 1 := fun e => by rw [e] at z; rw [show (⟨G, g, dr, t', os⟩ : Shared).heap = G from rfl, ge] at z; cases z
    exact (gk b hb).symm.trans z
  · rw [upd_ne (Ne.symm dne)]; exact hn
end
end PD
set_option maxHeartbeats 2000000
/-! XI3: the check of an own exception's class -/
namespace PD
open PySem PySem.Spec PyProof.Rows L2
theorem ba' {a b : Bool} (h : (a && b) = true) : a = true ∧ b = true := Bool.and_eq_true_iff.mp h
/-- a class over ValueError, by its mro -/
def exC (K : PySem.W.Frag) (C : Addr) : Bool := match K.lookup C with
  | some ⟨.type "type", _, .cls cd, sl⟩ => (match cd.mro, sl.toList with
    | .ref C' :: bm, [_, _, _, _, some (.builtin n), _] => decide (C' = C) && (decide (n = "ValueError.__new__") && (!cd.hasDel && (cd.hasDict && HandSPX.refsVE bm)))
    | _, _ => false)
  | _ => false
theorem exC_ok {K : PySem.W.Frag} {C : Addr} (h : exC K C = true) : ∃ nm q N bs bm sn sub ab col dd k0 k1 k2 k3 k5, K.lookup C = some (excClassObj nm q C N bs bm true sn sub ab col dd k0 k1 k2 k3 k5 "ValueError.__new__") ∧ HandSPX.refsVE bm = true := by
  unfold exC at h
  split at h
  · rename_i dd cd sl ho
    split at h
    · rename_i C' bm k0 k1 k2 k3 n k5 hm hs
      obtain ⟨h1, h⟩ := ba' h
      obtain ⟨h2, h⟩ := ba' h
      obtain ⟨h3, h⟩ := ba' h
      obtain ⟨h4, h5⟩ := ba' h
      have h1 := of_decide_eq_true h1
      have h2 := of_decide_eq_true h2
      subst h1 h2
      obtain ⟨nm, bs, mro, ns, qn, hd, sn, sub, ab, col, del⟩ := cd
      dsimp only at hm h3 h4
      have h3 : del = false := by simpa using h3
      subst hm h3 h4
      have hsl : sl = #[k0, k1, k2, k3, some (.builtin "ValueError.__new__"), k5] := by
        obtain ⟨l⟩ := sl
        simp only at hs
        rw [hs]
      subst hsl
      exact ⟨nm, qn, ns, bs, bm, sn, sub, ab, col, dd, k0, k1, k2, k3, k5, ho, h5⟩
    · cases h
  · cases h
def oexB (K : PySem.W.Frag) (C : Addr) : Bool := exC K C && (decide (PySem.W.findIn K (.ref C) "__setattr__" = some (some (.builtin "object.__setattr__"))) && (decide (PySem.W.subIn K (.ref C) (.type "BaseException") = some true) &&
  (decide (PySem.W.typeIn K (.ref C) = some (.type "type")) && PySem.W.keepIn K (.ref C))))
theorem oexB_ok {K : PySem.W.Frag} {C : Addr} (h : oexB K C = true) : OexC K C := by
  obtain ⟨h1, h⟩ := ba' h
  obtain ⟨h2, h⟩ := ba' h
  obtain ⟨h3, h⟩ := ba' h
  obtain ⟨h4, h5⟩ := ba' h
  exact ⟨exC_ok h1, of_decide_eq_true h2, of_decide_eq_true h3, of_decide_eq_true h4, h5⟩
/-- super().__init__('text') -/
def supB : Stmt → Bool
  | .Expr (.Call (.Attribute (.Call (.Name a _) [] [] _) b p2) [.Constant (.str _) _ _] [] p4) _ => decide (a = ("super" : Str)) && (decide (b = ("__init__" : Str)) && (p2.endLine == p4.line))
  | _ => false
theorem supB_ok {x : Stmt} (h : supB x = true) : ∃ p0 p1 p2 p3 p4 p5 txt j, x = .Expr (.Call (.Attribute (.Call (.Name "super" p0) [] [] p1) "__init__" p2) [.Constant (.str txt) j p3] [] p4) p5 ∧ (p2.endLine == p4.line) = true := by
  unfold supB at h
  split at h
  · rename_i a p0 p1 b p2 txt j p3 p4 p5
    obtain ⟨h1, h⟩ := ba' h
    obtain ⟨h2, h3⟩ := ba' h
    have h1 := of_decide_eq_true h1
    have h2 := of_decide_eq_true h2
    subst h1 h2
    exact ⟨_, _, _, _, _, _, _, _, rfl, h3⟩
  · cases h
theorem bind2 {fd : FuncData} {a b : Str} {x1 x2 : Option Expr} {p1 p2 : Pos} {kd : List (Option Expr)} {df : List Expr} {u v : Value} (h : fd.params = ⟨[], [⟨a, x1, p1⟩, ⟨b, x2, p2⟩], none, [], kd, none, df⟩) (hd : fd.defaults = .none) (hab : a ≠ b) :
    bindArgs fd ⟨[u, v], []⟩ = pure [(a, u), (b, v)] := by
  have e1 : (b == a) = false := by simpa using Ne.symm hab
  unfold bindArgs
  rw [h, hd]
  simp [seqItems?, List.lookup, e1]
  rfl
theorem bind3 {fd : FuncData} {a b c : Str} {x1 x2 x3 : Option Expr} {p1 p2 p3 : Pos} {kd : List (Option Expr)} {df : List Expr} {u v z : Value} (h : fd.params = ⟨[], [⟨a, x1, p1⟩, ⟨b, x2, p2⟩, ⟨c, x3, p3⟩], none, [], kd, none, df⟩) (hd : fd.defaults = .none) (hab : a ≠ b) (hac : a ≠ c) (hbc : b ≠ c) :
    bindArgs fd ⟨[u, v, z], []⟩ = pure [(a, u), (b, v), (c, z)] := by
  have e1 : (b == a) = false := by simpa using Ne.symm hab
  have e2 : (c == a) = false := by simpa using Ne.symm hac
  have e3 : (c == b) = false := by simpa using Ne.symm hbc
  unfold bindArgs
  rw [h, hd]
  simp [seqItems?, List.lookup, e1, e2, e3]
  rfl
end PD
set_option maxHeartbeats 2000000
/-! XI4: .. and its __init__ -/
namespace PD
open PySem PySem.Spec PyProof.Rows L2
theorem rel_put {m : Str → Option Value} {vs : List V} {nm : Nat → Str} : ∀ {fs : List (Str × Nat)} {acc : List (Str × V)} {a : Str → Option Value}, (∀ f, RelO (acc.lookup f) (a f)) → (∀ p ∈ fs, ∃ v u, vs[p.2]? = some v ∧ m (nm p.2) = some u ∧ RelV v u) →
    ∀ f, RelO ((fs.foldl (fun acc p => match vs[p.2]? with | some v => (p.1, v) :: acc | none => acc) acc).lookup f) (putM m (fs.map fun p => (p.1, nm p.2)) a f)
  | [], acc, a, h, _ => h
  | p :: fs, acc, a, h, hf => by
    obtain ⟨v, u, e1, e2, r⟩ := hf p List.mem_cons_self
    rw [List.foldl_cons, List.map_cons]
    unfold putM
    refine rel_put (fun f => ?_) fun q hq => hf q (List.mem_cons_of_mem _ hq)
    rw [e1, e2]
    exact relO_put r h f
/-- one, two parameters behind self -/
def arNames (p : Arguments) : List Str := match p with
  | ⟨[], [⟨a, _, _⟩, ⟨b, _, _⟩], none, [], _, none, _⟩ => if a = b then [] else [a, b]
  | ⟨[], [⟨a, _, _⟩, ⟨b, _, _⟩, ⟨c, _, _⟩], none, [], _, none, _⟩ => if a = b ∨ a = c ∨ b = c then [] else [a, b, c]
  | _ => []
theorem arNames_bind {fd : FuncData} {ns : List Str} {us : List Value} {e : Value} (h : arNames fd.params = ns) (hne : ns ≠ []) (hd : fd.defaults = .none) (hl : us.length + 1 = ns.length) : bindArgs fd ⟨e :: us, []⟩ = pure (ns.zip (e :: us)) ∧ ns.Nodup ∧ (∃ ar, (fd.params.posonlyargs ++ fd.params.args).head? = some ar ∧ ns.head? = some ar.arg) := by
  unfold arNames at h
  split at h
  · rename_i a x1 p1 b x2 p2 kd df hp
    split at h
    · exact absurd h.symm hne
    · rename_i hab
      subst h
      obtain ⟨u, rfl⟩ : ∃ u, us = [u] := by
        match us, hl with
        | [u], _ => exact ⟨u, rfl⟩
      refine ⟨bind2 hp hd hab, by simp [hab], ⟨a, x1, p1⟩, by rw [hp]; rfl, rfl⟩
  · rename_i a x1 p1 b x2 p2 c x3 p3 kd df hp
    split at h
    · exact absurd h.symm hne
    · rename_i hab
      subst h
      obtain ⟨u, v, rfl⟩ : ∃ u v, us = [u, v] := by
        match us, hl with
        | [u, v], _ => exact ⟨u, v, rfl⟩
      have h1 : a ≠ b := fun z => hab (.inl z)
      have h2 : a ≠ c := fun z => hab (.inr (.inl z))
      have h3 : b ≠ c := fun z => hab (.inr (.inr z))
      refine ⟨bind3 hp hd h1 h2 h3, by simp [h1, h2, h3], ⟨a, x1, p1⟩, by rw [hp]; rfl, rfl⟩
  · exact absurd h.symm hne
def cdB (K : PySem.W.Frag) (file : Str) (cda : Addr) : Bool := match K.lookup cda with
  | some ⟨_, _, .fields vs, _⟩ => (match (vs[2]? : Option Value) with
    | some (.str fl _) => decide (fl = file)
    | _ => false)
  | _ => false
def clB (K : PySem.W.Frag) (C cc : Addr) : Bool := match K.lookup cc with
  | some ⟨_, _, .cell (some (.ref D)), _⟩ => (PySem.W.clsIn K D).isSome && (decide (PySem.W.mroIn K C (.ref D) = some true) && decide (PySem.W.ks_superIn K C D "__init__" = some (some (.builtin "ValueError.__init__"))))
  | _ => false
def scB (sc : Scope) (ns : List Str) : Bool := decide (sc.names.lookup ("super" : Str) = some .globalImplicit) && (decide (sc.names.lookup ("__class__" : Str) = some .free) && (ns.all (fun x => decide (sc.names.lookup x = some .local) && !(x == ("__debug__" : Str))) &&
  ((sc.names.all fun y => decide (y.2 ≠ .cell)) && (decide (sc.kind = .function) && (!sc.isCoroutine && !sc.isGenerator)))))
def flB (K : PySem.W.Frag) (C : Addr) (np : Nat) (fs : List (Str × Nat)) : Bool := !fs.isEmpty && (Nat.ble fs.length 900 && fs.all fun p => Nat.blt p.2 np && decide (PySem.W.findIn K (.ref C) p.1 = some none))
def fnB (K : PySem.W.Frag) (file : Str) (C : Addr) (np : Nat) (fs : List (Str × Nat)) (f : Addr) : Bool := match K.lookup f with
  | some ⟨.type "function", _, .func ⟨_, qual, params, .stmts (s0 :: tl), scope, gl, [(cn, cc)], .none, _, _, _, _, .ref cda, _, bl⟩, _⟩ =>
    decide (gl = mainGlobals) && (decide (bl = builtinsNs) && (decide (cn = ("__class__" : Str)) && (supB s0 && (decide ((arNames params).length = np + 1) && (Nat.ble 1 np &&
      (iniTail ((arNames params).headD Str.empty) (fs.map fun p => (p.1, (arNames params).getD (p.2 + 1) Str.empty)) tl && (PySem.W.codeIn K (.ref cda) qual && (cdB K file cda && (clB K C cc && scB scope (arNames params))))))))))
  | _ => false
/-- the class at C is one of those -/
def iniB (K : PySem.W.Frag) (file : Str) (C : Addr) (np : Nat) (fs : List (Str × Nat)) : Bool := oexB K C && (flB K C np fs && (decide (PySem.W.subIn K (.ref C) (.type "ValueError") = some true) && (decide (PySem.W.nsIn K cStatics "thirdparty.any" = some none) &&
  match PySem.W.findIn K (.ref C) "__init__" with
  | some (some (.ref f)) => fnB K file C np fs f
  | _ => false)))
end PD
set_option maxHeartbeats 2000000
/-! XI5: the check is right -/
namespace PD
open PySem PySem.Spec PyProof.Rows L2
theorem lk_mem {β : Type} {x : Str} {v : β} : ∀ {l : List (Str × β)}, (x, v) ∈ l → (∀ w, (x, w) ∈ l → w = v) → l.lookup x = some v
  | [], h, _ => by cases h
  | (y, w) :: l, h, u => by
    rw [List.lookup_cons]
    by_cases e : x = y
    · subst e
      simp only [beq_self_eq_true]
      rw [u w List.mem_cons_self]
    · have e' : (x == y) = false := by simpa using e
      simp only [e']
      refine lk_mem ?_ fun z hz => u z (List.mem_cons_of_mem _ hz)
      rcases List.mem_cons.mp h with q | q
      · cases q; exact absurd rfl e
      · exact q
theorem zip_at {x : Str} {v : Value} {ns : List Str} {vs : List Value} (h : (x, v) ∈ ns.zip vs) : ∃ i : Nat, ns[i]? = some x ∧ vs[i]? = some v := by
  obtain ⟨i, e⟩ := List.mem_iff_getElem?.mp h
  rw [List.getElem?_zip_eq_some] at e
  exact ⟨i, e⟩
theorem zip_lk {ns : List Str} {vs : List Value} (hn : ns.Nodup) {i : Nat} {x : Str} {v : Value} (h1 : ns[i]? = some x) (h2 : vs[i]? = some v) : (ns.zip vs).reverse.lookup x = some v := by
  refine lk_mem (List.mem_reverse.mpr (List.mem_iff_getElem?.mpr ⟨i, List.getElem?_zip_eq_some.mpr ⟨h1, h2⟩⟩)) fun w hw => ?_
  obtain ⟨j, e1, e2⟩ := zip_at (List.mem_reverse.mp hw)
  obtain ⟨a, e⟩ := List.getElem?_eq_some_iff.mp h1
  obtain ⟨b, e'⟩ := List.getElem?_eq_some_iff.mp e1
  have : i = j := (List.getElem_inj hn).mp (e.trans e'.symm)
  subst this
  rw [h2] at e2
  exact (Option.some.inj e2).symm
theorem putM_some {m : Str → Option Value} {y : Str} : ∀ {fs : List (Str × Str)} {a : Str → Option Value}, (∀ q ∈ fs, (m q.2).isSome = true) → (a y).isSome = true → (putM m fs a y).isSome = true
  | [], a, _, h => h
  | (f, x) :: r, a, hs, h => by
    unfold putM
    refine putM_some (fun q hq => hs q (List.mem_cons_of_mem _ hq)) ?_
    by_cases e : y = f
    · simp only [e, if_true]
      exact hs (f, x) List.mem_cons_self
    · simp only [e, if_false]
      exact h
theorem iniB_ok {P : Program} {w : World} {K : PySem.W.Frag} {mg : Str → Option Value} {base : Heap} {file : Str} {C : Addr} {np : Nat} {fs : List (Str × Nat)} (h : iniB K file C np fs = true) (M : Mod K mg base) (hmg : mg "super" = none) (hfile : (P.main.file : Str) = file)
    (htop : (P.main.scope.names.lookup ("super" : Str)).isSome = false) : ExMk P w K mg base C np fs := by
  obtain ⟨o1, h⟩ := ba' h
  obtain ⟨o2, h⟩ := ba' h
  obtain ⟨o3, h⟩ := ba' h
  obtain ⟨o4, h⟩ := ba' h
  have oex := oexB_ok o1
  obtain ⟨p1, o2⟩ := ba' o2
  obtain ⟨p2, p3⟩ := ba' o2
  have p1 : fs ≠ [] := by intro z; rw [z] at p1; cases p1
  have p2 := Nat.le_of_ble_eq_true p2
  have pf : ∀ p ∈ fs, p.2 < np ∧ PySem.W.findIn K (.ref C) p.1 = some none := fun p hp => by
    obtain ⟨a, b⟩ := ba' (List.all_eq_true.mp p3 p hp)
    exact ⟨Nat.blt_eq.mp a, of_decide_eq_true b⟩
  have o3 := of_decide_eq_true o3
  have o4 := of_decide_eq_true o4
  split at h
  · rename_i f hf
    unfold fnB at h
    split at h
    · rename_i nm qual params s0 tl scope gl cn cc kV doc pm an cda ct bl osl hlk
      obtain ⟨g1, h⟩ := ba' h
      obtain ⟨g2, h⟩ := ba' h
      obtain ⟨g3, h⟩ := ba' h
      obtain ⟨g4, h⟩ := ba' h
      obtain ⟨g5, h⟩ := ba' h
      obtain ⟨g6, h⟩ := ba' h
      obtain ⟨g7, h⟩ := ba' h
      obtain ⟨g8, h⟩ := ba' h
      obtain ⟨g9, h⟩ := ba' h
      obtain ⟨g10, g11⟩ := ba' h
      have g1 := of_decide_eq_true g1
      have g2 := of_decide_eq_true g2
      have g3 := of_decide_eq_true g3
      subst g1 g2 g3
      obtain ⟨q0, q1, q2, q3, q4, q5, txt, j, rfl, hl⟩ := supB_ok g4
      have g5 := of_decide_eq_true g5
      have g6 := Nat.le_of_ble_eq_true g6
      obtain ⟨s1, g11⟩ := ba' g11
      obtain ⟨s2, g11⟩ := ba' g11
      obtain ⟨s3, g11⟩ := ba' g11
      obtain ⟨s4, g11⟩ := ba' g11
      obtain ⟨s5, g11⟩ := ba' g11
      obtain ⟨s6, s7⟩ := ba' g11
      unfold cdB at g9
      split at g9
      · rename_i ccl cdd vs ccs hcda
        split at g9
        · rename_i fl tf hv2
          have g9 := of_decide_eq_true g9
          subst g9
          unfold clB at g10
          split at g10
          · rename_i ocl ocd D ocs hcc
            obtain ⟨c1, g10⟩ := ba' g10
            obtain ⟨c2, c3⟩ := ba' g10
            obtain ⟨_, oB⟩ := ba' o1
            have hsa := of_decide_eq_true (ba' oB).1
            generalize hns : arNames params = ns at g5 g7 s3
            have hne : ns ≠ [] := fun z => by rw [z] at g5; cases g5
            have hlen3 : ns.length ≤ 3 := by
              rw [← hns]
              unfold arNames
              split
              · split <;> simp
              · split <;> simp
              · simp
            obtain ⟨mb, hB, hmb⟩ := M.blt
            have locs : ∀ x ∈ ns, scope.names.lookup x = some .local ∧ (x == ("__debug__" : Str)) = false := fun x hx => by
              obtain ⟨a, b⟩ := ba' (List.all_eq_true.mp s3 x hx)
              exact ⟨of_decide_eq_true a, by simpa using b⟩
            refine ⟨oex, p1, fun p hp => (pf p hp).1, by omega, f, hf, by show Option.map (fun x => x.cls) (List.lookup f K) = _; rw [hlk] <;> rfl, fun A h g d t os e t0 us R hus hk he0 he hdep hq => ?_⟩
            obtain ⟨hb, hnd, ar, ha1, ha2⟩ := arNames_bind (fd := PySem.W.ksFn nm qual params (.Expr (.Call (.Attribute (.Call (.Name "super" q0) [] [] q1) "__init__" q2) [.Constant (.str txt) j q3] [] q4) q5 :: tl) scope .none kV doc pm an (.ref cda) ct cc) (us := us) (e := .ref e) hns hne rfl (by rw [hus, g5])
            have hh0 : ns[0]? = some (ns.headD Str.empty) := by
              cases ns with
              | nil => exact absurd rfl hne
              | cons a r => rfl
            have hself : ns.headD Str.empty = ar.arg := by
              cases ns with
              | nil => exact absurd rfl hne
              | cons a r => exact Option.some.inj ha2
            have hKe : K.lookup e = none := by
              cases z : K.lookup e with
              | none => rfl
              | some o => have := M.kin _ _ z; rw [he0] at this; cases this
            have hG : h.Ns mainGlobals mg := by
              obtain ⟨oL, es, ep, q1, q2⟩ := M.glob
              exact ⟨oL, es, ep, hk _ _ q1, q2⟩
            have hB' : h.Ns builtinsNs mb := by
              obtain ⟨oL, es, ep, q1, q2⟩ := hB
              exact ⟨oL, es, ep, hk _ _ q1, q2⟩
            have at1 : ∀ p ∈ fs, ns[p.2 + 1]? = some (ns.getD (p.2 + 1) Str.empty) := fun p hp => by
              have := (pf p hp).1
              rw [List.getD_eq_getElem?_getD, List.getElem?_eq_getElem (by omega)]
              rfl
            have at2 : ∀ p ∈ fs, ∃ u, us[p.2]? = some u ∧ (ns.zip (.ref e :: us)).reverse.lookup (ns.getD (p.2 + 1) Str.empty) = some u := fun p hp => by
              have h1 := (pf p hp).1
              have h2 : us[p.2]? = some us[p.2] := List.getElem?_eq_getElem (by omega)
              exact ⟨_, h2, zip_lk hnd (at1 p hp) (by rw [List.getElem?_cons_succ]; exact h2)⟩
            have T : IniK P K C D f cc cda (PySem.W.ksFn nm qual params (.Expr (.Call (.Attribute (.Call (.Name "super" q0) [] [] q1) "__init__" q2) [.Constant (.str txt) j q3] [] q4) q5 :: tl) scope .none kV doc pm an (.ref cda) ct cc) (ns.headD Str.empty) :=
              ⟨oex.cls, ⟨_, _, _, hlk⟩, ⟨ar, ha1, hself.symm⟩, ⟨_, _, _, _, _, _, hcda, hv2, by rw [hfile]; exact beq_self_eq_true _⟩, ⟨_, _, _, hcc⟩, c1, of_decide_eq_true c2, o3, o4, of_decide_eq_true c3, htop⟩
            refine ini_code (mg := mg) (mb := mb) (args := ⟨.ref e :: us, []⟩) (binds := ns.zip (.ref e :: us)) (fs := fs.map fun p => (p.1, ns.getD (p.2 + 1) Str.empty)) T hlk g8 hsa (fun a o q => hk _ _ (M.kin a o q)) hKe (M.nolimit.keeps hk) he hG hmg hB' (by rw [hmb _ (by decide)]; decide +kernel)
              hdep (.of_eq hb) (fun y hy => (locs _ (List.of_mem_zip hy).1).1) (fun x hx => of_decide_eq_true (List.all_eq_true.mp s4 x hx)) (by simpa using s6) (by simpa using s7) hl (of_decide_eq_true s1) (of_decide_eq_true s2)
              (locs _ (List.mem_of_getElem? hh0)).1 (locs _ (List.mem_of_getElem? hh0)).2 (of_decide_eq_true s5) g7 (by rw [List.length_map]; exact p2) (zip_lk hnd hh0 rfl) (fun p hp => ?_) fun h' t1 t' od' kp he' hd => ?_
            · obtain ⟨q, hq1, rfl⟩ := List.mem_map.mp hp
              obtain ⟨u, _, hu⟩ := at2 q hq1
              have l := locs _ (List.mem_of_getElem? (at1 q hq1))
              exact ⟨l.1, l.2, ⟨u, hu⟩, (pf q hq1).2⟩
            · cases od' with
              | none =>
                exfalso
                have hd : putM (fun x => (ns.zip (.ref e :: us)).reverse.lookup x) (fs.map fun p => (p.1, ns.getD (p.2 + 1) Str.empty)) (fun _ => none) = fun _ => none := hd
                cases hfs : fs with
                | nil => exact p1 hfs
                | cons p r =>
                  have hs : ∀ q ∈ r.map (fun p => (p.1, ns.getD (p.2 + 1) Str.empty)), ((ns.zip (Value.ref e :: us)).reverse.lookup q.2).isSome = true := fun q hq1 => by
                    obtain ⟨q', hq2, rfl⟩ := List.mem_map.mp hq1
                    obtain ⟨u, _, hu⟩ := at2 q' (by rw [hfs]; exact List.mem_cons_of_mem _ hq2)
                    exact Option.isSome_iff_exists.mpr ⟨u, hu⟩
                  obtain ⟨u, _, hu⟩ := at2 p (by rw [hfs]; exact List.mem_cons_self)
                  have := putM_some (m := fun x => (ns.zip (Value.ref e :: us)).reverse.lookup x) hs (a := fun y => if y = p.1 then (ns.zip (Value.ref e :: us)).reverse.lookup (ns.getD (p.2 + 1) Str.empty) else none) (y := p.1) (by simp only [if_true]; rw [hu]; rfl)
                  rw [hfs] at hd
                  have hd2 := congrFun hd p.1
                  rw [List.map_cons] at hd2
                  unfold putM at hd2
                  rw [hd2] at this
                  cases this
              | some dx =>
                refine hq h' t1 t' dx _ kp he' hd.1 hd.2.1 hd.2.2 fun vs r f => ?_
                refine rel_put (m := fun x => (ns.zip (.ref e :: us)).reverse.lookup x) (nm := fun i => ns.getD (i + 1) Str.empty) (acc := []) (a := fun _ => none) (fun f => (True.intro : RelO none none)) (fun p hp => ?_) f
                obtain ⟨u, hu1, hu⟩ := at2 p hp
                have hvl : p.2 < vs.length := by rw [Paired.length r, hus]; exact (pf p hp).1
                have hv := List.getElem?_eq_getElem hvl
                obtain ⟨u', hu', ru⟩ := r.get hv
                rw [hu1] at hu'
                cases hu'
                exact ⟨_, _, hv, hu, ru⟩
          · cases g10
        · cases g9
      · cases g9
    · cases h
  · cases h
end PD
set_option maxHeartbeats 2000000
/-! PD9: calls; expressions -/
namespace PD
open PySem PySem.Spec L2
section
variable (G : PC)
def PostC (w : Wd) (o : EOut) (Q : VK) (E : XK) : Prop := match o with
  | .ok d S' => ∀ w', w'.S = S' → Ok G w' → Le w w' → ∀ v, Rep G w' d v → Q v w'.H
  | .exc x S' => ∀ w', w'.S = S' → Ok G w' → Le w w' → ∀ cls od, XRep G w' x cls od → E cls od w'.H
  | .stuck => False
/-- what a def promises: n parameters, f on data -/
def spOf (n : Nat) (f : List D → Store → EOut) : Sp := fun vs H Q E => vs.length = n ∧ ∃ w ds, w.H = H ∧ Ok G w ∧ RepL G w ds vs ∧ PostC G w (f ds w.S) Q E
/-- a def as it is called in this form -/
structure SigAt (X : Cx) (lv : Nat) (f : List D → Store → EOut) (c : CSig) (n : Str) : Prop where
  at_ : ∃ (a : Addr) (fdt : FuncData) (ps : List Str), X.mg n = some (.ref a) ∧ PySem.W.keepIn X.K (.ref a) = true ∧ FnG X.prog X.w X.K X.mg X.base (L2.CX X.prog X.w) lv a fdt ps (spOf G ps.length f) ∧
    ∀ (s : Shared) (us ws : List Value), X.K.In s.heap → us.length = c.n → ws.length = c.ks.length → ∃ full, BindsTo s fdt ⟨us, c.ks.zip ws⟩ (ps.zip full) ∧ full.length = ps.length ∧
      ∀ (w : Wd) (xs ds : List D) (vs zs : List V), Vals vs us → Vals zs ws → RepL G w xs (vs ++ zs) → srcs xs c.src = some ds → ∃ fv, RepL G w ds fv ∧ Vals fv full
/-- h(lambda: body), body doing B -/
def LamAt (cf : CallF) (lv : Nat) (sc : Scope) (X : Cx) (W : WX) (h : Nat) (n : Str) : Prop := ∀ (ps : Arguments) (body : Expr) (scope : Scope) (p lpos pos : Pos) (B : Env' → Store → EOut), lamParB X.N sc ps scope = true → gloB sc n = true →
  (∀ (A : Around) (outer : List Env) (s : Shared) (H : Hp) (E : XK) (f c' : Addr), Room (lv - 2) (A.deeper (LamX.lamEnv X scope s.heap.objs.size f c')) → A.guards = some [] →
    PE (LamX.lamCx X A outer s H E scope f c') body (tD G (fun cls d _ H' => E cls d H') B)) →
  PE X (.Call (.Name n p) [.Lambda ps body scope lpos] [] pos) (tD G W fun ρ S => cf.lam h (B ρ) S)
/-- the context of a piece of the text -/
structure Cok (cf : CallF) (lv : Nat) (C : CC) (X : Cx) (W : WX) : Prop where
  sc : X.env.scope = C.sc
  N : X.N = C.N
  nd : X.N.Nodup
  calm : C.hot = false → X.calm = true
  K : X.K = G.K
  pc : PcOk G
  room : C.hot = false → Room lv X.A
  units : X.A.units + 65 < cLine
  gd : X.A.guards = some []
  free : ∀ x ∈ C.free, X.mg x = none
  con : ∀ x d, (x, d) ∈ C.con → ∃ v u, X.mg x = some u ∧ RelV v u ∧ ∀ w, Ok G w → Rep G w d v
  cls : ∀ x c, (x, c) ∈ C.cls → X.mg x = some (.ref (G.clsA c)) ∧ G.okC c
  sig : ∀ c ∈ C.sigs, ∀ n, (c.f, n) ∈ C.fnm → SigAt G X lv (cf c.f) c n
  takes : Takes X W
  exs : ∀ e ∈ C.exs, X.mg e.1 = some (.ref (G.clsA e.2.1)) ∧ G.okX e.2.1 ∧ (Mod X.K X.mg X.base → ExMk X.prog X.w X.K X.mg X.base (G.clsA e.2.1) e.2.2.1 e.2.2.2)
  xcl : ∀ x c, (x, c) ∈ C.xcl → X.mg x = some (.ref (G.clsA c)) ∧ G.okX c
  flds : ∀ f ∈ C.flds, ∀ x, G.okX x → PySem.W.findIn G.K (.ref (G.clsA x)) f = some none
  gf : C.ask = false → G.fnv = none
  askI : C.askI = true → ∀ a p1 p2, C.N[0]? = some a → PE X (.Call (.Name a p1) [] [] p2) (tD G W fun ρ S => ev cf .ask ρ S)
  askT : C.askT = true → ∀ (pn : List (Addr × Obj)) (xe : Value → Shared → Prop) (W' : WX), Takes (X.tr pn xe) W' → ∀ a p1 p2, C.N[0]? = some a → PE (X.tr pn xe) (.Call (.Name a p1) [] [] p2) (tD G W' fun ρ S => ev cf .ask ρ S)
  sigL : C.lms ≠ [] → ∀ c ∈ C.sigs, ∀ n, (c.f, n) ∈ C.fnm → SigAt G X (lv - 2) (cf.low c.f) c n
  lam : ∀ h n, (h, n) ∈ C.lms → LamAt G cf lv C.sc X W h n
end
section
variable {G : PC} {cf : CallF} {lv : Nat} {C : CC} {X : Cx} {W : WX} {σ : L2.St} {Q : VK}
/-- the block of a comprehension -/
theorem Cok.blk (c : Cok G cf lv C X W) (s : Shared) (H : Hp) (scope : Scope) (cl : List (Str × Addr)) (A : Addr) (fp : List Addr) :
    Cok G cf lv (C.blk (relS scope C.sc)) (X.blk s H scope (compEnvC scope cl A X.env) fp) (fun _ _ _ _ => False) where
  sc := by
    have h : (compEnvC scope cl A X.env).scope = relS scope X.env.scope := rfl
    show (compEnvC scope cl A X.env).scope = _
    rw [h, c.sc]
  N := c.N
  nd := c.nd
  calm := c.calm
  K := c.K
  pc := c.pc
  room := c.room
  units := c.units
  gd := c.gd
  free := c.free
  con := c.con
  cls := c.cls
  sig := fun e he n hn => ⟨(c.sig e he n hn).at_⟩
  takes := fun u s' h => by
    obtain ⟨_, _, _, _, _, _, _, _, _, _, _, _, _, _, _, _, z⟩ := h
    exact z.elim
  exs := c.exs
  xcl := c.xcl
  flds := c.flds
  gf := c.gf
  askI := fun z => nomatch z
  askT := fun z => nomatch z
  sigL := fun z => absurd rfl z
  lam := fun _ _ z => nomatch z
theorem Cok.pass (c : Cok G cf lv C X W) (σ : L2.St) : PassesAt (L2.CX X.prog X.w) X σ (fun cls d H' => W cls d σ H') := passAt c.takes σ
theorem Cok.glob (c : Cok G cf lv C X W) {x : Str} (h : gloB C.sc x = true) : Gl X x ∧ (x == ("__debug__" : Str)) = false := by
  obtain ⟨h1, h2⟩ := PD.ba h
  refine ⟨?_, by simpa using h2⟩
  show X.env.scope.names.lookup x = _
  rw [c.sc]
  exact of_decide_eq_true h1
theorem Cok.freeN (c : Cok G cf lv C X W) {x : Str} (h : freeB C x = true) : Gl X x ∧ X.mg x = none ∧ x ≠ "__name__" ∧ (x == ("__debug__" : Str)) = false := by
  obtain ⟨h1, h2⟩ := PD.ba h
  obtain ⟨h2, h3⟩ := PD.ba h2
  obtain ⟨h4, h5⟩ := PD.ba h2
  obtain ⟨h5, h6⟩ := PD.ba h5
  obtain ⟨g, hd⟩ := c.glob h1
  exact ⟨g, c.free x (List.contains_iff_mem.mp h3), by simpa using h6, hd⟩
/-! ### calls -/
theorem run_sig {pins : List (Addr × Obj)} {H : Hp} {s : Shared} {us ws : List Value} {a : Addr} {fdt : FuncData} {ps : List Str} {f : List D → Store → EOut} {ks : List Str} {full : List Value} {fv : List V} {E : XK}
    (F : FnG X.prog X.w X.K X.mg X.base (L2.CX X.prog X.w) lv a fdt ps (spOf G ps.length f)) (hr : Room lv X.A) (hg : X.A.guards = some []) (hb : BindsTo s fdt ⟨us, ks.zip ws⟩ (ps.zip full)) (hx : PassesAt (L2.CX X.prog X.w) X σ E)
    (I : Inv X pins σ H s) (r : Vals fv full) (h : spOf G ps.length f fv H Q E) : wpAny (model X.prog X.w) X.A (call (.ref a) us (ks.zip ws)) (EP X pins σ Q) X.xe s := by
  refine wpAny_call (codeAny_mono (F.run X.A X.stack s H ⟨us, ks.zip ws⟩ full fv Q E hr hg I.env0 hb r h) fun r s' hq => ?_)
  cases r with
  | error e => exact hx pins H s e s' I hq
  | ok fl =>
    cases fl with
    | ret u => exact I.after hq
    | next => exact False.elim hq
    | brk => exact False.elim hq
    | cont => exact False.elim hq
/-- arguments by place, then by name -/
theorem kwNames_of {env : Env} {pos : Pos} : ∀ {kws : List Keyword} {ks : List Str}, kwNames kws = some ks → (backToKw pos (keywordEach kws env)).all (·.1.isSome) = true ∧ (backToKw pos (keywordEach kws env)).filterMap (·.1) = ks ∧ (backToKw pos (keywordEach kws env)).any (·.1.isNone) = false
  | [], _, h => by cases h; exact ⟨rfl, rfl, rfl⟩
  | ⟨none, _, _⟩ :: r, _, h => by cases h
  | ⟨some n, e, p⟩ :: r, _, h => by
    obtain ⟨ks, h1, rfl⟩ := Option.map_eq_some_iff.mp (show (kwNames r).map (n :: ·) = some _ from h)
    obtain ⟨a, b, c⟩ := kwNames_of (env := env) (pos := pos) h1
    refine ⟨?_, ?_, ?_⟩
    · show (true && _) = true; rw [Bool.true_and]; exact a
    · show n :: _ = n :: ks; rw [← b]; rfl
    · show (false || _) = false; rw [Bool.false_or]; exact c
theorem kwNames_len : ∀ {kws : List Keyword} {ks : List Str}, kwNames kws = some ks → ks.length = kws.length
  | [], _, h => by cases h; rfl
  | ⟨none, _, _⟩ :: r, _, h => by cases h
  | ⟨some n, e, p⟩ :: r, _, h => by
    obtain ⟨ks, h1, rfl⟩ := Option.map_eq_some_iff.mp (show (kwNames r).map (n :: ·) = some _ from h)
    rw [List.length_cons, List.length_cons, kwNames_len h1]
/-- keywords: nothing here, one more -/
theorem pk_imp {kws : List Keyword} {t t' : TA} (h : PK X kws t) (k : ∀ σ H Q, t' σ H Q → t σ H Q) : PK X kws t' := ⟨fun pos pins s σ H Q I q => h.run pos pins s σ H Q I (k σ H Q q)⟩
/-- a call on data: its values by place, by name -/
theorem call_ok (c : Cok G cf lv C X W) (cool : C.hot = false) {n : Str} {p pos : Pos} {xs : List Expr} {kws : List Keyword} {sg : CSig} {m1 m2 : Env' → Store → LOut}
    (hg : gloB C.sc n = true) (hs : C.sigs.any (CSig.same sg) = true) (hf : C.fnm.any (fun p => p.1 == sg.f && decide (p.2 = n)) = true) (hl : (xs.length == sg.n) = true) (hk : kwNames kws = some sg.ks)
    (ha : PA X xs (tL G W m1)) (hz : PK X kws (tL G W m2)) (hst : ∀ {pos : Pos}, (backTo pos (starEach xs X.env)).any (·.1) = false) (hst1 : ∀ e r, xs = e :: r → starEach (e :: r) X.env = (false, eval e X.env) :: starEach r X.env)
    (nil1 : xs = [] → ∀ ρ S, m1 ρ S = .ok [] S) (len1 : ∀ ρ S ds S', m1 ρ S = .ok ds S' → ds.length = xs.length) (len2 : ∀ ρ S ds S', m2 ρ S = .ok ds S' → ds.length = kws.length) :
    PE X (.Call (.Name n p) xs kws pos) (tD G W fun ρ S => (m1 ρ S).bind fun xs S => (m2 ρ S).bind fun ys S => match srcs (xs ++ ys) sg.src with
      | some zs => cf sg.f zs S
      | none => .stuck) := by
  obtain ⟨gl, hd⟩ := c.glob hg
  have hsig : sg ∈ C.sigs := by
    obtain ⟨e, he, hq⟩ := List.any_eq_true.mp hs
    rw [csig_ok hq]; exact he
  have hfn : (sg.f, n) ∈ C.fnm := by
    obtain ⟨e, he, hq⟩ := List.any_eq_true.mp hf
    obtain ⟨h1, h2⟩ := PD.ba hq
    have h1 := eq_of_beq h1
    have h2 := of_decide_eq_true h2
    rw [← h1, ← h2]; exact he
  obtain ⟨a, fdt, ps, mg, kp, F, to⟩ := (c.sig sg hsig n hfn).at_
  have nx : xs.length = sg.n := eq_of_beq hl
  have nk := kwNames_len hk
  refine ⟨fun pins s σ H Q I h => ?_⟩
  obtain ⟨w, ρ, e, h⟩ := h
  subst e
  dsimp only at h
  -- what is left behind the values
  have fin : ∀ (s2 : Shared) (H2 : Hp) (us ws : List Value) (vs zs : List V) (w2 : Wd) (xs2 ys2 : List D), w2.H = H2 → Inv X pins σ H2 s2 → Vals vs us → Vals zs ws → us.length = sg.n → ws.length = sg.ks.length → RepL G w2 (xs2 ++ ys2) (vs ++ zs) →
      At G W w2 ρ σ (match srcs (xs2 ++ ys2) sg.src with
        | some zs => cf sg.f zs w2.S
        | none => .stuck) Q → wpAny (model X.prog X.w) X.A (call (.ref a) us (sg.ks.zip ws)) (EP X pins σ Q) X.xe s2 := by
    intro s2 H2 us ws vs zs w2 xs2 ys2 e2 I2 r1 r2 l1 l2 rl at2
    obtain ⟨full, hb, hlen, hfull⟩ := to s2 us ws I2.kIn l1 l2
    split at at2
    · rename_i ds hds
      obtain ⟨fv, rf, vf⟩ := hfull w2 _ _ vs zs r1 r2 rl hds
      refine run_sig F (c.room cool) c.gd hb (c.pass σ) I2 vf ⟨by rw [vf.length, hlen], w2, ds, e2, at2.ok, rf, ?_⟩
      have := at2.post
      cases ho : cf sg.f ds w2.S with
      | ok d S' => rw [ho] at this; exact this
      | exc x S' => rw [ho] at this; exact this
      | stuck => rw [ho] at this; exact this
    · exact at2.no
  -- the values by name
  have names : ∀ (s1 : Shared) (H1 : Hp) (us : List Value) (vs : List V) (w1 : Wd) (xs1 : List D), w1.H = H1 → Inv X pins σ H1 s1 → Vals vs us → us.length = sg.n → RepL G w1 xs1 vs →
      At G W w1 ρ σ ((m2 ρ w1.S).bind fun ys S => match srcs (xs1 ++ ys) sg.src with
        | some zs => cf sg.f zs S
        | none => .stuck) Q → ∀ {pos' : Pos}, wpAny (model X.prog X.w) X.A (evalAll ((backToKw pos' (keywordEach kws X.env)).map (·.2)))
        (fun ws s2 => X.K.In s2.heap ∧ wpAny (model X.prog X.w) X.A (call (.ref a) us (sg.ks.zip ws)) (EP X pins σ Q) X.xe s2) X.xe s1 := by
    intro s1 H1 us vs w1 xs1 e1 I1 r1 l1 rl at1 pos'
    subst e1
    have lz := len2 ρ w1.S
    refine thn (hz.run pos' pins s1 σ w1.H (fun zs H2 => zs.length = kws.length ∧ ∃ w2 ys2, w2.H = H2 ∧ Le w1 w2 ∧ RepL G w2 ys2 zs ∧ At G W w2 ρ σ (match srcs (xs1 ++ ys2) sg.src with
        | some zs => cf sg.f zs w2.S
        | none => .stuck) Q) I1 ⟨w1, ρ, rfl, ?_⟩) fun ws s2 ⟨zs, H2, I2, r2, hzl, w2, ys2, e2, l2, rl2, at2⟩ => ⟨I2.kIn, ?_⟩
    · have at1' : At G W w1 ρ σ ((m2 ρ w1.S).bind fun ys S => match srcs (xs1 ++ ys) sg.src with
        | some zs => cf sg.f zs S
        | none => .stuck) Q := at1
      obtain ⟨ok, env, post⟩ := at1'
      refine ⟨ok, env, ?_⟩
      cases ho : m2 ρ w1.S with
      | ok ds S' =>
        rw [ho] at post
        intro w' e ok' l v r
        refine ⟨by rw [← r.length]; exact lz ds S' ho, w', ds, rfl, l, r, At.of_le env l ok' ?_⟩
        rw [e]; exact post
      | exc x S' => rw [ho] at post; exact post
      | stuck => rw [ho] at post; exact post
    · subst e2
      exact fin s2 _ us ws vs zs w2 xs1 ys2 rfl I2 r1 r2 l1 (by rw [← r2.length, hzl, nk]) ((rl.le l2.toLe0).append rl2) at2
  -- the values by place
  have lx := len1 ρ w.S
  have places : ∀ {pos' : Pos} (R : List Value → Shared → Prop), (∀ (s1 : Shared) (us : List Value) (vs : List V) (w1 : Wd) (xs1 : List D), Inv X pins σ w1.H s1 → Vals vs us → us.length = sg.n → RepL G w1 xs1 vs →
      At G W w1 ρ σ ((m2 ρ w1.S).bind fun ys S => match srcs (xs1 ++ ys) sg.src with
        | some zs => cf sg.f zs S
        | none => .stuck) Q → R us s1) → wpAny (model X.prog X.w) X.A (spliced (backTo pos' (starEach xs X.env))) R X.xe s := by
    intro pos' R k
    refine thn (ha.run pos' pins s σ w.H (fun vs H1 => vs.length = xs.length ∧ ∃ w1 xs1, w1.H = H1 ∧ RepL G w1 xs1 vs ∧ At G W w1 ρ σ ((m2 ρ w1.S).bind fun ys S => match srcs (xs1 ++ ys) sg.src with
        | some zs => cf sg.f zs S
        | none => .stuck) Q) I ⟨w, ρ, rfl, ?_⟩) fun us s1 ⟨vs, H1, I1, r1, hvl, w1, xs1, e1, rl, at1⟩ => ?_
    · obtain ⟨ok, env, post⟩ := h
      refine ⟨ok, env, ?_⟩
      cases ho : m1 ρ w.S with
      | ok ds S' =>
        rw [ho] at post
        intro w' e ok' l v r
        refine ⟨by rw [← r.length]; exact lx ds S' ho, w', ds, rfl, r, At.of_le env l ok' ?_⟩
        rw [e]; exact post
      | exc x S' => rw [ho] at post; exact post
      | stuck => rw [ho] at post; exact post
    · subst e1
      exact k s1 us vs w1 xs1 I1 r1 (by rw [← r1.length, hvl, nx]) rl at1
  refine wpAny_Call_Name_kw (ld_glob I gl mg ?_ hd)
  obtain ⟨k1, k2, k3⟩ := kwNames_of (env := X.env) (pos := pos) hk
  cases xs with
  | nil =>
    refine PySem.W.callWith_KW0 (h₀ := X.base) I.ok.mod.kin kp k1 ?_ (by rw [k3]; rfl)
    rw [k2]
    have h' := h
    rw [nil1 rfl ρ w.S] at h'
    exact names s _ [] [] w [] rfl I .nil nx rfl h'
  | cons e es =>
    have h1 := hst1 e es rfl
    refine PySem.W.callWith_KW (h₀ := X.base) I.ok.mod.kin kp k1 (places _ fun s1 us vs w1 xs1 I1 r1 l1 rl at1 => ?_) (by rw [k3, hst]; rfl) h1
    rw [k2]
    exact names s1 _ us vs w1 xs1 rfl I1 r1 l1 rl at1
end
end PD
set_option maxHeartbeats 2000000
/-! PX2: try: body, except c as n: suite; the exception's object is tracked from the catch on -/
namespace PD
open PySem PySem.Spec PyProof.Rows L2
section
variable {X : Cx} {pins : List (Addr × Obj)} {σ : L2.St} {H : Hp} {sI s s' : Shared} {B : Heap}
theorem exv_ok {P : Program} {w : World} {H' : Hp} {h : Heap} {a : Addr} {cls : Value} {d : Option Addr} {oe : Obj} {vs : Array Value} (he : h.get? a = some oe) (hz : Zc cls d oe) (hd : oe.data = .fields vs) : ObjOk P w H' h a (ExV cls d a) :=
  ⟨⟨oe, vs, he, hz, hd⟩, ⟨oe, he⟩, fun _ _ ⟨o, v, q, r⟩ k => ⟨o, v, k o q, r⟩⟩
/-- on the ground, the exception's own object tracked -/
theorem Inv.landT (I : Inv X pins σ H sI) (nb : ∀ b o, sI.heap.get? b = some o → b ∉ frs X.stack → B.get? b = some o) (st : B.StaysIn s'.heap) (up : sI.heap.UpToSlots s'.heap) (eo : s'.os = sI.os) (ag : AllBare s'.gens)
    {a : Addr} {cls : Value} {d : Option Addr} {oe : Obj} {vs : Array Value} (na : H a = none) (hB : B.get? a = none) (he : s'.heap.get? a = some oe) (hz : Zc cls d oe) (hd : oe.data = .fields vs) : Inv X pins σ (upd H a (ExV cls d a)) s' := by
  have fr : ∀ b ∈ frs X.stack, ∀ o, sI.heap.get? b = some o → ∃ sl, s'.heap.get? b = some { o with slots := sl } := fun b hb o e => by
    obtain ⟨_, o', e', hn⟩ := I.stack.mem hb
    cases e.symm.trans e'
    exact up b o e hn
  have nea : ∀ b o, sI.heap.get? b = some o → b ≠ a := fun b o e z => by
    subst z
    by_cases hb : b ∈ frs X.stack
    · obtain ⟨_, o', e', hn⟩ := I.stack.mem hb
      cases e.symm.trans e'
      obtain ⟨sl, q⟩ := fr b hb o e
      cases q.symm.trans he
      exact hn vs hd
    · cases (nb b o e hb).symm.trans hB
  have un : Un (frs X.stack) [] H (upd H a (ExV cls d a)) sI.heap s'.heap :=
    { keep := fun b o e _ hb _ => st b o (nb b o e hb), slot := fun b o e _ hb _ => fr b hb o e, free := fun b o e n _ => (upd_ne (nea b o e)).trans n,
      there := fun b o e _ => if hb : b ∈ frs X.stack then let ⟨_, q⟩ := fr b hb o e; ⟨_, q⟩ else ⟨o, st b o (nb b o e hb)⟩,
      tups := fun b xs e => (upd_ne (ne_of_none e na)).trans e, frzs := fun b o xs e => (upd_ne (ne_of_none e na)).trans e, tbls := fun b ps e => ⟨#[], by rw [upd_ne (ne_of_none e na), e]; simp⟩ }
  exact I.call' eo un (((I.inGround nb).kept st).laidN (fun _ _ z => z) na (exv_ok he hz hd)) ag fun _ z => nomatch z
theorem Inv.toSuite (I : Inv X pins σ H s) (a : Addr) : Inv (X.suite a (X.pn ++ pins)) [] σ H s :=
  ⟨I.ok.suite _ _, I.os, I.bare, I.base, I.loc, I.cell, I.free, I.freeC, fun p hp => I.pin p (by simpa using hp), I.hok, I.len⟩
theorem Inv.offSuite {a : Addr} {pn' : List (Addr × Obj)} (I : Inv (X.suite a (X.pn ++ pins)) pn' σ H s) (ok : X.Ok) : Inv X pins σ H s :=
  ⟨ok, I.os, I.bare, I.base, I.loc, I.cell, I.free, I.freeC, fun p hp => I.pin p (List.mem_append_left _ hp), I.hok, I.len⟩
end
/-- behind the suite the name is gone -/
def offE (i : Nat) (D : Ends) : Ends := { nx := fun τ K => D.nx (τ.set i none) K, rt := D.rt, bk := fun τ K => D.bk (τ.set i none) K, ct := fun τ K => D.ct (τ.set i none) K }
/-- what is wanted of the body's exceptions -/
def wT (K : PySem.W.Frag) (c : Value) (i : Nat) (ts : TS) (Wout : WX) (D : Ends) : WX := fun cls d τ K' =>
  ∃ b, PySem.W.exmOne K cls c = some b ∧ (b = true → ∀ a, K' a = none → ts (offE i D) (τ.set i (some (.ref a))) (upd K' a (ExV cls d a))) ∧ (b = false → Wout cls d τ K')
section
variable {X : Cx} {x n : Str} {c : Value} {i : Nat} {body suite : List Stmt} {b₀ : Stmt} {np pos pos' : Pos} {tb : WX → TS} {ts : TS} {Wout : WX}
theorem ps_tryT (hs : X.stack = X.env :: X.outer) (hf : X.env.frame = some X.env.locals) (hN : X.N.Nodup) (hi : X.N[i]? = some n) (hln : X.env.kindOf n = some .local) (hc : Names X x c) (tk : Takes X Wout)
    (hb : ∀ (W' : WX) (pn' : List (Addr × Obj)) (xe' : Value → Shared → Prop), Takes (X.tr pn' xe') W' → PassesOwn (model X.prog X.w) X.A X.env xe' → PSs (X.tr pn' xe') body (tb W'))
    (hsu : ∀ (a : Addr) (pn' : List (Addr × Obj)), PSs (X.suite a pn') (b₀ :: suite) ts) :
    PS X (.Try body [.ExceptHandler (some (.Name x np)) (some n) (b₀ :: suite) pos'] [] [] pos) (fun D σ H => tb (wT X.K c i ts Wout D) D σ H) := by
  refine ⟨fun pins s σ H D I h => ?_⟩
  have okX := I.ok
  have hfr : X.A.frames = some (X.env :: X.outer) := okX.frames.trans (congrArg some hs)
  refine wpAny_Try_except (wpAny_mono ((hb (wT X.K c i ts Wout D) (X.pn ++ pins) (fun e t1 => wpAny (model X.prog X.w) X.A (noteFrame e X.env) (fun _ t2 => wpAny (model X.prog X.w) X.A (setFlight e none) (fun _ t3 =>
    wpAny (model X.prog X.w) X.A (handleBy e X.env [.ExceptHandler (some (.Name x np)) (some n) (b₀ :: suite) pos']) (SP X pins D) X.xe t3) X.xe t2) X.xe t1) (fun u s' xx => ?_) PassesOwn.looking).run [] s σ H D (I.toTry _) h) (fun f s1 hsp => ?_) (fun e s1 he => he))
  · obtain ⟨a, B, sI, pins', τ, K', cls, d, rfl, J0, nb, up, sky, na, eo, ag, b, hb1, hyes, hno⟩ := xx
    have J : Inv X pins τ K' sI := J0.ofTry okX
    have sky1 : Sky B (X.env :: X.outer) a (Zc cls d) X.env.locals s'.heap := hs ▸ sky
    refine Sky.land (A := X.A) Zc.steady hfr hf sky1 fun h3 fl3 up3 => ?_
    have J3 : Inv X pins τ K' { s' with heap := h3 } := J.landed nb fl3.1 (up.trans up3) eo ag
    obtain ⟨oe3, vs3, he3, hz3, hd3⟩ := fl3.there
    refine wpAny_handleBy_cons (codeAny_handlers_test ?_) fun q => nomatch q
    have LM := PySem.W.exm_one (M := model X.prog X.w) J3.kIn (show PySem.W.Looks (model X.prog X.w) h3 (typeOf (.ref a)) cls from fun A Q E s k q => wpAny_typeOf_ref (k _ _ he3) (by rw [hz3.1]; exact q)) hb1
    have test : ∀ {Q : Value → Shared → Prop} {E : Value → Shared → Prop}, Q c { s' with heap := h3 } → wpAny (model X.prog X.w) (X.A.mark (some (.ref a))) (eval (.Name x np) X.env) Q E { s' with heap := h3 } := fun {Q E} q => by
      rcases hc with ⟨hg, hdb, hm | ⟨hm, hv, hnn⟩⟩
      · exact ld_glob (X := X.suite a (X.pn ++ pins)) (Inv.toSuite J3 a) hg hm q hdb
      · exact ld_blt (X := X.suite a (X.pn ++ pins)) (Inv.toSuite J3 a) hg hm hv q hnn hdb
    refine test (LM.here ?_)
    cases b with
    | true =>
      refine codeAny_handlers_suite_as (HandSPX.lands_againZ fl3 fun h4 fl4 up4 => ?_)
      obtain ⟨oe4, vs4, he4, hz4, hd4⟩ := fl4.there
      have J4 : Inv X pins τ (upd K' a (ExV cls d a)) { s' with heap := h4 } := Inv.landT (s' := { s' with heap := h4 }) J nb fl4.1 ((up.trans up3).trans up4) eo ag na fl4.2.1 he4 hz4 hd4
      refine store_ok (X := X.suite a (X.pn ++ pins)) (v := .ref a) (Inv.toSuite J4 a) hN hi (.inl hln) rfl (fun s5 S5 => ?_) (.inr hln)
      refine wpAny_mono ((hsu a (X.pn ++ pins)).run [] s5 _ _ _ S5 (hyes rfl a na)) (fun f s6 hsp => ?_) fun _ _ z => False.elim z
      have off : ∀ {τ6 : L2.St} {H6 : Hp} {R : Shared → Prop}, Inv (X.suite a (X.pn ++ pins)) [] τ6 H6 s6 → (∀ s7, Inv X pins (τ6.set i none) H6 s7 → R s7) → wpAny (model X.prog X.w) X.A (do bindName X.env n .none; unbindBehindTheSuite X.env n pos') (fun _ s7 => R s7) X.xe s6 :=
        fun {τ6 H6 R} S6 hq => gone_ok (Inv.offSuite S6 okX) hN hi hln hq
      cases f with
      | next => obtain ⟨τ6, H6, S6, q6⟩ := hsp; exact off S6 fun s7 J7 => ⟨_, _, J7, q6⟩
      | brk => obtain ⟨τ6, H6, S6, q6⟩ := hsp; exact off S6 fun s7 J7 => ⟨_, _, J7, q6⟩
      | cont => obtain ⟨τ6, H6, S6, q6⟩ := hsp; exact off S6 fun s7 J7 => ⟨_, _, J7, q6⟩
      | ret u => obtain ⟨v6, τ6, H6, S6, r6, q6⟩ := hsp; exact off S6 fun s7 J7 => ⟨_, _, _, J7, r6, q6⟩
    | false =>
      refine wpAny_handleBy_nil (A := X.A) ?_
      obtain ⟨_, _, _, oe, vs, T, oT, ts', he, _, hd, h1, _⟩ := id fl3
      have fin : wpAny (model X.prog X.w) X.A (setFlight (.ref a) X.env.frame) (fun _ s4 => wpAny (model X.prog X.w) X.A (throw (.ref a) : Sem Flow) (SP X pins D) X.xe s4) X.xe { s' with heap := h3 } := by
        rw [hf]
        exact HandSPX.setFlight_upZ fl3 fun h4 hh4 up4 => wpAny_throw (tk _ _ ⟨a, B, sI, pins, τ, K', cls, d, rfl, J, nb, (up.trans up3).trans up4, .inr (.inr (by rw [hs]; exact hh4)), na, eo, ag, hno rfl⟩)
      unfold PySem.passOn
      refine wpAny_bind (wpAny_field he hd h1 ?_)
      rw [if_neg (fun z => by cases (show (Value.ref T == Value.none) = false from by simp).symm.trans z)]
      first
        | exact wpAny_bind (wpAny_pure (wpAny_bind fin))
        | exact wpAny_bind fin
  · cases f with
    | next => obtain ⟨τ, K', J, q⟩ := hsp; exact wpAny_execs_nil ⟨τ, K', J.ofTry okX, q⟩
    | brk => obtain ⟨τ, K', J, q⟩ := hsp; exact ⟨τ, K', J.ofTry okX, q⟩
    | cont => obtain ⟨τ, K', J, q⟩ := hsp; exact ⟨τ, K', J.ofTry okX, q⟩
    | ret u => obtain ⟨v, τ, K', J, r, q⟩ := hsp; exact ⟨v, τ, K', J.ofTry okX, r, q⟩
end
end PD
set_option maxHeartbeats 2000000
/-! PX3: enumerate(tuple) -/
namespace PD
open PySem PySem.Spec PyProof.Rows L2
open AutoSeq1 (wpAny_loadPart')
theorem meets_enumT (l : Addr) (items : Array Value) (n : Nat) (dct : Option Addr) (sl : Array (Option Value)) :
    Meets (Builtin.«enumerate.__new__» ⟨[.type "enumerate", .ref l], []⟩) (fun _ R s => s.heap.get? l = some { cls := .type "tuple", dict := dct, data := .seq items n, slots := sl } ∧
      R (.ok (.ret (.ref (s.heap.push { cls := .type "tuple_iterator", data := .fields #[.ref l, .int 0 0] }).objs.size)))
        { s with heap := (s.heap.push { cls := .type "tuple_iterator", data := .fields #[.ref l, .int 0 0] }).push { cls := .type "enumerate", data := .fields #[.none, .bool false, .ref s.heap.objs.size, rawInt 0, .none, .none] } }) :=
  .of_wp fun prog w A R s ⟨hl, h⟩ => by
    obtain ⟨hp, g, d, tk, os⟩ := s
    have hsub := sub_enumerate
    have hT : Heap.IsTuple (Shared.heap ⟨hp, g, d, tk, os⟩) l items := ⟨_, hl, rfl, n, rfl⟩
    wp_walk using wpAny_loadPart' hl
    refine wpAny_stack_any fun st => wpAny_pure ?_
    split
    · rename_i c _ _ _ _ _
      cases (c == Value.type "enumerate") <;> (wp_walk using wpAny_loadPart' hl, wpAny_pyIter_tuple hT; exact ⟨_, rfl, h⟩)
    · wp_walk using wpAny_loadPart' hl, wpAny_pyIter_tuple hT
      exact ⟨_, rfl, h⟩
section
variable {prog : Program} {w : World} {A : Around} {E : Value → Shared → Prop} {s : Shared}
theorem call_enumT {l : Addr} {items : Array Value} {Q : Value → Shared → Prop} (hL : s.heap.IsTuple l items)
    (h : ∀ h', IsEnum h' (s.heap.objs.size + 1) s.heap.objs.size 0 .none → h'.IsTupleIter s.heap.objs.size l 0 → (∀ b o, s.heap.get? b = some o → h'.get? b = some o) → Q (.ref (s.heap.objs.size + 1)) { s with heap := h' }) :
    wpAny (model prog w) A (call (.type "enumerate") [.ref l]) Q E s := by
  obtain ⟨⟨c, dct, dt, sl⟩, hl, hc, n, hd⟩ := hL
  replace hc : c = .type "tuple" := hc
  replace hd : dt = .seq items n := hd
  subst hc hd
  have hz : ∀ o : Obj, (s.heap.push o).objs.size = s.heap.objs.size + 1 := fun o => Heap.size_push ..
  refine callType_new F.called_enumerate (by decide) (F.typeCall_enumerate_1 _) (F.newCall_enumerate_1 _) (fun obj => F.args_object_init_2 obj _) F.entry_enumerate_new (meets_enumT l items n dct sl) ⟨hl, ?_⟩
  show _ ∧ _
  rw [hz]
  have he : IsEnum ((s.heap.push { cls := .type "tuple_iterator", data := .fields #[.ref l, .int 0 0] }).push { cls := .type "enumerate", data := .fields #[.none, .bool false, .ref s.heap.objs.size, rawInt 0, .none, .none] }) (s.heap.objs.size + 1) s.heap.objs.size 0 .none := by
    have q := Heap.get?_push_size (s.heap.push { cls := .type "tuple_iterator", data := .fields #[.ref l, .int 0 0] }) (o := { cls := .type "enumerate", data := .fields #[.none, .bool false, .ref s.heap.objs.size, rawInt 0, .none, .none] }) rfl
    rw [hz] at q
    exact q
  exact ⟨⟨_, he, rfl⟩, h _ he ⟨_, Heap.get?_push_of_some _ (Heap.get?_push_size _ rfl), rfl, rfl⟩ fun b o x => Heap.get?_push_of_some _ (Heap.get?_push_of_some _ x)⟩
end
/-- the tuple at a, each item in a new pair -/
def IteT (K : PySem.W.Frag) (a : Addr) : L2.It :=
  ⟨fun i H => ∃ (xs : List V) (x : V), SqT K H a xs ∧ xs[i]? = some x, fun i H v H' => ∃ T x, v = .ref T ∧ H T = none ∧ H' = upd H T (.tup [.int (i : Nat), x]) ∧ ∀ xs, SqT K H a xs → xs[i]? = some x, fun i H => ∃ xs : List V, SqT K H a xs ∧ xs.length = i⟩
theorem turn_enumT {P : Program} {w : World} {K : PySem.W.Frag} {elts : List Expr} {kk : Nat} {tpos : Pos} (a e it : Addr) (hea : e ≠ a) (hia : a ≠ it) (hne : e ≠ it) :
    Turn P w K (.Tuple elts kk tpos) (IteT K a) [e, it] e (fun i h => (∃ old, IsEnum h e it ((i : Nat) : Int) old) ∧ h.IsTupleIter it a i) where
  mem := List.mem_cons_self
  obj := fun i h ⟨⟨old, he⟩, ⟨o, ho, hc, hd⟩⟩ b hb => by
    rcases List.mem_cons.mp hb with z | z
    · rw [z]; exact ⟨_, he, fun v q => nomatch q⟩
    · rw [List.mem_singleton.mp z]; exact ⟨o, ho, fun v q => by rw [hd] at q; cases q⟩
  keep := fun i h h' ⟨⟨old, he⟩, hi⟩ k => ⟨⟨old, k e (by simp) _ he⟩, hi.at fun o q => k it (by simp) o q⟩
  item := by
    rintro X rfl rfl rfl hc i pins s σ H E I hf ⟨⟨old, he⟩, hit⟩ ⟨xs, x, hq, hx⟩
    obtain ⟨its, rv, p, _⟩ := I.tuple hq
    have hi : i < its.toArray.size := by
      rw [List.size_toArray, ← rv.length]
      exact (List.getElem?_eq_some_iff.mp hx).1
    have lte : e < s.heap.objs.size := Heap.lt_size he
    have lti : it < s.heap.objs.size := let ⟨_, q, _⟩ := hit; Heap.lt_size q
    refine wpAny_pyNext_enum_itemD (Draws.tuple (A := X.A.in1) (I.ok.hd hc) it a hia its.toArray) he ⟨hit, (show s.heap.IsTuple a its.toArray from p)⟩ hi hne (fun z => by
      rcases List.mem_cons.mp z with z | z
      · exact hne z
      · exact hea (List.mem_singleton.mp z)) fun u h1 tk hu ho st1 hT hsz hk => ?_
    refine ⟨_, rfl, wpAny_letOwnedTupleGo_enum (s := { s with heap := h1, toks := tk + 1 }) ho fun h2 he2 sb => ?_⟩
    have hT2 : h2.get? s.heap.objs.size = some { cls := .type "tuple", data := .seq #[.int i tk, u] } := (sb.2 _ (Nat.ne_of_gt lte)).trans hT
    have ru : RelV x u := by
      obtain ⟨u', hu', ru⟩ := rv.get hx
      have hu : its.toArray[i]? = some u := hu
      rw [List.getElem?_toArray, hu'] at hu
      cases hu
      exact ru
    have new : ObjOk X.prog X.w (upd H s.heap.objs.size (.tup [.int (i : Nat), x])) h2 s.heap.objs.size (.tup [.int (i : Nat), x]) := ⟨(by decide : 2 ≤ sizeLine), [.int i tk, u], .cons ⟨_, rfl⟩ (.cons ru .nil), ⟨_, hT2, rfl, _, rfl⟩⟩
    have J : Inv X pins σ (upd H s.heap.objs.size (.tup [.int (i : Nat), x])) { s with heap := h2, toks := tk + 1 } :=
      I.turnedNew (ch := [e, it]) (fun b ob hb q => (sb.2 b fun z => hb (by simp [z])).trans (hk b ob (fun z => hb (by simp [z])) (fun z => hb (by simp [z])) q)) hf (Nat.le_refl _) new
    refine ⟨.ref s.heap.objs.size, _, J, rfl, ⟨_, x, rfl, I.hok.fresh (Nat.le_refl _), rfl, fun ys hy => (I.tuple_inj hy hq) ▸ hx⟩, ⟨⟨u, ?_⟩, st1.1.at fun o q => (sb.2 it (Ne.symm hne)).trans q⟩, fun b hb => ?_⟩
    · rw [show ((i + 1 : Nat) : Int) = (i : Int) + 1 by omega]; exact he2
    · refine (upd_ne fun z => ?_).trans (hf b hb).1
      rcases List.mem_cons.mp hb with y | y
      · rw [← y, z] at lte; exact Nat.lt_irrefl _ lte
      · have y := List.mem_singleton.mp y
        rw [← y, z] at lti; exact Nat.lt_irrefl _ lti
  done := by
    rintro X rfl rfl rfl hc i pins s σ H E I hf ⟨⟨old, he⟩, hit⟩ ⟨xs, hq, hx⟩
    obtain ⟨its, rv, p, _⟩ := I.tuple hq
    obtain ⟨f0, f1, f2, f3, f4, f5⟩ := hf it (by simp)
    have hi : its.toArray.size = i := by rw [List.size_toArray, ← rv.length, hx]
    exact wpAny_pyNext_enum_endD (Draws.tuple (A := X.A.in1) (I.ok.hd hc) it a hia its.toArray) he ⟨by rw [hi]; exact hit, (show s.heap.IsTuple a its.toArray from p)⟩ fun h' eb => ⟨rfl, I.turned (t' := s.toks) (fun b o hb q => eb b o hb q) f0 f1 f3 f4 f5⟩
  self := fun A i s Q E ⟨⟨_, he⟩, _⟩ h => wpAny_pyIter_enum he h
def iEnumA (K : PySem.W.Frag) (ta : TA) : TI := fun σ H R => ta σ H fun vs H1 => ∃ a xs, vs = [.ref a] ∧ ((SqL K H1 a xs ∧ R (Ite K a) H1) ∨ (SqT K H1 a xs ∧ R (IteT K a) H1))
theorem pi_enumA {X : Cx} {e : Expr} {ta : TA} {p pos tpos : Pos} {elts : List Expr} {kk : Nat} (hg : Gl X "enumerate") (hm : X.mg "enumerate" = none) (ha : PA X [e] ta) (hs : starEach [e] X.env = [(false, eval e X.env)]) :
    PI X (.Tuple elts kk tpos) (.Call (.Name "enumerate" p) [e] [] pos) (iEnumA X.K ta) := by
  refine ⟨fun pins s σ H R I h => Call_ (ld_blt I hg hm boot_enumerate (PyProof.Rows.callWith_type1 (thn (ha.run pos pins s σ H _ I h) fun us s1 ⟨vs, H1, I1, r1, a, xs, ex, q1⟩ => ?_) hs rfl))⟩
  subst ex
  cases r1 with
  | cons r rr =>
    cases rr
    cases r
    have fp : ∀ b ∈ [s1.heap.objs.size + 1, s1.heap.objs.size], s1.heap.objs.size ≤ b := fun b hb => by
      rcases List.mem_cons.mp hb with z | z
      · omega
      · have := List.mem_singleton.mp z; omega
    rcases q1 with ⟨hq, q⟩ | ⟨hq, q⟩
    · obtain ⟨its, rv, p', _⟩ := I1.list hq
      refine call_enumerate_list p'.isList fun h' he hit _ hk => wpAny_pyIter_enum he ?_
      exact ⟨_, _, _, _, H1, rfl, I1.kept (t' := s1.toks) hk, turn_enum a (s1.heap.objs.size + 1) s1.heap.objs.size, ⟨⟨.none, he⟩, hit, Nat.succ_ne_self _⟩, fun b hb => I1.fpOk (fp b hb) (I1.hok.fresh (fp b hb)), q⟩
    · obtain ⟨its, rv, p', _⟩ := I1.tuple hq
      have lta : a < s1.heap.objs.size := by obtain ⟨o, ho, _⟩ := id p'; exact Heap.lt_size ho
      refine call_enumT p' fun h' he hit hk => wpAny_pyIter_enum he ?_
      exact ⟨_, _, _, _, H1, rfl, I1.kept (t' := s1.toks) hk, turn_enumT a (s1.heap.objs.size + 1) s1.heap.objs.size (fun z => Nat.lt_irrefl _ (Nat.lt_trans (Nat.lt_succ_self _) (show s1.heap.objs.size + 1 < s1.heap.objs.size from z.symm ▸ lta))) (Nat.ne_of_lt lta) (Nat.succ_ne_self _), ⟨⟨.none, he⟩, hit⟩, fun b hb => I1.fpOk (fp b hb) (I1.hok.fresh (fp b hb)), q⟩
end PD
set_option maxHeartbeats 2000000
/-! PD10: what is walked; targets -/
namespace PD
open PySem PySem.Spec L2
section
variable (G : PC)
/-- it walks these items -/
structure WalksD (J : L2.It) (w0 : Wd) (ds : List D) : Prop where
  stop : ∀ w, Le0 w0 w → J.stop ds.length w.H
  go : ∀ i w, i < ds.length → Le0 w0 w → J.go i w.H
  yld : ∀ (i : Nat) d v w H', ds[i]? = some d → Le0 w0 w → Ok G w → J.yld i w.H v H' → ∃ w', w'.H = H' ∧ Le w w' ∧ w'.S = w.S ∧ Ok G w' ∧ Rep G w' d v
def PostI (W : WX) (w : Wd) (σ : L2.St) (o : LOut) (R : L2.It → Hp → Prop) : Prop := match o with
  | .ok ds S' => ∀ w', w'.S = S' → Ok G w' → Le w w' → ∀ J, WalksD G J w' ds → R J w'.H
  | .exc x S' => ∀ w', w'.S = S' → Ok G w' → Le w w' → ∀ cls od, XRep G w' x cls od → W cls od σ w'.H
  | .stuck => False
structure AtI (W : WX) (w : Wd) (ρ : Env') (σ : L2.St) (o : LOut) (R : L2.It → Hp → Prop) : Prop where
  ok : Ok G w
  env : REnv G w ρ σ
  post : PostI G W w σ o R
def tI (W : WX) (m : Env' → Store → LOut) : TI := fun σ H R => ∃ w ρ, w.H = H ∧ AtI G W w ρ σ (m ρ w.S) R
end
section
variable {G : PC} {cf : CallF} {lv : Nat} {C : CC} {X : Cx} {W : WX} {σ : L2.St} {w : Wd} {ρ : Env'} {R : L2.It → Hp → Prop}
theorem AtI.of_le {w' : Wd} {o : LOut} (env : REnv G w ρ σ) (l : Le w w') (ok : Ok G w') (p : PostI G W w σ o R) : AtI G W w' ρ σ o R := by
  refine ⟨ok, env.le l.toLe0, ?_⟩
  cases o with
  | ok d S' => exact fun w2 e ok2 l2 J r => p w2 e ok2 (l.trans l2) J r
  | exc x S' => exact fun w2 e ok2 l2 cls od r => p w2 e ok2 (l.trans l2) cls od r
  | stuck => exact p
theorem AtI.bindX {o : EOut} {f : D → Store → LOut} (h : AtI G W w ρ σ (o.bindL f) R) {Q : VK} (k : ∀ d v w', Le w w' → Rep G w' d v → AtI G W w' ρ σ (f d w'.S) R → Q v w'.H) : At G W w ρ σ o Q := by
  obtain ⟨ok, env, post⟩ := h
  refine ⟨ok, env, ?_⟩
  cases o with
  | ok d S' => exact fun w' e ok' l v r => k d v w' l r (AtI.of_le env l ok' (by rw [e]; exact post))
  | exc x S' => exact post
  | stuck => exact post
theorem AtI.r {ds : List D} {J : L2.It} (h : AtI G W w ρ σ (.ok ds w.S) R) (k : WalksD G J w ds) : R J w.H := h.post w rfl h.ok (Le.refl w) J k
theorem AtI.no {α : Prop} (h : AtI G W w ρ σ .stuck R) : α := h.post.elim
/-! ### lists, tuples, texts, ranges, zip -/
theorem LstAt.sqlL {a : Addr} {xs : List V} {w' : Wd} (h : LstAt G w a xs) (l : Le0 w w') : SqL G.K w'.H a xs := (h.le l).sql
theorem walks_lst {a : Addr} {vs : List V} {ds : List D} (h : LstAt G w a vs) (r : RepL G w ds vs) : WalksD G (Itl G.K a) w ds := by
  refine ⟨fun w' l => ⟨vs, h.sqlL l, by rw [r.length]; exact Nat.le_refl _⟩, fun i w' hi l => ?_, fun i d v w' H' e l ok y => ?_⟩
  · rw [r.length] at hi
    exact ⟨vs, vs[i], h.sqlL l, List.getElem?_eq_getElem hi⟩
  · obtain ⟨e1, y⟩ := y
    obtain ⟨u, hu, ru⟩ := r.get e
    have hv := y vs (h.sqlL l)
    rw [hu] at hv
    cases hv
    exact ⟨w', e1.symm, Le.refl _, rfl, ok, ru.le l⟩
theorem walks_tup {a : Addr} {vs : List V} {ds : List D} (h : TupAt G w a vs) (r : RepL G w ds vs) : WalksD G (Itt G.K a) w ds := by
  refine ⟨fun w' l => ⟨vs, (h.le l).sqt, by rw [r.length]; exact Nat.le_refl _⟩, fun i w' hi l => ?_, fun i d v w' H' e l ok y => ?_⟩
  · rw [r.length] at hi
    exact ⟨vs, vs[i], (h.le l).sqt, List.getElem?_eq_getElem hi⟩
  · obtain ⟨e1, y⟩ := y
    obtain ⟨u, hu, ru⟩ := r.get e
    have hv := y vs (h.le l).sqt
    rw [hu] at hv
    cases hv
    exact ⟨w', e1.symm, Le.refl _, rfl, ok, ru.le l⟩
theorem walks_str {z : Str} : WalksD G (Its z) w (z.cps.toList.map fun c => .str (T [c])) := by
  have hl : (z.cps.toList.map fun c => D.str (T [c])).length = z.cps.size := by simp
  refine ⟨fun w' l => by rw [hl]; exact Nat.le_refl _, fun i w' hi l => by rw [hl] at hi; exact hi, fun i d v w' H' e l ok y => ?_⟩
  obtain ⟨e1, c, hc, rfl⟩ := y
  rw [List.getElem?_map, Array.getElem?_toList, hc] at e
  cases e
  exact ⟨w', e1.symm, Le.refl _, rfl, ok, rfl, by show (1 : Nat) ≤ sizeLine; rw [sizeLine_eq]; decide⟩
theorem walks_rng {lo : Int} {n : Nat} : WalksD G (Itr lo n) w ((List.range n).map fun i => .int (lo + (i : Nat))) := by
  have hl : ((List.range n).map fun i => D.int (lo + (i : Nat))).length = n := by simp
  refine ⟨fun w' l => by rw [hl]; exact Nat.le_refl _, fun i w' hi l => by rw [hl] at hi; exact hi, fun i d v w' H' e l ok y => ?_⟩
  obtain ⟨e1, rfl⟩ := y
  rw [List.getElem?_map] at e
  have hi : i < n := by
    by_cases z : i < n
    · exact z
    · rw [List.getElem?_eq_none (by simpa using z)] at e; cases e
  rw [List.getElem?_range hi] at e
  cases e
  exact ⟨w', e1.symm, Le.refl _, rfl, ok, rfl⟩
theorem pair_put {d1 d2 : D} {x y : V} {p : Addr} (ok : Ok G w) (hp : w.H p = none) (r1 : Rep G w d1 x) (r2 : Rep G w d2 y) : ∃ w', w'.H = upd w.H p (.tup [x, y]) ∧ Le w w' ∧ w'.S = w.S ∧ Ok G w' ∧ Rep G w' (.tup [d1, d2]) (.ref p) :=
  ⟨w.put p (.tup [x, y]), rfl, Le.put ok hp, rfl, ok.put hp, p, [x, y], rfl, .inl ⟨ok.notMuPut hp, upd_same⟩, x, [y], rfl, r1.le (Le0.put hp), y, [], rfl, r2.le (Le0.put hp), rfl⟩
theorem zip_get {α β : Type} {xs : List α} {ys : List β} {i : Nat} {p : α × β} (h : (xs.zip ys)[i]? = some p) : xs[i]? = some p.1 ∧ ys[i]? = some p.2 := by
  rw [List.getElem?_zip_eq_some] at h
  exact h
theorem walks_zipL {a b : Addr} {us vs : List V} {xs ys : List D} (ha : LstAt G w a us) (hb : LstAt G w b vs) (ra : RepL G w xs us) (rb : RepL G w ys vs) : WalksD G (Itz G.K a b) w ((xs.zip ys).map fun p => .tup [p.1, p.2]) := by
  have la := ra.length
  have lb := rb.length
  refine ⟨fun w' l => ⟨us, vs, ha.sqlL l, hb.sqlL l, by simp; omega⟩, fun i w' hi l => ?_, fun i d v w' H' e l ok y => ?_⟩
  · have hi : i < us.length ∧ i < vs.length := by simp at hi; omega
    exact ⟨us, vs, us[i], vs[i], ha.sqlL l, hb.sqlL l, List.getElem?_eq_getElem hi.1, List.getElem?_eq_getElem hi.2⟩
  · obtain ⟨p, x, y, rfl, hn, rfl, h1, h2⟩ := y
    rw [List.getElem?_map] at e
    obtain ⟨q, hq, rfl⟩ := Option.map_eq_some_iff.mp e
    obtain ⟨q1, q2⟩ := zip_get hq
    obtain ⟨u, hu, ru⟩ := ra.get q1
    obtain ⟨v, hv, rv⟩ := rb.get q2
    have e1 := h1 us (ha.sqlL l)
    have e2 := h2 vs (hb.sqlL l)
    rw [hu] at e1
    rw [hv] at e2
    cases e1
    cases e2
    exact pair_put ok hn (ru.le l) (rv.le l)
theorem walks_zipT {a b : Addr} {us vs : List V} {xs ys : List D} (ha : TupAt G w a us) (hb : TupAt G w b vs) (ra : RepL G w xs us) (rb : RepL G w ys vs) : WalksD G (RZ.ItzT G.K a b) w ((xs.zip ys).map fun p => .tup [p.1, p.2]) := by
  have la := ra.length
  have lb := rb.length
  refine ⟨fun w' l => ⟨us, vs, (ha.le l).sqt, (hb.le l).sqt, by simp; omega⟩, fun i w' hi l => ?_, fun i d v w' H' e l ok y => ?_⟩
  · have hi : i < us.length ∧ i < vs.length := by simp at hi; omega
    exact ⟨us, vs, us[i], vs[i], (ha.le l).sqt, (hb.le l).sqt, List.getElem?_eq_getElem hi.1, List.getElem?_eq_getElem hi.2⟩
  · obtain ⟨p, x, y, rfl, hn, rfl, h1, h2⟩ := y
    rw [List.getElem?_map] at e
    obtain ⟨q, hq, rfl⟩ := Option.map_eq_some_iff.mp e
    obtain ⟨q1, q2⟩ := zip_get hq
    obtain ⟨u, hu, ru⟩ := ra.get q1
    obtain ⟨v, hv, rv⟩ := rb.get q2
    have e1 := h1 us (ha.le l).sqt
    have e2 := h2 vs (hb.le l).sqt
    rw [hu] at e1
    rw [hv] at e2
    cases e1
    cases e2
    exact pair_put ok hn (ru.le l) (rv.le l)
theorem walks_enum {a : Addr} {us : List V} {xs : List D} (ha : LstAt G w a us) (ra : RepL G w xs us) : WalksD G (Ite G.K a) w (((List.range xs.length).zip xs).map fun p => .tup [.int (p.1 : Nat), p.2]) := by
  have la := ra.length
  refine ⟨fun w' l => ⟨us, ha.sqlL l, by simp; omega⟩, fun i w' hi l => ?_, fun i d v w' H' e l ok y => ?_⟩
  · have hi : i < us.length := by simp at hi; omega
    exact ⟨us, us[i], ha.sqlL l, List.getElem?_eq_getElem hi⟩
  · obtain ⟨p, x, rfl, hn, rfl, h1⟩ := y
    rw [List.getElem?_map] at e
    obtain ⟨q, hq, rfl⟩ := Option.map_eq_some_iff.mp e
    obtain ⟨q1, q2⟩ := zip_get hq
    obtain ⟨u, hu, ru⟩ := ra.get q2
    have e1 := h1 us (ha.sqlL l)
    rw [hu] at e1
    cases e1
    have e2 : q.1 = i := by
      have hi : i < xs.length := by
        by_cases z : i < xs.length
        · exact z
        · rw [List.getElem?_eq_none (by simpa using z)] at q1; cases q1
      rw [List.getElem?_range hi] at q1
      exact (Option.some.inj q1).symm
    rw [← e2]
    exact pair_put ok hn rfl (ru.le l)
theorem walks_enumT {a : Addr} {us : List V} {xs : List D} (ha : TupAt G w a us) (ra : RepL G w xs us) : WalksD G (IteT G.K a) w (((List.range xs.length).zip xs).map fun p => .tup [.int (p.1 : Nat), p.2]) := by
  have la := ra.length
  refine ⟨fun w' l => ⟨us, (ha.le l).sqt, by simp; omega⟩, fun i w' hi l => ?_, fun i d v w' H' e l ok y => ?_⟩
  · have hi : i < us.length := by simp at hi; omega
    exact ⟨us, us[i], (ha.le l).sqt, List.getElem?_eq_getElem hi⟩
  · obtain ⟨p, x, rfl, hn, rfl, h1⟩ := y
    rw [List.getElem?_map] at e
    obtain ⟨q, hq, rfl⟩ := Option.map_eq_some_iff.mp e
    obtain ⟨q1, q2⟩ := zip_get hq
    obtain ⟨u, hu, ru⟩ := ra.get q2
    have e1 := h1 us ((ha.le l).sqt)
    rw [hu] at e1
    cases e1
    have e2 : q.1 = i := by
      have hi : i < xs.length := by
        by_cases z : i < xs.length
        · exact z
        · rw [List.getElem?_eq_none (by simpa using z)] at q1; cases q1
      rw [List.getElem?_range hi] at q1
      exact (Option.some.inj q1).symm
    rw [← e2]
    exact pair_put ok hn rfl (ru.le l)
/-- a list, a tuple, a text -/
theorem pi_val {tg e : Expr} {te : TE} (he : PE X e te) : PI X tg e (fun σ H R => te σ H fun x H1 => (∃ a, x = .ref a ∧ (∃ xs, SqL X.K H1 a xs) ∧ R (Itl X.K a) H1) ∨ (∃ a, x = .ref a ∧ (∃ xs, SqT X.K H1 a xs) ∧ R (Itt X.K a) H1) ∨ ∃ z, x = .str z ∧ R (Its z) H1) := by
  refine ⟨fun pins s σ H R I h => ?_⟩
  refine thn (he.run pins s σ H _ I h) fun v s1 ⟨x, H1, I1, r1, q1⟩ => ?_
  rcases q1 with ⟨a, e, ⟨xs, hq⟩, q⟩ | ⟨a, e, ⟨xs, hq⟩, q⟩ | ⟨z, e, q⟩
  · subst e
    cases r1
    obtain ⟨its, rv, p, hz⟩ := I1.list hq
    refine wpAny_pyIter_list p.isList ?_
    refine ⟨s1.heap.objs.size, [s1.heap.objs.size], _, _, H1, rfl, I1.kept (t' := s1.toks) fun b o e => Heap.get?_push_of_some _ e, turn_list a _, ⟨_, Heap.get?_push_size _ rfl, rfl, rfl⟩, fun b hb => ?_, q⟩
    have e : b = s1.heap.objs.size := by simpa using hb
    subst e
    exact I1.fpOk (Nat.le_refl _) (I1.hok.fresh (Nat.le_refl _))
  · subst e
    cases r1
    obtain ⟨its, rv, p, hz⟩ := I1.tuple hq
    refine wpAny_pyIter_tuple (show s1.heap.IsTuple a its.toArray from p) ?_
    refine ⟨s1.heap.objs.size, [s1.heap.objs.size], _, _, H1, rfl, I1.kept (t' := s1.toks) fun b o e => Heap.get?_push_of_some _ e, turn_tuple a _, ⟨_, Heap.get?_push_size _ rfl, rfl, rfl⟩, fun b hb => ?_, q⟩
    have e : b = s1.heap.objs.size := by simpa using hb
    subst e
    exact I1.fpOk (Nat.le_refl _) (I1.hok.fresh (Nat.le_refl _))
  · subst e
    obtain ⟨t, rfl⟩ := r1
    cases ha : z.cps.all (· < 128)
    · exact wpAny_pyIter_wide ha (pi_one (tk := s1.toks) I1 _ (turn_str _ z t "str_iterator" (.inr rfl)) ⟨_, Heap.get?_push_size _ rfl, rfl, rfl⟩ q)
    · exact wpAny_pyIter_ascii ha (pi_one (tk := s1.toks) I1 _ (turn_str _ z t "str_ascii_iterator" (.inl rfl)) ⟨_, Heap.get?_push_size _ rfl, rfl, rfl⟩ q)
theorem pi_imp {tg e : Expr} {t t' : TI} (h : PI X tg e t) (k : ∀ σ H R, t' σ H R → t σ H R) : PI X tg e t' := ⟨fun pins s σ H R I q => h.run pins s σ H R I (k σ H R q)⟩
/-! ### targets -/
theorem foldl_set_none {is : List Nat} : ∀ {xs : List D} {ρ : Env'}, ((is.zip xs).foldl (fun ρ p => ρ.set p.1 (some p.2)) ρ).length = ρ.length := by
  induction is with
  | nil => intro xs ρ; simp
  | cons i is ih =>
    intro xs ρ
    cases xs with
    | nil => simp
    | cons x xs => rw [List.zip_cons_cons, List.foldl_cons, ih]; simp
def gNames : List Nat → TGs
  | [] => gNil
  | i :: r => gCons (gName i) (gNames r)
theorem locN_ok (c : Cok G cf lv C X W) {b : Bool} (hb : b = true → ∀ x, X.fn x = true) {n : Str} (h : locN C b n = true) : Loc X.env.scope n ∧ (X.fn n = true ∨ X.env.scope.names.lookup n = some .local) := by
  rw [c.sc]
  rcases Bool.or_eq_true_iff.mp h with h | h
  · exact ⟨.inl (of_decide_eq_true h), .inr (of_decide_eq_true h)⟩
  · obtain ⟨h1, h2⟩ := PD.ba h
    exact ⟨.inr (of_decide_eq_true h2), .inl (hb h1 n)⟩
theorem name_pg (c : Cok G cf lv C X W) {b : Bool} (hb : b = true → ∀ x, X.fn x = true) {i : Nat} {x : Expr} (h : nameB C b i x = true) : PG X x (gName i) ∧ ∃ n p, x = .Name n p := by
  unfold nameB at h
  split at h
  · rename_i n p
    obtain ⟨h1, h2⟩ := PD.ba h
    obtain ⟨k1, k2⟩ := locN_ok c hb h2
    exact ⟨pg_name c.nd (by rw [c.N]; exact of_decide_eq_true h1) k1 k2, n, p, rfl⟩
  · cases h
theorem names_pgs (c : Cok G cf lv C X W) {b : Bool} (hb : b = true → ∀ x, X.fn x = true) : ∀ {is : List Nat} {xs : List Expr}, is.length = xs.length → ((is.zip xs).all fun p => nameB C b p.1 p.2) = true →
    PGs X xs (gNames is) ∧ (assignEach xs X.env).length = is.length ∧ (assignEach xs X.env).findIdx? (·.1) = none
  | [], [], _, _ => ⟨pgs_nil, rfl, rfl⟩
  | [], _ :: _, h, _ => by cases h
  | _ :: _, [], h, _ => by cases h
  | i :: is, x :: xs, hl, h => by
    rw [List.zip_cons_cons, List.all_cons] at h
    obtain ⟨h1, h2⟩ := PD.ba h
    obtain ⟨p1, n, p, rfl⟩ := name_pg c hb h1
    obtain ⟨p2, l2, f2⟩ := names_pgs c hb (Nat.succ.inj hl) h2
    refine ⟨pgs_cons p1 p2 rfl, ?_, ?_⟩
    · show (assignEach xs X.env).length + 1 = is.length + 1
      rw [l2]
    · show List.findIdx? (·.1) ((false, _) :: assignEach xs X.env) = none
      rw [List.findIdx?_cons, f2]; rfl
theorem gNames_ok {D' : L2.St → Hp → Prop} : ∀ {is : List Nat} {ds : List D} {vs : List V} {ρ : Env'} {σ : L2.St}, is.length = ds.length → RepL G w ds vs → REnv G w ρ σ →
    (∀ σ', REnv G w ((is.zip ds).foldl (fun ρ p => ρ.set p.1 (some p.2)) ρ) σ' → (σ'.length = σ.length ∧ ∀ j, j ∉ is → σ'[j]? = σ[j]?) → D' σ' w.H) → gNames is vs σ w.H D'
  | [], [], vs, ρ, σ, _, r, e, k => ⟨r, k σ e ⟨rfl, fun _ _ => rfl⟩⟩
  | [], _ :: _, _, _, _, h, _, _, _ => by cases h
  | _ :: _, [], _, _, _, h, _, _, _ => by cases h
  | i :: is, d :: ds, vs, ρ, σ, hl, ⟨v, r, e1, h1, h2⟩, e, k => by
    refine ⟨v, r, e1, ?_⟩
    refine gNames_ok (Nat.succ.inj hl) h2 (e.set h1) fun σ' e' al => k σ' e' ⟨by rw [al.1]; simp, fun j hj => ?_⟩
    rw [al.2 j fun z => hj (List.mem_cons_of_mem _ z), List.getElem?_set_ne fun z => hj (by rw [← z]; exact List.mem_cons_self)]
/-- alike but for some slots -/
def Alike (vs : List Nat) (σ σ' : L2.St) : Prop := σ'.length = σ.length ∧ ∀ j, j ∉ vs → σ'[j]? = σ[j]?
def gD (G : PC) (t : Tg) : TG := fun v σ H Q => ∃ w ρ d ρ', w.H = H ∧ Ok G w ∧ REnv G w ρ σ ∧ Rep G w d v ∧ bindT t d ρ = some ρ' ∧ ∀ σ', REnv G w ρ' σ' → Alike t.slots σ σ' → Q σ' w.H
theorem pg_imp {x : Expr} {t t' : TG} (h : PG X x t) (k : ∀ v σ H Q, t' v σ H Q → t v σ H Q) : PG X x t' := ⟨fun pins s σ H v u Q I r q => h.run pins s σ H v u Q I r (k v σ H Q q)⟩
theorem Alike.trans {a b : List Nat} {σ σ1 σ2 : L2.St} (h : Alike a σ σ1) (k : Alike b σ1 σ2) : Alike (a ++ b) σ σ2 :=
  ⟨k.1.trans h.1, fun j hj => by rw [k.2 j fun z => hj (List.mem_append_right _ z), h.2 j fun z => hj (List.mem_append_left _ z)]⟩
def gNest (G : PC) : List Tg → TGs
  | [] => gNil
  | t :: ts => gCons (gD G t) (gNest G ts)
theorem gNest_ok {D' : L2.St → Hp → Prop} : ∀ {ts : List Tg} {ds : List D} {vs : List V} {ρ ρ' : Env'} {σ : L2.St}, Ok G w → RepL G w ds vs → REnv G w ρ σ → bindTs ts ds ρ = some ρ' →
    (∀ σ', REnv G w ρ' σ' → Alike (slotsL ts) σ σ' → D' σ' w.H) → gNest G ts vs σ w.H D'
  | [], ds, vs, ρ, ρ', σ, ok, r, env, hb, k => by
    cases ds with
    | nil => cases hb; exact ⟨r, k σ env ⟨rfl, fun _ _ => rfl⟩⟩
    | cons d ds => cases hb
  | t :: ts, ds, vs, ρ, ρ', σ, ok, r, env, hb, k => by
    cases ds with
    | nil => cases hb
    | cons d ds =>
      obtain ⟨v, us, e, r1, r2⟩ := r
      have hb : (match bindT t d ρ with | some ρ => bindTs ts ds ρ | none => none) = some ρ' := by unfold bindTs at hb; exact hb
      cases q : bindT t d ρ with
      | none => rw [q] at hb; cases hb
      | some ρ1 =>
        rw [q] at hb
        refine ⟨v, us, e, w, ρ, d, ρ1, rfl, ok, env, r1, q, fun σ1 env1 al1 => ?_⟩
        exact gNest_ok ok r2 env1 hb fun σ2 env2 al2 => k σ2 env2 (al1.trans al2)
theorem gNest_len {ts : List Tg} : ∀ {ds : List D} {ρ ρ' : Env'}, bindTs ts ds ρ = some ρ' → ds.length = ts.length := by
  induction ts with
  | nil => intro ds ρ ρ' h; cases ds with
    | nil => rfl
    | cons _ _ => cases h
  | cons t ts ih =>
    intro ds ρ ρ' h
    cases ds with
    | nil => cases h
    | cons d ds =>
      unfold bindTs at h
      dsimp only at h
      split at h
      · rw [List.length_cons, List.length_cons, ih h]
      · cases h
theorem cool_of {b : Bool} (h : (!b) = true) : b = false := by simpa using h
mutual
theorem tg_ok (c : Cok G cf lv C X W) {b : Bool} (hb : b = true → ∀ x, X.fn x = true) : ∀ {t : Tg} {x : Expr}, tgB C b t x = true → PG X x (gD G t)
  | .name i, x, h => by
    unfold tgB at h
    obtain ⟨p, _⟩ := name_pg c hb h
    refine pg_imp p fun v σ H Q ⟨w, ρ, d, ρ', e, ok, env, r, hb, k⟩ => ?_
    subst e
    unfold bindT at hb
    cases hb
    exact k _ (env.set r) ⟨by simp, fun j hj => List.getElem?_set_ne fun z => hj (by rw [← z]; exact List.mem_cons_self)⟩
  | .tup is, x, h => by
    unfold tgB at h
    split at h
    · rename_i xs kk pp
      obtain ⟨h0, h⟩ := PD.ba h
      obtain ⟨h1, h2⟩ := PD.ba h
      have h1 := eq_of_beq h1
      obtain ⟨p, l, f⟩ := names_pgs c hb h1 h2
      refine pg_imp (pg_tup (n := is.length) (c.calm (cool_of h0)) p l f) fun v σ H Q ⟨w, ρ, d, ρ', e, ok, env, r, hb, k⟩ => ?_
      subst e
      unfold bindT at hb
      cases d with
      | tup ds =>
        have hb' : (if ds.length = is.length then some ((is.zip ds).foldl (fun ρ p => ρ.set p.1 (some p.2)) ρ) else none) = some ρ' := hb
        split at hb'
        · rename_i hl
          cases hb'
          obtain ⟨a, vs, e1, t, rl⟩ := r
          exact ⟨a, vs, e1, by rw [c.K]; exact t.sqt, by rw [← rl.length]; exact hl, gNames_ok hl.symm rl env k⟩
        · cases hb'
      | _ => cases hb
    · cases h
  | .nest ts, x, h => by
    unfold tgB at h
    split at h
    · rename_i xs kk pp
      obtain ⟨h0, h⟩ := PD.ba h
      obtain ⟨p, l, f⟩ := tgs_ok c hb h
      refine pg_imp (pg_tup (n := ts.length) (c.calm (cool_of h0)) p l f) fun v σ H Q ⟨w, ρ, d, ρ', e, ok, env, r, hb, k⟩ => ?_
      subst e
      unfold bindT at hb
      cases d with
      | tup ds =>
        obtain ⟨a, vs, e1, t, rl⟩ := r
        have hb : bindTs ts ds ρ = some ρ' := hb
        exact ⟨a, vs, e1, by rw [c.K]; exact t.sqt, by rw [← rl.length]; exact gNest_len hb, gNest_ok ok rl env hb k⟩
      | _ => cases hb
    · cases h
theorem tgs_ok (c : Cok G cf lv C X W) {b : Bool} (hb : b = true → ∀ x, X.fn x = true) : ∀ {ts : List Tg} {xs : List Expr}, tgBs C b ts xs = true →
    PGs X xs (gNest G ts) ∧ (assignEach xs X.env).length = ts.length ∧ (assignEach xs X.env).findIdx? (·.1) = none
  | [], xs, h => by
    unfold tgBs at h
    split at h
    · exact ⟨pgs_nil, rfl, rfl⟩
    · cases h
  | t :: ts, xs, h => by
    unfold tgBs at h
    split at h
    · rename_i x xs
      obtain ⟨h1, h2⟩ := PD.ba h
      have p1 := tg_ok c hb h1
      obtain ⟨p2, l2, f2⟩ := tgs_ok c hb h2
      have sh : assignEach (x :: xs) X.env = (false, assign x X.env) :: assignEach xs X.env := by
        cases t with
        | name i =>
          unfold tgB at h1
          obtain ⟨_, n, p, rfl⟩ := name_pg c hb h1
          rfl
        | tup is =>
          unfold tgB at h1
          split at h1
          · rfl
          · cases h1
        | nest is =>
          unfold tgB at h1
          split at h1
          · rfl
          · cases h1
      refine ⟨pgs_cons p1 p2 (by rw [sh]; rfl), ?_, ?_⟩
      · rw [sh, List.length_cons, l2, List.length_cons]
      · rw [sh, List.findIdx?_cons, f2]; rfl
    · cases h
end
end
end PD
set_option maxHeartbeats 2000000
/-! PD11: comprehensions -/
namespace PD
open PySem PySem.Spec L2
section
variable {G : PC} {cf : CallF} {lv : Nat} {C : CC} {X : Cx} {W : WX} {σ : L2.St} {w : Wd} {ρ : Env'} {Q : VK}
theorem upd_self {H : Hp} {a : Addr} {o : HO} (h : H a = some o) : upd H a o = H := by
  funext b
  unfold upd
  split
  · rename_i e; rw [e, h]
  · rfl
theorem compGo_notExc {g : D → Store → Option (Option D × Store)} : ∀ {xs : List D} {S : Store} {x : Exn} {S' : Store}, compGo g xs S ≠ .exc x S'
  | [], _, _, _, h => by cases h
  | d :: xs, S, x, S', h => by
    unfold compGo at h
    split at h
    · rename_i y S1 _
      cases q : compGo g xs S1 with
      | ok ds S2 => rw [q] at h; cases h
      | exc x S2 => exact compGo_notExc q
      | stuck => rw [q] at h; cases h
    · cases h
theorem compGo_cons {g : D → Store → Option (Option D × Store)} {d : D} {xs : List D} {S S2 : Store} {ys : List D} (h : compGo g (d :: xs) S = .ok ys S2) :
    ∃ y S1 rest, g d S = some (y, S1) ∧ compGo g xs S1 = .ok rest S2 ∧ ys = (match y with | some y => y :: rest | none => rest) := by
  unfold compGo at h
  split at h
  · rename_i y S1 hg
    cases q : compGo g xs S1 with
    | ok ds S3 =>
      rw [q] at h
      cases h
      exact ⟨y, S1, ds, hg, q, rfl⟩
    | exc x S3 => rw [q] at h; cases h
    | stuck => rw [q] at h; cases h
  · cases h
theorem wipe_get {σ : L2.St} {j : Nat} : ∀ {vs : List Nat}, (wipe σ vs)[j]? = if j ∈ vs then (if j < σ.length then some none else none) else σ[j]?
  | [] => by simp [wipe]
  | v :: vs => by
    unfold wipe
    by_cases hv : v = j
    · subst hv
      by_cases hl : v < σ.length
      · rw [List.getElem?_set_self (by rw [wipe_length]; exact hl)]; simp [hl]
      · rw [List.getElem?_eq_none (by rw [List.length_set, wipe_length]; omega)]; simp [hl]
    · rw [List.getElem?_set_ne hv, wipe_get (vs := vs)]
      have : (j ∈ v :: vs) ↔ j ∈ vs := by simp [Ne.symm hv]
      by_cases hm : j ∈ vs
      · simp [hm]
      · rw [if_neg hm, if_neg (by rw [this]; exact hm)]
theorem wipe_alike {σ σ' : L2.St} {vs us : List Nat} (a : Alike us (wipe σ vs) σ') (h : ∀ i ∈ us, i ∈ vs) : wipe σ' vs = wipe σ vs := by
  refine List.ext_getElem? fun j => ?_
  have hl : σ'.length = σ.length := by rw [a.1, wipe_length]
  rw [wipe_get, wipe_get]
  by_cases hj : j ∈ vs
  · rw [if_pos hj, if_pos hj, hl]
  · rw [if_neg hj, if_neg hj, a.2 j fun z => hj (h j z), wipe_get, if_neg hj]
theorem wipe_env : ∀ {vs : List Nat}, REnv G w ρ σ → REnv G w (wipeD ρ vs) (wipe σ vs)
  | [], h => h
  | v :: vs, h => by
    have ih := wipe_env (vs := vs) h
    refine ⟨by unfold wipeD wipe; rw [List.length_set, List.length_set, ih.1], fun i d e => ?_, ih.inv⟩
    unfold wipeD at e
    unfold wipe
    by_cases hv : v = i
    · subst hv
      by_cases hl : v < (wipeD ρ vs).length
      · rw [List.getElem?_set_self hl] at e; cases e
      · rw [List.getElem?_eq_none (by simpa using hl)] at e; cases e
    · rw [List.getElem?_set_ne hv] at e
      rcases ih.at_ i d e with ⟨v', e1, r⟩ | ⟨z, f, e1, e2⟩
      · exact .inl ⟨v', by rw [List.getElem?_set_ne hv]; exact e1, r⟩
      · subst z
        exact .inr ⟨rfl, f, e1, by rw [List.getElem?_set_ne hv]; exact e2⟩
/-- a comprehension's tests on data -/
def tCond (G : PC) (m : Env' → Store → Option (Bool × Store)) : TT := fun σ H Q => ∃ w ρ b S', w.H = H ∧ Ok G w ∧ REnv G w ρ σ ∧ m ρ w.S = some (b, S') ∧ ∀ w', w'.S = S' → Ok G w' → Le w w' → Q b w'.H
theorem pts_imp {xs : List Expr} {t t' : TT} (h : PTs X xs t) (k : ∀ σ H Q, t' σ H Q → t σ H Q) : PTs X xs t' := ⟨fun pins s σ H Q I q => h.run pins s σ H Q I (k σ H Q q)⟩
abbrev noW : WX := fun _ _ _ _ => False
/-- the turn of a comprehension on data -/
def turnD (tg : Tg) (vs : List Nat) (mc : Env' → Store → Option (Bool × Store)) (me : Env' → Store → EOut) (ρ : Env') (x : D) (S : Store) : Option (Option D × Store) :=
  match bindT tg x (wipeD ρ vs) with
  | some ρ' => match mc ρ' S with
    | some (true, S) => match me ρ' S with
      | .ok d S => some (some d, S)
      | _ => none
    | some (false, S) => some (none, S)
    | none => none
  | none => none
theorem comp_ok {m : Bool} {vs : List Nat} {tg : Tg} {mI : Env' → Store → LOut} {mc : Env' → Store → Option (Bool × Store)} {me : Env' → Store → EOut} (ht : ∀ i ∈ tg.slots, i ∈ vs)
    (h : At G W w ρ σ ((mI ρ w.S).bind fun xs S => (compGo (turnD tg vs mc me ρ) xs S).bind (newL m)) Q) :
    tLc (tI G W mI) (gD G tg) (tCond G mc) (tD G noW me) vs σ w.H Q := by
  obtain ⟨ok, env, post⟩ := h
  refine ⟨w, ρ, rfl, ok, env, ?_⟩
  cases hm : mI ρ w.S with
  | exc x S' => rw [hm] at post; exact post
  | stuck => rw [hm] at post; exact post
  | ok xs S1 =>
    rw [hm] at post
    intro w1 e1 ok1 l1 J wk Dd hD
    have post1 : PostE G W w1 σ ((compGo (turnD tg vs mc me ρ) xs w1.S).bind (newL m)) Q := by
      rw [e1]
      exact (At.of_le env l1 ok1 post).post
    have env1 : REnv G w1 ρ σ := env.le l1.toLe0
    cases hc : compGo (turnD tg vs mc me ρ) xs w1.S with
    | exc x S' => exact (compGo_notExc hc).elim
    | stuck => rw [hc] at post1; exact post1.elim
    | ok ys S2 =>
      rw [hc] at post1
      have lO : Le0 w1 (w1.open' Dd (.lst [])) := Le0.open' ok1 hD
      have hys : ys.length ≤ sizeLine := by
        have p : PostE G W w1 σ (newL m ys S2) Q := post1
        unfold newL at p
        split at p
        · assumption
        · exact p.elim
      refine ⟨fun i n H => n = xs.length - i ∧ i ≤ xs.length ∧ ∃ w2 acc accV rest, w2.H = H ∧ Ok G w2 ∧ w2.pv = Dd :: w1.pv ∧ Le0 (w1.open' Dd (.lst [])) w2 ∧ (∀ a ∈ w1.pv, w2.H a = w1.H a) ∧ w2.H Dd = some (.lst accV) ∧ RepL G w2 acc accV ∧
          compGo (turnD tg vs mc me ρ) (xs.drop i) w2.S = .ok rest S2 ∧ ys = acc ++ rest,
        ⟨xs.length, rfl, Nat.zero_le _, w1.open' Dd (.lst []), [], [], ys, rfl, ok1.open' hD, rfl, .refl _, fun a ha => ?_, upd_same, rfl, hc, rfl⟩, ?_⟩
      · exact upd_ne fun z => by subst z; exact not_pv ok1 hD ha
      · rintro i n H ⟨rfl, hi, w2, acc, accV, rest, rfl, ok2, pv2, l2, k2, hD2, ra, hr, hacc⟩
        by_cases hlt : i < xs.length
        · -- a turn
          have hd : xs.drop i = xs[i] :: xs.drop (i + 1) := List.drop_eq_getElem_cons hlt
          rw [hd] at hr
          obtain ⟨y, S3, rest', hg, hr', hrest⟩ := compGo_cons hr
          refine .inr ⟨wk.go i w2 hlt (lO.trans l2), fun H' => ∃ m', m' < xs.length - i ∧ (m' = xs.length - (i + 1) ∧ i + 1 ≤ xs.length ∧ ∃ w2 acc accV rest, w2.H = H' ∧ Ok G w2 ∧ w2.pv = Dd :: w1.pv ∧ Le0 (w1.open' Dd (.lst [])) w2 ∧ (∀ a ∈ w1.pv, w2.H a = w1.H a) ∧ w2.H Dd = some (.lst accV) ∧ RepL G w2 acc accV ∧
            compGo (turnD tg vs mc me ρ) (xs.drop (i + 1)) w2.S = .ok rest S2 ∧ ys = acc ++ rest), fun H' h => h, fun x H' hy => ?_⟩
          obtain ⟨w3, rfl, l3, s3, ok3, r3⟩ := wk.yld i xs[i] x w2 H' (List.getElem?_eq_getElem hlt) (lO.trans l2) ok2 hy
          unfold turnD at hg
          cases hb : bindT tg xs[i] (wipeD ρ vs) with
          | none => rw [hb] at hg; cases hg
          | some ρ' =>
            rw [hb] at hg
            dsimp only at hg
            have env3 : REnv G w3 (wipeD ρ vs) (wipe σ vs) := (wipe_env env1).le (lO.trans (l2.trans l3.toLe0))
            refine ⟨w3, wipeD ρ vs, xs[i], ρ', rfl, ok3, env3, r3, hb, fun σ2 env2 al => ⟨wipe_alike al ht, ?_⟩⟩
            -- the end of a turn
            have step : ∀ (w5 : Wd) (z : Option D) (zV : Option V), Le w3 w5 → Ok G w5 → w5.S = S3 → y = z → (match z, zV with | some d, some v => Rep G w5 d v | none, none => True | _, _ => False) →
                ∃ (accV' : List V), w5.H Dd = some (.lst accV) ∧ (match zV with | some v => accV.length < sizeLine ∧ accV' = accV ++ [v] | none => accV' = accV) ∧
                  ∃ m', m' < xs.length - i ∧ (m' = xs.length - (i + 1) ∧ i + 1 ≤ xs.length ∧ ∃ w2 acc accV rest, w2.H = upd w5.H Dd (.lst accV') ∧ Ok G w2 ∧ w2.pv = Dd :: w1.pv ∧ Le0 (w1.open' Dd (.lst [])) w2 ∧ (∀ a ∈ w1.pv, w2.H a = w1.H a) ∧ w2.H Dd = some (.lst accV) ∧ RepL G w2 acc accV ∧
                    compGo (turnD tg vs mc me ρ) (xs.drop (i + 1)) w2.S = .ok rest S2 ∧ ys = acc ++ rest) := by
              intro w5 z zV l5 ok5 s5 hz hzr
              have pv5 : w5.pv = Dd :: w1.pv := by rw [l5.pvE, l3.pvE, pv2]
              have h5 : w5.H Dd = some (.lst accV) := by
                rw [l5.pvK Dd (by rw [l3.pvE, pv2]; exact List.mem_cons_self), l3.pvK Dd (by rw [pv2]; exact List.mem_cons_self)]
                exact hD2
              have k5 : ∀ a ∈ w1.pv, w5.H a = w1.H a := fun a ha => by
                rw [l5.pvK a (by rw [l3.pvE, pv2]; exact List.mem_cons_of_mem _ ha), l3.pvK a (by rw [pv2]; exact List.mem_cons_of_mem _ ha)]
                exact k2 a ha
              have mem5 : Dd ∈ w5.pv := by rw [pv5]; exact List.mem_cons_self
              have nD : Dd ∉ w1.pv := not_pv ok1 hD
              have la := ra.length
              subst hz
              cases y with
              | none =>
                cases zV with
                | some _ => exact hzr.elim
                | none =>
                  refine ⟨accV, h5, rfl, xs.length - (i + 1), by omega, rfl, hlt, w5.chg Dd (.lst accV), acc, accV, rest', rfl, ok5.chg mem5, pv5, l2.trans (l3.toLe0.trans (l5.toLe0.trans (Le0.chg mem5))), fun a ha => ?_, upd_same, (ra.le (l3.toLe0.trans l5.toLe0)).le (Le0.chg mem5), by rw [s5]; exact hr', ?_⟩
                  · exact (upd_ne fun z => nD (by rw [← z]; exact ha)).trans (k5 a ha)
                  · rw [hacc, hrest]
              | some d =>
                cases zV with
                | none => exact hzr.elim
                | some v =>
                  have hlen : accV.length < sizeLine := by
                    have : ys.length = acc.length + (rest'.length + 1) := by rw [hacc, hrest]; simp
                    omega
                  refine ⟨accV ++ [v], h5, ⟨hlen, rfl⟩, xs.length - (i + 1), by omega, rfl, hlt, w5.chg Dd (.lst (accV ++ [v])), acc ++ [d], accV ++ [v], rest', rfl, ok5.chg mem5, pv5, l2.trans (l3.toLe0.trans (l5.toLe0.trans (Le0.chg mem5))), fun a ha => ?_, upd_same, ?_, by rw [s5]; exact hr', ?_⟩
                  · exact (upd_ne fun z => nD (by rw [← z]; exact ha)).trans (k5 a ha)
                  · exact ((ra.le (l3.toLe0.trans l5.toLe0)).le (Le0.chg mem5)).append ⟨v, [], rfl, Rep.le (Le0.chg mem5) hzr, rfl⟩
                  · rw [hacc, hrest]; simp
            cases hk : mc ρ' w2.S with
            | none => rw [hk] at hg; cases hg
            | some bs =>
              obtain ⟨b, S4⟩ := bs
              rw [hk] at hg
              refine ⟨w3, ρ', b, S4, rfl, ok3, env2, by rw [s3]; exact hk, fun w4 s4 ok4 l4 => ?_⟩
              cases b with
              | false =>
                rw [if_neg Bool.false_ne_true]
                dsimp only at hg
                cases hg
                obtain ⟨accV', h5, hA, hm⟩ := step w4 none none l4 ok4 s4 rfl trivial
                have hA : accV' = accV := hA
                rw [hA, upd_self h5] at hm
                exact hm
              | true =>
                rw [if_pos rfl]
                dsimp only at hg
                cases he : me ρ' S4 with
                | exc x S5 => rw [he] at hg; cases hg
                | stuck => rw [he] at hg; cases hg
                | ok d S5 =>
                  rw [he] at hg
                  cases hg
                  refine ⟨w4, ρ', rfl, ok4, env2.le l4.toLe0, ?_⟩
                  rw [s4, he]
                  intro w5 s5 ok5 l5 v rv
                  obtain ⟨accV', h5, hA, hm⟩ := step w5 (some d) (some v) (l4.trans l5) ok5 s5 rfl rv
                  exact ⟨accV, h5, hA.1, by rw [← hA.2]; exact hm⟩
        · -- the end
          have hi' : i = xs.length := by omega
          subst hi'
          refine .inl ⟨wk.stop w2 (lO.trans l2), ?_⟩
          rw [List.drop_length] at hr
          have hr : LOut.ok [] w2.S = .ok rest S2 := hr
          injection hr with hr1 hr2
          subst hr1 hr2
          rw [List.append_nil] at hacc
          subst hacc
          have p : PostE G W w1 σ (newL m ys w2.S) Q := post1
          unfold newL at p
          rw [if_pos hys] at p
          have lt : Le w1 (w2.close Dd (.lst accV) w1.pv) := Le.through ok1 hD l2 pv2 k2
          have lc : Le0 w2 (w2.close Dd (.lst accV) w1.pv) := Le0.close pv2
          have okc : Ok G (w2.close Dd (.lst accV) w1.pv) := ok2.close pv2 (not_pv ok1 hD)
          have nMu := close_notMu (o := .lst accV) ok2 pv2 (not_pv ok1 hD)
          cases m with
          | false =>
            have := p (w2.close Dd (.lst accV) w1.pv) rfl okc lt (.ref Dd) ⟨Dd, accV, rfl, .inl ⟨nMu, .inl upd_same⟩, ra.le lc⟩
            rw [show (w2.close Dd (.lst accV) w1.pv).H = w2.H from upd_self hD2] at this
            exact this
          | true =>
            have notMs : Dd ∉ w2.ms := (ok2.pv Dd (by rw [pv2]; exact List.mem_cons_self)).2
            -- the closed world, then an entry more
            let w4 : Wd := ⟨w2.H, w2.ms ++ [Dd], w2.S ++ [.lst ys], w1.pv⟩
            have mu4 : ∀ a, Mu w4 a → Mu (w2.close Dd (.lst accV) w1.pv) a ∨ a = Dd := fun a h => by
              rcases h with ⟨j, mo, e1, e2, l⟩ | h
              · by_cases hj : j < w2.ms.length
                · have e1' : (w2.ms ++ [Dd])[j]? = some a := e1
                  have e2' : (w2.S ++ [.lst ys])[j]? = some mo := e2
                  rw [List.getElem?_append_left hj] at e1'
                  rw [List.getElem?_append_left (by rw [← ok2.len]; exact hj)] at e2'
                  exact .inl (.inl ⟨j, mo, e1', e2', l⟩)
                · have e1' : (w2.ms ++ [Dd])[j]? = some a := e1
                  rw [List.getElem?_append_right (by omega)] at e1'
                  cases hz : j - w2.ms.length with
                  | zero => rw [hz] at e1'; exact .inr (by simpa using e1'.symm)
                  | succ k => rw [hz] at e1'; simp at e1'
              · exact .inl (.inr h)
            have l14 : Le w1 w4 := by
              refine ⟨⟨fun a o e n q => ?_, ?_⟩, rfl, fun a ha => k2 a ha⟩
              · obtain ⟨e', n'⟩ := lt.keep a o e n q
                rw [show (w2.close Dd (.lst accV) w1.pv).H = w2.H from upd_self hD2] at e'
                refine ⟨e', fun h => ?_⟩
                rcases mu4 a h with z | z
                · exact n' z
                · exact ne_of_none e hD z
              · obtain ⟨l, e⟩ := lt.more
                exact ⟨l ++ [Dd], by show w2.ms ++ [Dd] = _; rw [show w2.ms = w1.ms ++ l from e, List.append_assoc]⟩
            have l24 : Le0 w2 w4 := by
              refine ⟨fun a o e n q => ⟨e, fun h => ?_⟩, [Dd], rfl⟩
              rcases mu4 a h with z | z
              · have := (lc.keep a o e n q).2; exact this z
              · exact n (.inr (by rw [z, pv2]; exact List.mem_cons_self))
            have ok4 : Ok G w4 := by
              refine ⟨by show (w2.ms ++ [Dd]).length = (w2.S ++ [MO.lst ys]).length; simp [ok2.len], ?_, fun j a mo e1 e2 => ?_, fun a ha => ?_, ok2.tab⟩
              · show (w2.ms ++ [Dd]).Nodup
                rw [List.nodup_append]
                exact ⟨ok2.nd, by simp, fun a ha b hb => by simp at hb; subst hb; exact fun z => notMs (by rw [← z]; exact ha)⟩
              · have e1' : (w2.ms ++ [Dd])[j]? = some a := e1
                have e2' : (w2.S ++ [.lst ys])[j]? = some mo := e2
                by_cases hj : j < w2.ms.length
                · rw [List.getElem?_append_left hj] at e1'
                  rw [List.getElem?_append_left (by rw [← ok2.len]; exact hj)] at e2'
                  exact (ok2.rep j a mo e1' e2').of l24 fun u e => e
                · rw [List.getElem?_append_right (by omega)] at e1'
                  rw [List.getElem?_append_right (by rw [← ok2.len]; omega)] at e2'
                  rw [show j - w2.S.length = j - w2.ms.length by rw [ok2.len]] at e2'
                  cases hz : j - w2.ms.length with
                  | zero =>
                    rw [hz] at e1' e2'
                    simp at e1' e2'
                    subst e1' e2'
                    exact ⟨accV, hD2, ra.le l24⟩
                  | succ k => rw [hz] at e1'; simp at e1'
              · obtain ⟨e, n⟩ := okc.pv a ha
                rw [show (w2.close Dd (.lst accV) w1.pv).H = w2.H from upd_self hD2] at e
                refine ⟨e, fun z => ?_⟩
                rcases List.mem_append.mp z with z | z
                · exact n z
                · exact not_pv ok1 hD (by rw [← List.mem_singleton.mp z]; exact ha)
            exact p w4 rfl ok4 l14 (.ref Dd) ⟨Dd, rfl, by show (w2.ms ++ [Dd])[w2.S.length]? = some Dd; rw [← ok2.len]; simp⟩
end
end PD
set_option maxHeartbeats 2000000
/-! PD12: expressions -/
namespace PD
open PySem PySem.Spec L2
section
variable {G : PC} {cf : CallF} {lv : Nat} {C : CC} {X : Cx} {W : WX} {σ : L2.St} {w : Wd} {ρ : Env'} {Q : VK}
theorem evs_len {C : CC} : ∀ {es : Es} {xs : List Expr}, chks C es xs = true → ∀ (ρ : Env') (S : Store) (ds : List D) (S' : Store), evs cf es ρ S = .ok ds S' → ds.length = xs.length
  | .nil, xs, h, ρ, S, ds, S', e => by
    unfold chks at h
    split at h
    · unfold evs at e; cases e; rfl
    · cases h
  | .cons e1 r, xs, h, ρ, S, ds, S', e => by
    unfold chks at h
    split at h
    · rename_i y ys
      obtain ⟨_, h2⟩ := PD.ba h
      unfold evs at e
      cases q : ev cf e1 ρ S with
      | ok d S1 =>
        rw [q] at e
        have e : (evs cf r ρ S1).bindL (fun xs S => .ok (d :: xs) S) = .ok ds S' := e
        cases q2 : evs cf r ρ S1 with
        | ok ds2 S2 =>
          rw [q2] at e
          cases e
          rw [List.length_cons, List.length_cons, evs_len h2 _ _ _ _ q2]
        | exc x S2 => rw [q2] at e; cases e
        | stuck => rw [q2] at e; cases e
      | exc x S1 => rw [q] at e; cases e
      | stuck => rw [q] at e; cases e
    · cases h
  | .star _ _, _, h, _, _, _, _, _ => by unfold chks at h; cases h
theorem evk_len {C : CC} : ∀ {es : Es} {xs : List Keyword}, chkK C es xs = true → ∀ (ρ : Env') (S : Store) (ds : List D) (S' : Store), evs cf es ρ S = .ok ds S' → ds.length = xs.length
  | .nil, xs, h, ρ, S, ds, S', e => by
    unfold chkK at h
    split at h
    · unfold evs at e; cases e; rfl
    · cases h
  | .cons e1 r, xs, h, ρ, S, ds, S', e => by
    unfold chkK at h
    split at h
    · rename_i nm y kp ys
      obtain ⟨_, h2⟩ := PD.ba h
      unfold evs at e
      cases q : ev cf e1 ρ S with
      | ok d S1 =>
        rw [q] at e
        have e : (evs cf r ρ S1).bindL (fun xs S => .ok (d :: xs) S) = .ok ds S' := e
        cases q2 : evs cf r ρ S1 with
        | ok ds2 S2 =>
          rw [q2] at e
          cases e
          rw [List.length_cons, List.length_cons, evk_len h2 _ _ _ _ q2]
        | exc x S2 => rw [q2] at e; cases e
        | stuck => rw [q2] at e; cases e
      | exc x S1 => rw [q] at e; cases e
      | stuck => rw [q] at e; cases e
    · cases h
  | .star _ _, _, h, _, _, _, _, _ => by unfold chkK at h; cases h
/-! ### two values, then something -/
theorem two {m1 m2 : Env' → Store → EOut} {f : D → D → Store → EOut} (h : At G W w ρ σ ((m1 ρ w.S).bind fun x S => (m2 ρ S).bind fun y S => f x y S) Q) {r : V → V → Hp → Prop}
    (k : ∀ d e x y w', Le w w' → Rep G w' d x → Rep G w' e y → At G W w' ρ σ (f d e w'.S) Q → r x y w'.H) : tD G W m1 σ w.H fun x H1 => tD G W m2 σ H1 fun y H2 => r x y H2 :=
  ⟨w, ρ, rfl, h.bindX fun d v w1 l1 r1 h1 => ⟨w1, ρ, rfl, h1.bindX fun e u w2 l2 r2 h2 => k d e v u w2 (l1.trans l2) (r1.le l2.toLe0) r2 h2⟩⟩
theorem one {m1 : Env' → Store → EOut} {f : D → Store → EOut} (h : At G W w ρ σ ((m1 ρ w.S).bind fun x S => f x S) Q) {r : V → Hp → Prop}
    (k : ∀ d x w', Le w w' → Rep G w' d x → At G W w' ρ σ (f d w'.S) Q → r x w'.H) : tD G W m1 σ w.H r := ⟨w, ρ, rfl, h.bindX k⟩
/-- by truth -/
theorem tru_split {d : D} {S : Store} {a b : EOut} {Q : VK} (h : At G W w ρ σ (match truD S d with | some true => a | some false => b | none => .stuck) Q) :
    ∃ k, truD S d = some k ∧ (k = true → At G W w ρ σ a Q) ∧ (k = false → At G W w ρ σ b Q) := by
  cases e : truD S d with
  | none => rw [e] at h; exact h.no
  | some k =>
    rw [e] at h
    cases k with
    | true => exact ⟨true, rfl, fun _ => h, fun z => (by cases z)⟩
    | false => exact ⟨false, rfl, fun z => (by cases z), fun _ => h⟩
/-- a test, then one of two -/
theorem AtT.of_bind {o : EOut} {fa fb : Store → EOut} {Q : VK} {QT : Bool → Hp → Prop}
    (h : At G W w ρ σ (o.bind fun x S => match truD S x with | some true => fa S | some false => fb S | none => .stuck) Q)
    (k1 : ∀ w', Le w w' → At G W w' ρ σ (fa w'.S) Q → QT true w'.H) (k2 : ∀ w', Le w w' → At G W w' ρ σ (fb w'.S) Q → QT false w'.H) : AtT G W w ρ σ o QT := by
  obtain ⟨ok, env, post⟩ := h
  refine ⟨ok, env, ?_⟩
  cases o with
  | ok d S' =>
    have h : PostE G W w σ (match truD S' d with | some true => fa S' | some false => fb S' | none => .stuck) Q := post
    cases e : truD S' d with
    | none => rw [e] at h; exact h.elim
    | some k =>
      rw [e] at h
      refine ⟨k, e, fun w' e' ok' l => ?_⟩
      cases k with
      | true => exact k1 w' l (At.of_le env l ok' (by rw [e']; exact h))
      | false => exact k2 w' l (At.of_le env l ok' (by rw [e']; exact h))
  | exc x S' => exact post
  | stuck => exact post
theorem atT_bool {o : EOut} {QT : Bool → Hp → Prop} (h : AtT G W w ρ σ o QT) (hb : ∀ d S', o = .ok d S' → ∃ b, d = .bl b) : At G W w ρ σ o fun v H' => ∃ k, v = .bl k ∧ QT k H' := by
  obtain ⟨ok, env, post⟩ := h
  refine ⟨ok, env, ?_⟩
  cases o with
  | ok d S' =>
    obtain ⟨k, e, p⟩ := post
    obtain ⟨b, rfl⟩ := hb d S' rfl
    cases e
    exact fun w' e' ok' l v r => ⟨k, r, p w' e' ok' l⟩
  | exc x S' => exact post
  | stuck => exact post
/-- a test of the if expression -/
theorem pt_ife {c a b : Expr} {pos : Pos} {tc ta tb : TT} (hc : PT X c tc) (ha : PT X a ta) (hb : PT X b tb) : PT X (.IfExp c a b pos) (fun σ H Q => tc σ H fun k H1 => if k = true then ta σ H1 Q else tb σ H1 Q) := by
  refine ⟨fun pins s σ H Q I h => ?_⟩
  refine PyProof.Rows.isTrue_IfExp (thn (hc.run pins s σ H _ I h) fun d s1 ⟨H1, I1, q1⟩ => ?_)
  cases d with
  | true => exact ha.run pins s1 σ H1 Q I1 q1
  | false => exact hb.run pins s1 σ H1 Q I1 q1
/-! ### displays of dicts -/
theorem keyOf_ok {d : D} {k : Key} {v : V} (h : keyOf d = some k) (r : Rep G w d v) : v = kV k := by
  cases d with
  | int i => cases h; exact r
  | str x => cases h; exact r.1
  | _ => cases h
theorem repK_put {k : Key} {d : D} {v : V} (h : Rep G w d v) {kvs : List (Key × D)} {us : List (Key × V)} (r : RepK G w kvs us) : RepK G w (putD kvs k d) (putK us k v) := by
  have hany : ∀ {kvs : List (Key × D)} {us : List (Key × V)}, RepK G w kvs us → (kvs.any fun kv => decide (kv.1 = k)) = us.any fun kv => decide (kv.1 = k) := by
    intro kvs
    induction kvs with
    | nil => intro us r; rw [show us = [] from r]; rfl
    | cons p kvs ih =>
      intro us ⟨v, t, e, _, r⟩
      rw [e, List.any_cons, List.any_cons, ih r]
  have hmap : ∀ {kvs : List (Key × D)} {us : List (Key × V)}, RepK G w kvs us → RepK G w (kvs.map fun kv => if kv.1 = k then (kv.1, d) else kv) (us.map fun kv => if kv.1 = k then (kv.1, v) else kv) := by
    intro kvs
    induction kvs with
    | nil => intro us r; rw [show us = [] from r]; rfl
    | cons p kvs ih =>
      intro us ⟨u, t, e, r1, r⟩
      rw [e, List.map_cons, List.map_cons]
      by_cases hp : p.1 = k
      · rw [if_pos hp, if_pos hp]; exact ⟨v, _, rfl, h, ih r⟩
      · rw [if_neg hp, if_neg hp]; exact ⟨u, _, rfl, r1, ih r⟩
  have happ : ∀ {kvs : List (Key × D)} {us : List (Key × V)}, RepK G w kvs us → RepK G w (kvs ++ [(k, d)]) (us ++ [(k, v)]) := by
    intro kvs
    induction kvs with
    | nil => intro us r; rw [show us = [] from r]; exact ⟨v, [], rfl, h, rfl⟩
    | cons p kvs ih =>
      intro us ⟨u, t, e, r1, r⟩
      rw [e]
      exact ⟨u, _, rfl, r1, ih r⟩
  unfold putD putK
  rw [hany r]
  split
  · exact hmap r
  · exact happ r
theorem repK_merge {kvs : List (Key × D)} {us : List (Key × V)} : ∀ {more : List (Key × D)} {ws : List (Key × V)}, RepK G w more ws → RepK G w kvs us → RepK G w (mergeD kvs more) (mergeK us ws) := by
  intro more
  induction more generalizing kvs us with
  | nil => intro ws r q; rw [show ws = [] from r]; exact q
  | cons p more ih =>
    intro ws ⟨v, t, e, r1, r⟩ q
    rw [e]
    show RepK G w (mergeD (putD kvs p.1 p.2) more) (mergeK (putK us p.1 v) t)
    exact ih r (repK_put r1 q)
theorem putK_len (kvs : List (Key × V)) (k : Key) (v : V) : (putK kvs k v).length ≤ kvs.length + 1 := by
  unfold putK
  split
  · simp
  · simp
end
end PD
set_option maxHeartbeats 2000000
/-! PD12b: small parts for the expressions -/
namespace PD
open PySem PySem.Spec L2
section
variable {G : PC} {cf : CallF} {lv : Nat} {C : CC} {X : Cx} {W : WX} {σ : L2.St} {w : Wd} {ρ : Env'} {Q : VK}
theorem XRep.le {w w' : Wd} {x : Exn} {cls : Value} {od : Option Addr} (l : Le0 w w') (h : XRep G w x cls od) : XRep G w' x cls od := by
  obtain ⟨e, k, us, r, d⟩ := h
  exact ⟨e, k, us, r.le l, d.le l⟩
theorem upd_id {H : Hp} {a : Addr} {o : HO} (h : H a = some o) : upd H a o = H := upd_self h
/-- under an object that is being made -/
theorem AtL.opened {o : LOut} {QL : List V → Hp → Prop} {p : Addr} {ob : HO} (h : AtL G W w ρ σ o QL) (hp : w.H p = none) (po : Pl ob := by exact ⟨rfl, fun _ z => nomatch z⟩) : AtL G W (w.open' p ob) ρ σ o fun vs H' => ∃ w' ds S', w'.H = H' ∧ o = .ok ds S' ∧ w'.S = S' ∧ Ok G w' ∧ Le (w.open' p ob) w' ∧ RepL G w' ds vs := by
  obtain ⟨ok, env, post⟩ := h
  refine ⟨ok.open' hp po, env.le (Le0.open' ok hp), ?_⟩
  cases o with
  | ok ds S' => exact fun w' e ok' l vs r => ⟨w', ds, S', rfl, rfl, e, ok', l, r⟩
  | exc x S' =>
    intro w' e ok' l cls od r
    have pv : w'.pv = p :: w.pv := l.pvE
    have hH : w'.H p = some ob := by rw [l.pvK p List.mem_cons_self]; exact upd_same
    have hK : ∀ a ∈ w.pv, w'.H a = w.H a := fun a ha => by
      rw [l.pvK a (List.mem_cons_of_mem _ ha)]
      exact upd_ne fun z => by subst z; exact not_pv ok hp ha
    have := post (w'.close p ob w.pv) e (ok'.close pv (not_pv ok hp)) (Le.through ok hp l.toLe0 pv hK) cls od (r.le (Le0.close pv))
    rw [show (w'.close p ob w.pv).H = w'.H from upd_self hH] at this
    exact this
  | stuck => exact post
/-- a world where an entry is dead -/
abbrev Wd.kill (w : Wd) (n : Nat) : Wd := ⟨w.H, w.ms, w.S.set n .dead, w.pv⟩
theorem mu_kill {n : Nat} {a : Addr} (h : Mu (w.kill n) a) : Mu w a := by
  rcases h with ⟨i, mo, e1, e2, l⟩ | h
  · have e2 : (w.S.set n .dead)[i]? = some mo := e2
    by_cases hi : n = i
    · subst hi
      by_cases hl : n < w.S.length
      · rw [List.getElem?_set_self hl] at e2; cases e2; cases l
      · rw [List.getElem?_eq_none (by simpa using hl)] at e2; cases e2
    · rw [List.getElem?_set_ne hi] at e2
      exact .inl ⟨i, mo, e1, e2, l⟩
  · exact .inr h
theorem Le.kill (w : Wd) (n : Nat) : Le w (w.kill n) := ⟨⟨fun _ _ e m _ => ⟨e, fun h => m (mu_kill h)⟩, [], by simp⟩, rfl, fun _ _ => rfl⟩
theorem Ok.kill {w : Wd} (ok : Ok G w) (n : Nat) : Ok G (w.kill n) := by
  refine ⟨by show w.ms.length = (w.S.set n .dead).length; rw [List.length_set]; exact ok.len, ok.nd, fun i a mo e1 e2 => ?_, ok.pv, ok.tab⟩
  have e2 : (w.S.set n .dead)[i]? = some mo := e2
  by_cases hi : n = i
  · subst hi
    by_cases hl : n < w.S.length
    · rw [List.getElem?_set_self hl] at e2; cases e2
      obtain ⟨mo', _, r⟩ := ok.at_some e1
      exact r.pl
    · rw [List.getElem?_eq_none (by simpa using hl)] at e2; cases e2
  · rw [List.getElem?_set_ne hi] at e2
    exact (ok.rep i a mo e1 e2).of (Le.kill w n).toLe0 fun _ h => h
theorem Ok.inj {w : Wd} (ok : Ok G w) {i j : Nat} {a : Addr} (h : w.ms[i]? = some a) (h' : w.ms[j]? = some a) : i = j := by
  obtain ⟨hi, e⟩ := List.getElem?_eq_some_iff.mp h
  obtain ⟨hj, e'⟩ := List.getElem?_eq_some_iff.mp h'
  exact (List.getElem_inj ok.nd).mp (e.trans e'.symm)
theorem kill_fix {n : Nat} {a : Addr} (ok : Ok G w) (h : w.ms[n]? = some a) : ¬ Mu (w.kill n) a := by
  rintro (⟨i, mo, e1, e2, l⟩ | m)
  · have := ok.inj h e1
    subst this
    have e2 : (w.S.set n .dead)[n]? = some mo := e2
    have hl : n < w.S.length := by
      have := (List.getElem?_eq_some_iff.mp h).1
      rw [← ok.len]; exact this
    rw [List.getElem?_set_self hl] at e2
    cases e2; cases l
  · exact (ok.pv a m).2 (List.mem_of_getElem? h)
/-- what is mutable becomes fixed -/
theorem frz_ok {d : D} {v : V} (h : At G W w ρ σ (match d with
    | .ref n => match w.S[n]? with
      | some (.lst xs) => EOut.ok (.lst xs) (w.S.set n .dead)
      | some (.ins c fs) => .ok (.ins c fs) (w.S.set n .dead)
      | _ => .stuck
    | _ => .stuck) Q) (r : Rep G w d v) : Q v w.H := by
  obtain ⟨ok, env, post⟩ := h
  cases d with
  | ref n =>
    obtain ⟨a, e, hn⟩ := r
    obtain ⟨mo, hS, m⟩ := ok.at_some hn
    dsimp only at post
    rw [hS] at post
    cases mo with
    | lst xs =>
      obtain ⟨vs, hH, rl⟩ := m
      exact post (w.kill n) rfl (ok.kill n) (Le.kill w n) v ⟨a, vs, e, .inl ⟨kill_fix ok hn, .inl hH⟩, rl.le (Le.kill w n).toLe0⟩
    | ins c fs =>
      obtain ⟨dx, us, hH, rf⟩ := m
      exact post (w.kill n) rfl (ok.kill n) (Le.kill w n) v ⟨a, us, e, ⟨kill_fix ok hn, dx, hH⟩, RepF.le (Le.kill w n).toLe0 rf⟩
    | dead => exact post.elim
  | _ => exact post.elim
theorem frzT {d : D} {S : Store} {Q : Bool → Hp → Prop} (h : PostT G W w σ (match d with
    | .ref n => match S[n]? with
      | some (.lst xs) => EOut.ok (.lst xs) (S.set n .dead)
      | some (.ins c fs) => .ok (.ins c fs) (S.set n .dead)
      | _ => .stuck
    | _ => .stuck) Q) : PostT G W w σ (.ok d S) Q := by
  cases d with
  | ref n =>
    dsimp only at h
    cases hS : S[n]? with
    | none => rw [hS] at h; exact h.elim
    | some mo =>
      rw [hS] at h
      cases mo with
      | lst xs =>
        obtain ⟨k, e, p⟩ := h
        refine ⟨k, ?_, fun w' e' ok' l => ?_⟩
        · show (match S[n]? with | some (.lst xs) => some (!xs.isEmpty) | _ => none) = some k
          rw [hS]; exact e
        · exact p (w'.kill n) (by show w'.S.set n .dead = _; rw [e']) (ok'.kill n) (l.trans (Le.kill w' n))
      | ins c fs =>
        obtain ⟨k, e, p⟩ := h
        cases e
      | dead => exact h.elim
  | _ => exact h.elim
theorem bindL_assoc {o : EOut} {g : D → Store → LOut} {f : List D → Store → LOut} : (o.bindL g).bindL f = o.bindL fun x S => (g x S).bindL f := by cases o <;> rfl
theorem bindLL_assoc {o : LOut} {g : List D → Store → LOut} {f : List D → Store → LOut} : (o.bindL g).bindL f = o.bindL fun x S => (g x S).bindL f := by cases o <;> rfl
theorem nil_of {C : CC} {es : Es} (h : chks C es [] = true) : es = .nil := by
  cases es with
  | nil => rfl
  | cons e r => unfold chks at h; cases h
  | star e r => unfold chks at h; cases h
theorem cons_of {C : CC} {es : Es} {y : Expr} {xs : List Expr} (h : chks C es (y :: xs) = true) : ∃ e r, es = .cons e r ∧ chk C e y = true ∧ chks C r xs = true := by
  cases es with
  | nil => unfold chks at h; cases h
  | cons e r =>
    unfold chks at h
    exact ⟨e, r, rfl, PD.ba h⟩
  | star e r => unfold chks at h; cases h
theorem repF_lk {f : Str} {d : D} : ∀ {fs : List (Str × D)} {us : List (Str × V)}, RepF G w fs us → fs.lookup f = some d → ∃ v, us.lookup f = some v ∧ Rep G w d v
  | [], _, _, e => by cases e
  | (g, d') :: fs, us, ⟨v, t, e0, r1, r2⟩, e => by
    subst e0
    rw [List.lookup_cons] at e ⊢
    cases q : f == g with
    | true =>
      rw [q] at e
      cases e
      exact ⟨v, rfl, r1⟩
    | false =>
      rw [q] at e
      exact repF_lk r2 e
/-- e.f of an exception -/
theorem att_ok (g : PcOk G) {f : Str} {d : D} {v : V} (hf : ∀ x, G.okX x → PySem.W.findIn G.K (.ref (G.clsA x)) f = some none) (h : At G W w ρ σ (attD d f w.S) Q) (r : Rep G w d v) : rAtt G.K f v w.H Q := by
  unfold attD at h
  split at h
  · rename_i c fs
    split at h
    · rename_i d' e
      obtain ⟨a, od, us, rfl, ⟨hx, _, ha, hd⟩, rf⟩ := r
      obtain ⟨u, l, ru⟩ := repF_lk rf e
      cases od with
      | none =>
        rw [show us = [] from hd] at l
        cases l
      | some dx => exact ⟨a, _, dx, us, u, rfl, ha, hd.2, l, g.exc c hx, hf c hx, h.q ru⟩
    · exact h.no
  · exact h.no
theorem bn_kind (b : Bn) : (∃ id, b.val = .builtin id) ∨ ∃ T, b.val = .type T := by cases b <;> first | exact .inl ⟨_, rfl⟩ | exact .inr ⟨_, rfl⟩
theorem len_join (sep : Str) (zs : List Str) : (Txt.join sep zs).length ≤ lenJ sep zs := by
  have h := size_glued sep zs
  show (Builtin.Str.glued sep zs).length ≤ _
  rw [h]
  unfold lenJ
  have e0 : (zs.map fun x => x.length) = zs.map Str.length := rfl
  rw [e0]
  have : (zs.length - 1) * sep.length ≤ zs.length * sep.length := Nat.mul_le_mul_right _ (Nat.sub_le _ _)
  omega
theorem pe_blt (c : Cok G cf lv C X W) {b : Bn} (cool : (!C.hot || b.quiet) = true) {n : Str} {p pos : Pos} {y : Expr} {xs : List Expr} {t : TA} (hn : n = b.name) (hf : freeB C n = true) (ha : PA X (y :: xs) t)
    (he : starEach (y :: xs) X.env = (false, eval y X.env) :: starEach xs X.env) (hpl : (backTo pos (starEach xs X.env)).any (·.1) = false) : PE X (.Call (.Name n p) (y :: xs) [] pos) (tCB (rBn X.K b) t) := by
  obtain ⟨g, mg, h1, h2⟩ := c.freeN hf
  have hv := bn_boot b
  have hc := blt_call (X := X) b (fun hq => c.calm (by rw [hq] at cool; simpa using cool)) c.gd c.units (by rw [c.K]; exact c.pc.sm)
  rw [← hn] at hv
  rcases bn_kind b with ⟨id, e⟩ | ⟨T, e⟩
  · rw [e] at hv hc
    exact pe_callB hc g mg hv ha h1 h2 he hpl
  · rw [e] at hv hc
    exact pe_callTy hc g mg hv ha h1 h2 he hpl
/-- the pairs of a display as one list -/
def flat : List (V × V) → List V
  | [] => []
  | p :: r => p.1 :: p.2 :: flat r
theorem flat_ok : ∀ {ps : List (V × V)} {ds : List D} {kvs : List (Key × D)}, RepL G w ds (flat ps) → pairsOf ds = some kvs → ∃ us, ps = us.map (fun kv => (kV kv.1, kv.2)) ∧ RepK G w kvs us
  | [], ds, kvs, r, e => by
    cases ds with
    | nil => cases e; exact ⟨[], rfl, rfl⟩
    | cons d ds => obtain ⟨v, t, h, _⟩ := r; cases h
  | p :: ps, ds, kvs, r, e => by
    cases ds with
    | nil => cases r
    | cons d ds =>
      obtain ⟨v, t, h, r1, r⟩ := r
      cases ds with
      | nil => cases e
      | cons d2 ds =>
        obtain ⟨v2, t2, h2, r2, r⟩ := r
        have hk : (match keyOf d, pairsOf ds with | some k, some ps => some ((k, d2) :: ps) | _, _ => none) = some kvs := e
        cases q1 : keyOf d with
        | none => rw [q1] at hk; cases hk
        | some k =>
          cases q2 : pairsOf ds with
          | none => rw [q1, q2] at hk; cases hk
          | some rest =>
            rw [q1, q2] at hk
            cases hk
            have ht : p.1 :: p.2 :: flat ps = v :: t := h
            injection ht with h3 h4
            subst h3
            rw [← h4] at h2
            injection h2 with h5 h6
            subst h5
            rw [← h6] at r
            obtain ⟨us, e1, r1'⟩ := flat_ok r q2
            refine ⟨(k, p.2) :: us, ?_, p.2, us, rfl, r2, r1'⟩
            rw [List.map_cons, ← e1, ← keyOf_ok q1 r1]
/-- keys of data -/
theorem keysOf_ok : ∀ {ds : List D} {vs : List V} {ks : List Key}, RepL G w ds vs → keysOf ds = some ks → vs = ks.map kV
  | [], vs, ks, r, e => by cases e; exact r
  | d :: ds, vs, ks, ⟨v, t, e0, r1, r2⟩, e => by
    have e : (match keyOf d, keysOf ds with | some k, some ks => some (k :: ks) | _, _ => none) = some ks := e
    cases q1 : keyOf d with
    | none => rw [q1] at e; cases e
    | some k =>
      cases q2 : keysOf ds with
      | none => rw [q1, q2] at e; cases e
      | some kr =>
        rw [q1, q2] at e
        cases e
        rw [e0, keysOf_ok r2 q2, List.map_cons, ← keyOf_ok q1 r1]
theorem flat_tup {ps : List (V × V)} {ks : List D} {x : D} (r : RepL G w [.tup ks, x] (flat ps)) : ∃ b v us, ps = [(.ref b, v)] ∧ TupAt G w b us ∧ RepL G w ks us := by
  obtain ⟨v1, t1, e1, ⟨b, us, rfl, t, rl⟩, v2, t2, e2, r2, r3⟩ := r
  have r3 : t2 = [] := r3
  subst r3
  subst e2
  cases ps with
  | nil => cases e1
  | cons p r =>
    obtain ⟨p1, p2⟩ := p
    have e1 : p1 :: p2 :: flat r = [.ref b, v2] := e1
    injection e1 with h1 h2
    injection h2 with h2 h3
    cases r with
    | nil => exact ⟨b, v2, us, by rw [h1, h2], t, rl⟩
    | cons q r => cases h3
abbrev Wd.wr (w : Wd) (n : Nat) (a : Addr) (o : HO) (mo : MO) : Wd := ⟨upd w.H a o, w.ms, w.S.set n mo, w.pv⟩
theorem mu_wr {n : Nat} {a b : Addr} {o : HO} {mo mo0 : MO} (h : w.ms[n]? = some a) (h0 : w.S[n]? = some mo0) (hl : mo0.live = true) (m : Mu (w.wr n a o mo) b) : Mu w b := by
  rcases m with ⟨i, mo', e1, e2, l⟩ | m
  · have e2 : (w.S.set n mo)[i]? = some mo' := e2
    have e1 : w.ms[i]? = some b := e1
    by_cases hi : n = i
    · subst hi
      exact .inl ⟨n, mo0, e1, h0, hl⟩
    · rw [List.getElem?_set_ne hi] at e2
      exact .inl ⟨i, mo', e1, e2, l⟩
  · exact .inr m
theorem Le.wr {n : Nat} {a : Addr} {o : HO} {mo mo0 : MO} (ok : Ok G w) (h : w.ms[n]? = some a) (h0 : w.S[n]? = some mo0) (hl : mo0.live = true) : Le w (w.wr n a o mo) := by
  refine ⟨⟨fun b u e m _ => ⟨?_, fun z => m (mu_wr h h0 hl z)⟩, [], by simp⟩, rfl, fun b hb => ?_⟩
  · exact (upd_ne fun z => m (by rw [z]; exact .inl ⟨n, mo0, h, h0, hl⟩)).trans e
  · exact upd_ne fun z => (ok.pv b hb).2 (by rw [z]; exact List.mem_of_getElem? h)
theorem Ok.wr {n : Nat} {a : Addr} {o : HO} {mo mo0 : MO} (ok : Ok G w) (h : w.ms[n]? = some a) (h0 : w.S[n]? = some mo0) (hl : mo0.live = true) (r : MRep G (w.wr n a o mo) a mo) : Ok G (w.wr n a o mo) := by
  refine ⟨by show w.ms.length = (w.S.set n mo).length; rw [List.length_set]; exact ok.len, ok.nd, fun i b mo' e1 e2 => ?_, fun b hb => ?_, let ⟨_, eo, po⟩ := (ok.rep n a mo0 h h0).pl; tabs_upd ok.tab eo po⟩
  · have e2 : (w.S.set n mo)[i]? = some mo' := e2
    have e1 : w.ms[i]? = some b := e1
    by_cases hi : n = i
    · subst hi
      rw [h] at e1; cases e1
      have hn : n < w.S.length := (List.getElem?_eq_some_iff.mp h0).1
      rw [List.getElem?_set_self hn] at e2; cases e2
      exact r
    · rw [List.getElem?_set_ne hi] at e2
      refine (ok.rep i b mo' e1 e2).of (Le.wr ok h h0 hl).toLe0 fun u e => (upd_ne fun z => ?_).trans e
      subst z
      exact hi (ok.inj h e1)
  · obtain ⟨⟨u, e, q⟩, m⟩ := ok.pv b hb
    exact ⟨⟨u, (upd_ne fun z => m (by rw [z]; exact List.mem_of_getElem? h)).trans e, q⟩, m⟩
/-- a list that changes -/
theorem Ok.wrL {n : Nat} {a : Addr} {xs ys : List D} {vs : List V} (ok : Ok G w) (h : w.ms[n]? = some a) (h0 : w.S[n]? = some (.lst xs)) (r : RepL G w ys vs) :
    Ok G (w.wr n a (.lst vs) (.lst ys)) ∧ Le w (w.wr n a (.lst vs) (.lst ys)) := by
  have l : Le w (w.wr n a (.lst vs) (.lst ys)) := Le.wr ok h h0 rfl
  exact ⟨ok.wr h h0 rfl ⟨vs, upd_same, r.le l.toLe0⟩, l⟩
/-- the list at a reference -/
theorem ref_list {n : Nat} {xs : List D} {v : V} (ok : Ok G w) (r : Rep G w (.ref n) v) (h0 : w.S[n]? = some (.lst xs)) : ∃ a vs, v = .ref a ∧ w.ms[n]? = some a ∧ w.H a = some (.lst vs) ∧ RepL G w xs vs := by
  obtain ⟨a, e, hn⟩ := r
  obtain ⟨mo, hS, m⟩ := ok.at_some hn
  rw [h0] at hS
  cases hS
  obtain ⟨vs, hH, rl⟩ := m
  exact ⟨a, vs, e, hn, hH, rl⟩
end
end PD
set_option maxHeartbeats 4000000
/-! PD13: expressions keep what they do on data -/
namespace PD
open PySem PySem.Spec L2
section
variable {G : PC} {cf : CallF} {lv : Nat}
theorem okName_of {n : Str} (h : okName n = true) : (n == ("__debug__" : Str)) = false ∧ (n == ("__classdict__" : Str)) = false := by
  obtain ⟨h1, h2⟩ := PD.ba h
  obtain ⟨h2, h3⟩ := PD.ba h2
  exact ⟨by simpa using h1, by simpa using h2⟩
/-- the plain test of an expression -/
theorem pt_plain {X : Cx} {C : CC} {W : WX} (c : Cok G cf lv C X W) {x : Expr} {m : Env' → Store → EOut} (h : PE X x (tD G W m)) (he : ∀ whole, isTrue x X.env whole = (do let v ← whole; standAt x.pos; holding [v] (truthy v))) : PT X x (tT G W m) :=
  pt_imp (pt_truth h he) fun σ H Q ⟨w, ρ, e, h⟩ => by
    subst e
    have := h.val
    rw [← c.K] at this
    exact ⟨w, ρ, rfl, this⟩
def plainT : Expr → Bool
  | .UnaryOp .Not _ _ => false
  | .BoolOp .. => false
  | .IfExp .. => false
  | .Compare .. => false
  | _ => true
theorem plainT_of {x : Expr} (h : plainT x = true) {env : Env} : ∀ whole, isTrue x env whole = (do let v ← whole; standAt x.pos; holding [v] (truthy v)) := by
  intro whole
  cases x with
  | UnaryOp op a p => cases op <;> first | rfl | cases h
  | _ => first | rfl | cases h
/-- what both an expression and its test need -/
abbrev EvOk (G : PC) (e : E) : Prop := ∀ (cf : CallF) (lv : Nat) (C : CC) (X : Cx) (W : WX), Cok G cf lv C X W → ∀ (x : Expr), chk C e x = true → PE X x (tD G W (ev cf e)) ∧ PT X x (tT G W (ev cf e))
theorem pw_of {X : Cx} {op : BoolOp} {xs : List Expr} {p : Pos} {t : TT} (h : PT X (.BoolOp op xs p) t) : PW X (.BoolOp op xs p) t := ⟨fun _ pins s σ H Q I hw => h.run pins s σ H Q I hw⟩
theorem both {e : E} {C : CC} {X : Cx} {W : WX} (c : Cok G cf lv C X W) {x : Expr} (h : PE X x (tD G W (ev cf e))) (hp : plainT x = true) : PE X x (tD G W (ev cf e)) ∧ PT X x (tT G W (ev cf e)) := ⟨h, pt_plain c h (plainT_of hp)⟩
/-- a comparison's value is a bool -/
theorem cmpBool {e : E} {ρ : Env'} {S S' : Store} {d : D} {o : CmpOp} {a b : E} (h : ev cf (.cmp o a b) ρ S = .ok d S') : ∃ k, d = .bl k := by
  unfold ev at h
  cases q : ev cf a ρ S with
  | ok x S1 =>
    rw [q] at h
    have h : (ev cf b ρ S1).bind (fun y S => cmpD o x y S) = .ok d S' := h
    cases q2 : ev cf b ρ S1 with
    | ok y S2 =>
      rw [q2] at h
      obtain ⟨k, e1, _⟩ := cmpD_bl (show cmpD o x y S2 = .ok d S' from h)
      exact ⟨k, e1⟩
    | exc y S2 => rw [q2] at h; cases h
    | stuck => rw [q2] at h; cases h
  | exc x S1 => rw [q] at h; cases h
  | stuck => rw [q] at h; cases h
theorem chnBool {o o2 : CmpOp} {a b t : E} {ρ : Env'} {S S' : Store} {d : D} (h : ev cf (.chn o o2 a b t) ρ S = .ok d S') : ∃ k, d = .bl k := by
  unfold ev at h
  cases q : ev cf a ρ S with
  | exc x S1 => rw [q] at h; cases h
  | stuck => rw [q] at h; cases h
  | ok x S1 =>
    rw [q] at h
    cases q2 : ev cf b ρ S1 with
    | exc x S1 => simp only [EOut.bind, q2] at h; cases h
    | stuck => simp only [EOut.bind, q2] at h; cases h
    | ok y S2 =>
      simp only [EOut.bind, q2] at h
      cases q3 : cmpD o x y S2 with
      | exc x S1 => rw [q3] at h; cases h
      | stuck => rw [q3] at h; cases h
      | ok k S3 =>
        rw [q3] at h
        obtain ⟨kb, rfl, rfl⟩ := cmpD_bl q3
        cases kb with
        | false => dsimp only at h; cases h; exact ⟨_, rfl⟩
        | true =>
          dsimp only at h
          cases q4 : ev cf t ρ S3 with
          | exc x S1 => rw [q4] at h; cases h
          | stuck => rw [q4] at h; cases h
          | ok z S4 =>
            rw [q4] at h
            obtain ⟨kc, e, _⟩ := cmpD_bl (show cmpD o2 y z S4 = .ok d S' from h)
            exact ⟨kc, e⟩
theorem marks2_of {o o2 : CmpOp} {r u : Expr} (h : goodX u = true) : lastMarks [o, o2] [r, u] = false := mark_of (o := o2) h
theorem AtL.mono {W : WX} {w : Wd} {ρ : Env'} {σ : L2.St} {o : LOut} {Q Q' : List V → Hp → Prop} (h : AtL G W w ρ σ o Q) (k : ∀ vs w', Le w w' → Q vs w'.H → Q' vs w'.H) : AtL G W w ρ σ o Q' := by
  obtain ⟨ok, env, post⟩ := h
  refine ⟨ok, env, ?_⟩
  cases o with
  | ok d S' => exact fun w' e ok l v r => k v w' l (post w' e ok l v r)
  | exc x S' => exact post
  | stuck => exact post
theorem pairsOf_len : ∀ {ds : List D} {kvs : List (Key × D)}, pairsOf ds = some kvs → ds.length = 2 * kvs.length
  | [], kvs, e => by cases e; rfl
  | [_], kvs, e => by cases e
  | k :: v :: r, kvs, e => by
    have hk : (match keyOf k, pairsOf r with | some k, some ps => some ((k, v) :: ps) | _, _ => none) = some kvs := e
    cases q1 : keyOf k with
    | none => rw [q1] at hk; cases hk
    | some k' =>
      cases q2 : pairsOf r with
      | none => rw [q1, q2] at hk; cases hk
      | some rest =>
        rw [q1, q2] at hk
        cases hk
        have := pairsOf_len q2
        simp only [List.length_cons]
        omega
theorem evs_cons_ok {e : E} {r : Es} {ρ : Env'} {S S' : Store} {ds : List D} (h : evs cf (.cons e r) ρ S = .ok ds S') : ∃ d S1 rest, ev cf e ρ S = .ok d S1 ∧ evs cf r ρ S1 = .ok rest S' ∧ ds = d :: rest := by
  unfold evs at h
  cases q : ev cf e ρ S with
  | exc x S1 => rw [q] at h; cases h
  | stuck => rw [q] at h; cases h
  | ok d S1 =>
    rw [q] at h
    have h : (evs cf r ρ S1).bindL (fun xs S => .ok (d :: xs) S) = .ok ds S' := h
    cases q2 : evs cf r ρ S1 with
    | exc x S1 => rw [q2] at h; cases h
    | stuck => rw [q2] at h; cases h
    | ok rest S2 =>
      rw [q2] at h
      cases h
      exact ⟨d, S1, rest, rfl, q2, rfl⟩
theorem evd_len {C : CC} : ∀ {es : Es} {ks : List (Option Expr)} {vs : List Expr}, chkD C es ks vs = true → ∀ (ρ : Env') (S : Store) (ds : List D) (S' : Store), evs cf es ρ S = .ok ds S' → ds.length = 2 * ks.length
  | .nil, ks, vs, h, ρ, S, ds, S', e => by
    unfold chkD at h
    split at h
    · unfold evs at e; cases e; rfl
    · cases h
  | .cons a (.cons b t), ks, vs, h, ρ, S, ds, S', e => by
    obtain ⟨d, S1, r1, _, e1, rfl⟩ := evs_cons_ok e
    obtain ⟨d2, S2, r2, _, e2, rfl⟩ := evs_cons_ok e1
    unfold chkD at h
    cases ks with
    | nil => cases h
    | cons k ks =>
      cases k with
      | none => cases h
      | some k =>
        cases vs with
        | nil => cases h
        | cons v vs =>
          have h : (chk C a k && (chk C b v && chkD C t ks vs)) = true := h
          have := evd_len (PD.ba (PD.ba h).2).2 ρ S2 r2 S' e2
          simp only [List.length_cons]
          omega
  | .cons e .nil, ks, vs, h, _, _, _, _, _ => by unfold chkD at h; cases ks <;> cases vs <;> cases h
  | .cons e (.star _ _), ks, vs, h, _, _, _, _, _ => by unfold chkD at h; cases ks <;> cases vs <;> cases h
  | .star _ _, _, _, h, _, _, _, _, _ => by unfold chkD at h; cases h
theorem consT {W : WX} {w : Wd} {ρ : Env'} {σ : L2.St} {m1 : Env' → Store → EOut} {m2 : Env' → Store → LOut} {Q : List V → Hp → Prop}
    (h : AtL G W w ρ σ ((m1 ρ w.S).bindL fun x S => (m2 ρ S).bindL fun xs S => .ok (x :: xs) S) Q) : tCons (tD G W m1) (tL G W m2) σ w.H Q :=
  ⟨w, ρ, rfl, At.bindLX h fun d v w1 l1 r1 h => ⟨w1, ρ, rfl, AtL.bindLX h fun ds vs w2 l2 r2 h => h.q ⟨v, vs, rfl, r1.le l2.toLe0, r2⟩⟩⟩
theorem starT {W : WX} {w : Wd} {ρ : Env'} {σ : L2.St} {m1 : Env' → Store → EOut} {m2 : Env' → Store → LOut} {Q : List V → Hp → Prop}
    (h : AtL G W w ρ σ ((m1 ρ w.S).bindL fun x S => match itemsOf S x with | some ys => (m2 ρ S).bindL fun xs S => .ok (ys ++ xs) S | none => .stuck) Q) : StX.tStar G.K (tD G W m1) (tL G W m2) σ w.H Q :=
  ⟨w, ρ, rfl, At.bindLX h fun d v w1 l1 r1 h => by
    split at h
    · rename_i ys hy
      obtain ⟨a, vs, e1, h1, h2⟩ := itemsOf_ok h.ok r1 hy
      exact ⟨a, vs, e1, h1.symm, w1, ρ, rfl, AtL.bindLX h fun ds us w2 l2 r2 h => h.q (RepL.append (h2.le l2.toLe0) r2)⟩
    · exact h.no⟩
theorem one_list {o : EOut} {f : List D → Store → EOut} : LOut.bind (o.bindL fun x S => (LOut.ok [] S).bindL fun xs S => .ok (x :: xs) S) f = o.bind fun x S => f [x] S := by cases o <;> rfl
theorem join_ok {W : WX} {w : Wd} {ρ : Env'} {σ : L2.St} {Q : VK} {d e : D} {v u : V} (h : At G W w ρ σ (methD .join d [e] w.S) Q) (r : Rep G w d v) (r2 : Rep G w e u) :
    ∃ a p, ∃ ys : List Str, v = .str a ∧ [u] = [.ref p] ∧ (SqL G.K w.H p (ys.map V.str) ∨ SqT G.K w.H p (ys.map V.str)) ∧ (ys.map (·.length)).sum + ys.length * a.length ≤ 16777216 ∧ Q (.str (Txt.join a ys)) w.H := by
  unfold methD at h
  dsimp only at h
  split at h
  · rename_i sep
    split at h
    · rename_i zs hz
      obtain ⟨xs, h1, h2⟩ := Option.bind_eq_some_iff.mp hz
      split at h
      · rename_i hl
        obtain ⟨a, vs, e1, h3, h4⟩ := itemsOf_ok h.ok r2 h1
        have := strs_ok h4 h2
        subst this
        refine ⟨sep, a, zs, r.1, by rw [e1], h3, ?_, h.q ⟨rfl, Nat.le_trans (len_join sep zs) hl⟩⟩
        rw [sizeLine_eq] at hl
        exact hl
      · exact h.no
    · exact h.no
  · exact h.no
/-- a part of a slice -/
def tO (G : PC) (W : WX) (m : Env' → Store → (Option Int → Store → EOut) → EOut) : TO := fun σ H Q => ∃ (w : Wd) (ρ : Env') (f : Option Int → Store → EOut), w.H = H ∧ ∃ Q' : VK, At G W w ρ σ (m ρ w.S f) Q' ∧ ∀ l w', Le w w' → At G W w' ρ σ (f l w'.S) Q' → Q l w'.H
theorem po_imp {X : Cx} {x : Option Expr} {t t' : TO} (h : PO X x t) (k : ∀ σ H Q, t' σ H Q → t σ H Q) : PO X x t' := ⟨fun pins s σ H Q I q => h.run pins s σ H Q I (k σ H Q q)⟩
theorem iter_good {C : CC} {i : It} {t x : Expr} (h : chkI C i t x = true) : goodX x = true := by
  cases i with
  | val e => unfold chkI at h; exact chk_good h
  | _ =>
    unfold chkI at h
    split at h
    · rfl
    · cases h
theorem tgOwn_mem {own : List (Str × Nat)} {tg : Tg} (h : tgOwn own tg = true) : ∀ i ∈ tg.slots, i ∈ own.map (·.2) := by
  intro i hi
  exact List.contains_iff_mem.mp (List.all_eq_true.mp h i hi)
mutual
theorem ev_ok : ∀ (e : E), EvOk G e
  | .lit d => fun cf lv C X W c x h => by
    unfold chk at h
    split at h
    · rename_i k n p
      refine both c ?_ rfl
      unfold constB at h
      split at h
      · exact pe_imp pe_non fun σ H Q ⟨w, ρ, e, h⟩ => by subst e; unfold ev at h; exact h.q rfl
      · have e1 := eq_of_beq h
        subst e1
        exact pe_imp pe_bl fun σ H Q ⟨w, ρ, e, h⟩ => by subst e; unfold ev at h; exact h.q rfl
      · have e1 := of_decide_eq_true h
        subst e1
        exact pe_imp pe_int fun σ H Q ⟨w, ρ, e, h⟩ => by subst e; unfold ev at h; exact h.q rfl
      · obtain ⟨h1, h2⟩ := PD.ba h
        have e1 := of_decide_eq_true h1
        subst e1
        have hz := Nat.le_of_ble_eq_true h2
        exact pe_imp pe_str fun σ H Q ⟨w, ρ, e, h⟩ => by subst e; unfold ev at h; exact h.q ⟨rfl, by rw [sizeLine_eq]; omega⟩
      · cases h
    · cases h
  | .var i => fun cf lv C X W c x h => by
    unfold chk at h
    split at h
    · rename_i n p
      obtain ⟨h0, h⟩ := PD.ba h
      obtain ⟨h1, h2⟩ := PD.ba h
      obtain ⟨h2, h3⟩ := PD.ba h2
      obtain ⟨h4, h5⟩ := okName_of h3
      have n0 : G.fnv = none ∨ i ≠ 0 := (Bool.or_eq_true_iff.mp h0).imp (fun z => c.gf (by simpa using z)) fun z => by simpa using z
      refine both c ?_ rfl
      refine pe_imp (pe_var (i := i) (by rw [c.N]; exact of_decide_eq_true h1) (by rw [c.sc]; exact vis_ok h2) h4 h5) fun σ H Q ⟨w, ρ, e, h⟩ => ?_
      subst e
      unfold ev at h
      split at h
      · rename_i d hd
        obtain ⟨v, hv, r⟩ := h.env.get hd n0
        exact ⟨v, hv, h.q r⟩
      · exact h.no
    · cases h
  | .glo n d => fun cf lv C X W c x h => by
    unfold chk at h
    split at h
    · rename_i m p
      obtain ⟨h1, h2⟩ := PD.ba h
      obtain ⟨h2a, h3⟩ := PD.ba h2
      have e1 := of_decide_eq_true h1
      subst e1
      obtain ⟨q, hq, h4⟩ := List.any_eq_true.mp h3
      obtain ⟨h4, h5⟩ := PD.ba h4
      have e2 := of_decide_eq_true h4
      have e3 := same_ok h5
      obtain ⟨q1, q2⟩ := q
      dsimp only at e2 e3
      subst e2 e3
      obtain ⟨v, u, hm, rv, hr⟩ := c.con _ _ hq
      obtain ⟨g, hd⟩ := c.glob h2a
      refine both c ?_ rfl
      refine pe_imp (pe_glob g hm rv hd) fun σ H Q ⟨w, ρ, e, h⟩ => ?_
      subst e
      unfold ev at h
      exact h.q (hr w h.ok)
    · cases h
  | .bin o a b => fun cf lv C X W c x h => by
    unfold chk at h
    split at h
    · rename_i l o' r p
      obtain ⟨h1, h2⟩ := PD.ba h
      obtain ⟨h2, h3⟩ := PD.ba h2
      have e1 := of_decide_eq_true h1
      subst e1
      refine both c ?_ rfl
      refine pe_imp (pe_op (op_ok o) (ev_ok a _ _ C X W c _ h2).1 (ev_ok b _ _ C X W c _ h3).1) fun σ H Q ⟨w, ρ, e, h⟩ => ?_
      subst e
      unfold ev at h
      exact two h fun d e x y w' _ rx ry h => bin_ok h rx ry
    · cases h
  | .neg a => fun cf lv C X W c x h => by
    unfold chk at h
    split at h
    · refine both c ?_ rfl
      refine pe_imp (pe_un un_neg (ev_ok a _ _ C X W c _ h).1) fun σ H Q ⟨w, ρ, e, h⟩ => ?_
      subst e
      unfold ev at h
      exact one h fun d x w' _ rx h => neg_ok h rx
    · cases h
  | .not a => fun cf lv C X W c x h => by
    unfold chk at h
    split at h
    · obtain ⟨pe, pt⟩ := ev_ok a _ _ C X W c _ h
      refine ⟨pe_imp (pe_notT pe) fun σ H Q ⟨w, ρ, e, h⟩ => ?_, pt_imp (pt_not pt) fun σ H Q ⟨w, ρ, e, h⟩ => ?_⟩
      · subst e
        unfold ev at h
        refine one h fun d x w' _ rx h => ?_
        split at h
        · rename_i k hk
          exact ⟨k, by rw [c.K]; exact truD_ok h.ok rx hk, h.q rfl⟩
        · exact h.no
      · subst e
        unfold ev at h
        refine ⟨w, ρ, rfl, h.ok, h.env, ?_⟩
        have post := h.post
        cases q : ev cf a ρ w.S with
        | ok d S' =>
          rw [q] at post
          have post : PostT G W w σ (match truD S' d with | some b => EOut.ok (.bl (!b)) S' | none => .stuck) Q := post
          cases e : truD S' d with
          | none => rw [e] at post; exact post.elim
          | some k =>
            rw [e] at post
            obtain ⟨k', e', p⟩ := post
            cases e'
            exact ⟨k, e, p⟩
        | exc x S' => rw [q] at post; exact post
        | stuck => rw [q] at post; exact post
    · cases h
  | .and a b => fun cf lv C X W c x h => by
    have go : ∀ {y z : Expr} {r : List Expr} {p : Pos}, chk C a y = true → PE X (.BoolOp .And (z :: r) p) (tD G W (ev cf b)) → PW X (.BoolOp .And (z :: r) p) (tT G W (ev cf b)) →
        PE X (.BoolOp .And (y :: z :: r) p) (tD G W (ev cf (.and a b))) ∧ PT X (.BoolOp .And (y :: z :: r) p) (tT G W (ev cf (.and a b))) := by
      intro y z r p h1 pe pw
      obtain ⟨pa, pta⟩ := ev_ok a _ _ C X W c _ h1
      refine ⟨pe_imp (pe_andT pa pe) fun σ H Q ⟨w, ρ, e, h⟩ => ?_, pt_imp (pw_and pta pw).pt fun σ H Q ⟨w, ρ, e, h⟩ => ?_⟩
      · subst e
        unfold ev at h
        refine one h fun d x w' _ rx h => ?_
        obtain ⟨k, e, h1, h2⟩ := tru_split (h : At G W w' ρ σ (match truD w'.S d with | some true => ev cf b ρ w'.S | some false => .ok d w'.S | none => .stuck) Q)
        refine ⟨k, by rw [c.K]; exact truD_ok h.ok rx e, ?_⟩
        cases k with
        | true => rw [if_pos rfl]; exact (h1 rfl).td
        | false => rw [if_neg Bool.false_ne_true]; exact (h2 rfl).q rx
      · subst e
        unfold ev at h
        refine ⟨w, ρ, rfl, h.ok, h.env, ?_⟩
        have post := h.post
        cases q : ev cf a ρ w.S with
        | ok d S' =>
          rw [q] at post
          have post : PostT G W w σ (match truD S' d with | some true => ev cf b ρ S' | some false => EOut.ok d S' | none => .stuck) Q := post
          cases e : truD S' d with
          | none => rw [e] at post; exact post.elim
          | some k =>
            rw [e] at post
            refine ⟨k, e, fun w' e' ok' l => ?_⟩
            cases k with
            | true =>
              rw [if_pos rfl]
              refine ⟨w', ρ, rfl, AtT.of_le h.env l ok' ?_⟩
              rw [e']; exact post
            | false =>
              rw [if_neg Bool.false_ne_true]
              obtain ⟨k', e2, p⟩ := post
              rw [e] at e2
              cases e2
              exact p w' e' ok' l
        | exc x S' => rw [q] at post; exact post
        | stuck => rw [q] at post; exact post
    unfold chk at h
    split at h
    · obtain ⟨h1, h2⟩ := PD.ba h
      obtain ⟨pb, ptb⟩ := ev_ok b _ _ C X W c _ h2
      exact go h1 (pe_one pb) (pw_and1 ptb)
    · obtain ⟨h1, h2⟩ := PD.ba h
      obtain ⟨pb, ptb⟩ := ev_ok b _ _ C X W c _ h2
      exact go h1 pb (pw_of ptb)
    · cases h
  | .or a b => fun cf lv C X W c x h => by
    have go : ∀ {y z : Expr} {r : List Expr} {p : Pos}, chk C a y = true → PE X (.BoolOp .Or (z :: r) p) (tD G W (ev cf b)) → PW X (.BoolOp .Or (z :: r) p) (tT G W (ev cf b)) →
        PE X (.BoolOp .Or (y :: z :: r) p) (tD G W (ev cf (.or a b))) ∧ PT X (.BoolOp .Or (y :: z :: r) p) (tT G W (ev cf (.or a b))) := by
      intro y z r p h1 pe pw
      obtain ⟨pa, pta⟩ := ev_ok a _ _ C X W c _ h1
      refine ⟨pe_imp (pe_orT pa pe) fun σ H Q ⟨w, ρ, e, h⟩ => ?_, pt_imp (pw_or pta pw).pt fun σ H Q ⟨w, ρ, e, h⟩ => ?_⟩
      · subst e
        unfold ev at h
        refine one h fun d x w' _ rx h => ?_
        obtain ⟨k, e, h1, h2⟩ := tru_split (h : At G W w' ρ σ (match truD w'.S d with | some true => .ok d w'.S | some false => ev cf b ρ w'.S | none => .stuck) Q)
        refine ⟨k, by rw [c.K]; exact truD_ok h.ok rx e, ?_⟩
        cases k with
        | true => rw [if_pos rfl]; exact (h1 rfl).q rx
        | false => rw [if_neg Bool.false_ne_true]; exact (h2 rfl).td
      · subst e
        unfold ev at h
        refine ⟨w, ρ, rfl, h.ok, h.env, ?_⟩
        have post := h.post
        cases q : ev cf a ρ w.S with
        | ok d S' =>
          rw [q] at post
          have post : PostT G W w σ (match truD S' d with | some true => EOut.ok d S' | some false => ev cf b ρ S' | none => .stuck) Q := post
          cases e : truD S' d with
          | none => rw [e] at post; exact post.elim
          | some k =>
            rw [e] at post
            refine ⟨k, e, fun w' e' ok' l => ?_⟩
            cases k with
            | false =>
              rw [if_neg Bool.false_ne_true]
              refine ⟨w', ρ, rfl, AtT.of_le h.env l ok' ?_⟩
              rw [e']; exact post
            | true =>
              rw [if_pos rfl]
              obtain ⟨k', e2, p⟩ := post
              rw [e] at e2
              cases e2
              exact p w' e' ok' l
        | exc x S' => rw [q] at post; exact post
        | stuck => rw [q] at post; exact post
    unfold chk at h
    split at h
    · obtain ⟨h1, h2⟩ := PD.ba h
      obtain ⟨pb, ptb⟩ := ev_ok b _ _ C X W c _ h2
      exact go h1 (pe_one pb) (pw_or1 ptb)
    · obtain ⟨h1, h2⟩ := PD.ba h
      obtain ⟨pb, ptb⟩ := ev_ok b _ _ C X W c _ h2
      exact go h1 pb (pw_of ptb)
    · cases h
  | .ite t a b => fun cf lv C X W c x h => by
    unfold chk at h
    split at h
    · obtain ⟨h1, h2⟩ := PD.ba h
      obtain ⟨h2, h3⟩ := PD.ba h2
      obtain ⟨_, pt⟩ := ev_ok t _ _ C X W c _ h1
      obtain ⟨pa, pta⟩ := ev_ok a _ _ C X W c _ h2
      obtain ⟨pb, ptb⟩ := ev_ok b _ _ C X W c _ h3
      refine ⟨pe_imp (pe_ifExp pt pa pb) fun σ H Q ⟨w, ρ, e, h⟩ => ?_, pt_imp (pt_ife pt pta ptb) fun σ H Q ⟨w, ρ, e, h⟩ => ?_⟩
      · subst e
        unfold ev at h
        refine ⟨w, ρ, rfl, AtT.of_bind h (fun w' l h => ?_) (fun w' l h => ?_)⟩
        · rw [if_pos rfl]; exact h.td
        · rw [if_neg Bool.false_ne_true]; exact h.td
      · subst e
        unfold ev at h
        refine ⟨w, ρ, rfl, h.ok, h.env, ?_⟩
        have post := h.post
        cases q : ev cf t ρ w.S with
        | ok d S' =>
          rw [q] at post
          have post : PostT G W w σ (match truD S' d with | some true => ev cf a ρ S' | some false => ev cf b ρ S' | none => .stuck) Q := post
          cases e : truD S' d with
          | none => rw [e] at post; exact post.elim
          | some k =>
            rw [e] at post
            refine ⟨k, e, fun w' e' ok' l => ?_⟩
            cases k with
            | true =>
              rw [if_pos rfl]
              refine ⟨w', ρ, rfl, AtT.of_le h.env l ok' ?_⟩
              rw [e']; exact post
            | false =>
              rw [if_neg Bool.false_ne_true]
              refine ⟨w', ρ, rfl, AtT.of_le h.env l ok' ?_⟩
              rw [e']; exact post
        | exc x S' => rw [q] at post; exact post
        | stuck => rw [q] at post; exact post
    · cases h
  | .cmp o a b => fun cf lv C X W c x h => by
    unfold chk at h
    split at h
    · rename_i l o' r p
      obtain ⟨h1, h2⟩ := PD.ba h
      obtain ⟨h2, h3⟩ := PD.ba h2
      have e1 := of_decide_eq_true h1
      subst e1
      have pa := (ev_ok a _ _ C X W c _ h2).1
      have pb := (ev_ok b _ _ C X W c _ h3).1
      have mk := mark_of (o := o) (chk_good h3)
      have op := cmp_ok' (X := X) c.units o
      rw [c.K] at op
      refine ⟨pe_imp (pe_cmpR op pa pb mk) fun σ H Q ⟨w, ρ, e, h⟩ => ?_, pt_imp (pt_cmpR op pa pb mk) fun σ H Q ⟨w, ρ, e, h⟩ => ?_⟩
      · subst e
        unfold ev at h
        exact two h fun d e x y w' _ rx ry h => cmp_ok h rx ry
      · subst e
        have h' := atT_bool h fun d S' e => cmpBool (e := .lit .non) e
        unfold ev at h'
        exact two h' fun d e x y w' _ rx ry h => cmp_ok h rx ry
    · cases h
  | .chn o o2 a b t => fun cf lv C X W c x h => by
    unfold chk at h
    split at h
    · rename_i l o' o2' r u p
      obtain ⟨h1, h2⟩ := PD.ba h
      obtain ⟨h2, h3⟩ := PD.ba h2
      obtain ⟨h3, h4⟩ := PD.ba h3
      obtain ⟨h4, h5⟩ := PD.ba h4
      have e1 := of_decide_eq_true h1
      subst e1
      have e2 := of_decide_eq_true h2
      subst e2
      have pa := (ev_ok a _ _ C X W c _ h3).1
      have pb := (ev_ok b _ _ C X W c _ h4).1
      have pc := (ev_ok t _ _ C X W c _ h5).1
      have op := cmp_ok' (X := X) c.units o
      have op2 := cmp_ok' (X := X) c.units o2
      rw [c.K] at op op2
      have key : ∀ {σ : L2.St} {w : Wd} {ρ : Env'} {Q : VK}, At G W w ρ σ (ev cf (.chn o o2 a b t) ρ w.S) Q → tChain (rCmp G.K o) (rCmp G.K o2) (tD G W (ev cf a)) (tD G W (ev cf b)) (tD G W (ev cf t)) σ w.H Q := by
        intro σ w ρ Q h
        unfold ev at h
        refine two (f := fun x y S => (cmpD o x y S).bind fun k S => match k with
          | .bl true => (ev cf t ρ S).bind fun z S => cmpD o2 y z S
          | .bl false => .ok (.bl false) S
          | _ => .stuck) h fun d e x y w' _ rx ry h => cmp_ok (h.bindX fun k v w2 l2 rk h => ?_) rx ry
        split at h
        · refine ⟨true, rk, ?_⟩
          rw [if_pos rfl]
          exact one h fun z u w3 l3 rz h => cmp_ok h (ry.le (l2.trans l3).toLe0) rz
        · refine ⟨false, rk, ?_⟩
          rw [if_neg Bool.false_ne_true]
          exact h.q (show Rep G w2 (.bl false) (.bl false) from rfl)
        · exact h.no
      have hm : lastMarks [o, o2] [r, u] = false := marks2_of (chk_good h5)
      refine ⟨pe_imp (pe_chain op op2 pa pb pc hm) fun σ H Q ⟨w, ρ, e, h⟩ => ?_, pt_imp (pt_chain op op2 pa pb pc hm) fun σ H Q ⟨w, ρ, e, h⟩ => ?_⟩
      · subst e
        exact key h
      · subst e
        exact key (atT_bool h fun d S' e => chnBool e)
    · cases h
  | .tup es => fun cf lv C X W c x h => by
    unfold chk at h
    split at h
    · refine both c ?_ rfl
      refine pe_imp (pe_tup (evS_ok es _ _ C X W c _ h)) fun σ H Q ⟨w, ρ, e, h⟩ => ?_
      subst e
      unfold ev at h
      exact ⟨w, ρ, rfl, AtL.bindX h fun ds vs w' l r h => h.newT r r.length⟩
    · cases h
  | .lst m es => fun cf lv C X W c x h => by
    unfold chk at h
    split at h
    · refine both c ?_ rfl
      refine pe_imp (pe_lst (evS_ok es _ _ C X W c _ h)) fun σ H Q ⟨w, ρ, e, h⟩ => ?_
      subst e
      unfold ev at h
      exact ⟨w, ρ, rfl, AtL.bindX h fun ds vs w' l r h => h.newL r⟩
    · cases h
  | .dic es => fun cf lv C X W c x h => by
    unfold chk at h
    split at h
    · rename_i keys vals pos
      obtain ⟨h1, h2⟩ := PD.ba h
      have h15 := Nat.le_of_ble_eq_true h1
      refine both c ?_ rfl
      obtain ⟨trs, pps, hall, hl, sem⟩ := evd_ok es _ _ C X W c pos _ _ h2
      by_cases h0 : keys = []
      · subst h0
        have hv : vals = [] := List.eq_nil_of_length_eq_zero hl.symm
        subst hv
        refine pe_imp pe_dnewK fun σ H Q ⟨w, ρ, e, h⟩ => ?_
        subst e
        have e0 : es = .nil := by
          cases es with
          | nil => rfl
          | cons a r => unfold chkD at h2; cases r <;> cases h2
          | star a r => unfold chkD at h2; cases h2
        subst e0
        unfold ev evs at h
        intro p hp
        have h' : At G W w ρ σ (.ok (.dic []) w.S) Q := h
        exact h'.put hp ⟨p, [], rfl, ⟨h'.ok.notMuPut hp, upd_same⟩, rfl⟩
      · refine pe_imp (pe_dispX c.units pps hall hl h0 h15) fun σ H Q ⟨w, ρ, e, h⟩ => ?_
        subst e
        unfold ev at h
        intro p hp
        have hL : AtL G W w ρ σ (evs cf es ρ w.S) fun vs H' => ∃ w' ds, w'.H = H' ∧ Le w w' ∧ RepL G w' ds vs ∧ At G W w' ρ σ (dicD ds w'.S) Q := AtL.bindX h fun ds vs w' l r h => ⟨w', ds, rfl, l, r, h⟩
        refine sem σ (w.open' p (.dK [])) ρ _ ?_
        have ho := hL.opened (ob := .dK []) hp
        refine AtL.mono ho fun vs w2 _ => ?_
        rintro ⟨w', ds, S', e, eo, eS, ok', l, r⟩ ps eps
        have pv : w'.pv = p :: w.pv := l.pvE
        have hH : w'.H p = some (.dK []) := by rw [l.pvK p List.mem_cons_self]; exact upd_same
        have hK : ∀ a ∈ w.pv, w'.H a = w.H a := fun a ha => by
          rw [l.pvK a (List.mem_cons_of_mem _ ha)]
          exact upd_ne fun z => by subst z; exact not_pv hL.ok hp ha
        have post := h.post
        rw [eo] at post
        have post : PostE G W w σ (dicD ds S') Q := post
        unfold dicD at post
        subst eps
        rw [← e]
        refine ⟨hH, ?_⟩
        cases hp2 : pairsOf ds with
        | some kvs =>
          rw [hp2] at post
          obtain ⟨us, eus, rk⟩ := flat_ok r hp2
          refine .inl ⟨us, eus, ?_, ?_⟩
          · have lks := pairsOf_len hp2
            have lds := r.length
            have lk := rk.length
            have lx := evd_len h2 ρ w.S ds S' eo
            omega
          · have := post (w'.close p (.dK (mergeK [] us)) w.pv) eS (ok'.close pv (not_pv hL.ok hp)) (Le.through hL.ok hp l.toLe0 pv hK) (.ref p) ⟨p, _, rfl, ⟨close_notMu ok' pv (not_pv hL.ok hp), upd_same⟩, repK_merge (RepK.le (Le0.close pv) rk) rfl⟩
            exact this
        | none =>
          rw [hp2] at post
          have post : PostE G W w σ (dicT ds S') Q := post
          unfold dicT at post
          split at post
          · rename_i ks x
            split at post
            · rename_i kk hkk
              obtain ⟨b, v, us, e1, t, rl⟩ := flat_tup r
              refine .inr ⟨b, kk, v, e1, ?_, ?_⟩
              · have := keysOf_ok rl hkk
                subst this
                rw [c.K]
                exact t.imp (fun z => z.2) id
              · exact post (w'.close p (DicX p) w.pv) eS (ok'.close pv (not_pv hL.ok hp)) (Le.through hL.ok hp l.toLe0 pv hK) (.ref p) ⟨p, rfl, close_notMu ok' pv (not_pv hL.ok hp), upd_same⟩
            · exact post.elim
          · exact post.elim
    · cases h
  | .call sg es zs => fun cf lv C X W c x h => by
    unfold chk at h
    split at h
    · rename_i n p xs kws pos
      obtain ⟨h0, h⟩ := PD.ba h
      obtain ⟨h1, h⟩ := PD.ba h
      obtain ⟨h2, h⟩ := PD.ba h
      obtain ⟨h3, h⟩ := PD.ba h
      obtain ⟨h4, h⟩ := PD.ba h
      obtain ⟨h5, h⟩ := PD.ba h
      obtain ⟨h6, h⟩ := PD.ba h
      obtain ⟨h7, h8⟩ := PD.ba h
      refine both c ?_ rfl
      refine pe_imp (call_ok c (cool_of h0) h1 h3 h4 h5 (of_decide_eq_true h6) (evs_ok es _ _ C X W c _ h7) (evk_ok zs _ _ C X W c _ h8) (stars_of h7) (fun e r q => ?_) (fun q ρ S => ?_) (evs_len h7) (evk_len h8)) fun σ H Q h => ?_
      · subst q
        obtain ⟨_, _, _, hg, _⟩ := cons_of h7
        exact star_of (chk_good hg)
      · subst q
        rw [nil_of h7]
        unfold evs
        rfl
      · obtain ⟨w, ρ, e, h⟩ := h
        subst e
        unfold ev at h
        exact ⟨w, ρ, rfl, h⟩
    · cases h
  | .ask => fun cf lv C X W c x h => by
    unfold chk at h
    split at h
    · rename_i n p pos
      obtain ⟨h1, h⟩ := PD.ba h
      obtain ⟨h2, h3⟩ := PD.ba h
      exact both c (c.askI h1 n p pos (of_decide_eq_true h2)) rfl
    · cases h
  | .lam hh e => fun cf lv C X W c x h => by
    unfold chk at h
    split at h
    · rename_i n np ps body scope lpos pos
      obtain ⟨h0, h⟩ := PD.ba h
      obtain ⟨h1, h⟩ := PD.ba h
      obtain ⟨h2, h⟩ := PD.ba h
      obtain ⟨h3, h⟩ := PD.ba h
      obtain ⟨h4, h5⟩ := PD.ba h
      have hl : (hh, n) ∈ C.lms := by
        obtain ⟨q, hq, e⟩ := List.any_eq_true.mp h3
        obtain ⟨e1, e2⟩ := PD.ba e
        rw [← eq_of_beq e1, ← of_decide_eq_true e2]
        exact hq
      refine both c ?_ rfl
      refine pe_imp (c.lam hh n hl ps body scope np lpos pos (fun ρ S => ev { CallF.no with fn := cf.low } e ρ S) (by rw [c.N]; exact h4) h1 fun A outer s H E f c' hr hg => ?_) fun σ H Q ⟨w, ρ, e, h⟩ => ⟨w, ρ, e, by unfold ev at h; exact h⟩
      have cB : Cok G { CallF.no with fn := cf.low } (lv - 2) { C with sc := scope, hot := false, lms := [], askT := false, askI := false } (LamX.lamCx X A outer s H E scope f c') (fun cls d _ H' => E cls d H') :=
        { sc := rfl, N := c.N, nd := c.nd, calm := fun _ => rfl, K := c.K, pc := c.pc, room := fun _ => hr, units := by have := hr.un; show (A.deeper _).units + 65 < _; omega, gd := hg, free := c.free, con := c.con, cls := c.cls,
          sig := fun e he n hn => ⟨(c.sigL (fun z => by rw [z] at hl; cases hl) e he n hn).at_⟩, takes := takes_of rfl rfl rfl rfl, exs := c.exs, xcl := c.xcl, flds := c.flds, gf := c.gf, askI := (fun z => nomatch z), askT := (fun z => nomatch z), sigL := fun z => absurd rfl z, lam := (fun _ _ z => nomatch z) }
      exact (ev_ok e _ _ _ _ _ cB _ h5).1
    · cases h
  | .blt b m es => fun cf lv C X W c x h => by
    unfold chk at h
    split at h
    · rename_i n p y xs pos
      obtain ⟨h0, h⟩ := PD.ba h
      obtain ⟨h1, h⟩ := PD.ba h
      obtain ⟨h2, h3⟩ := PD.ba h
      refine both c ?_ rfl
      obtain ⟨e0, r0, q, hg, hr⟩ := cons_of h3
      refine pe_imp (pe_blt c h0 (of_decide_eq_true h1) h2 (evs_ok es _ _ C X W c _ h3) (star_of (chk_good hg)) (stars_of hr)) fun σ H Q ⟨w, ρ, e, h⟩ => ?_
      subst e
      unfold ev at h
      rw [c.K]
      exact ⟨w, ρ, rfl, AtL.bindX h fun ds vs w' l r h => blt_ok c.pc h r⟩
    · cases h
  | .meth t a es => fun cf lv C X W c x h => by
    unfold chk at h
    split at h
    · rename_i o n ap y cp
      obtain ⟨h1, h⟩ := PD.ba h
      obtain ⟨h2, h⟩ := PD.ba h
      obtain ⟨h3, h4⟩ := PD.ba h
      refine both c ?_ rfl
      obtain ⟨e0, r0, q, hg, hr⟩ := cons_of h4
      have hr0 := nil_of hr
      subst q hr0
      have pa := (ev_ok a _ _ C X W c _ h3).1
      have pb := (ev_ok e0 _ _ C X W c _ hg).1
      cases t with
      | join =>
        have hn := of_decide_eq_true (show decide (n = ("join" : Str)) = true from h1)
        subst hn
        refine pe_imp (pe_join pa pb (star_of (chk_good hg)) (attr_of' (chk_good h3)) h2) fun σ H Q ⟨w, ρ, e, h⟩ => ?_
        subst e
        unfold ev at h
        rw [c.K]
        refine one h fun d v w1 l1 r1 h => ?_
        unfold evs evs at h
        rw [one_list] at h
        split at h
        · rename_i hs
          have hx : ∃ z, v = .str z := by
            cases d with
            | str z => exact ⟨z, r1.1⟩
            | _ => cases hs
          refine ⟨hx, w1, ρ, rfl, h.bindX fun e u w2 l2 r2 h => ?_⟩
          exact join_ok h (r1.le l2.toLe0) r2
        · exact h.no
      | split =>
        have hn := of_decide_eq_true (show decide (n = ("split" : Str)) = true from h1)
        subst hn
        refine pe_imp (pe_split pa pb (star_of (chk_good hg)) (attr_of' (chk_good h3)) h2) fun σ H Q ⟨w, ρ, e, h⟩ => ?_
        subst e
        unfold ev at h
        refine one h fun d v w1 l1 r1 h => ?_
        unfold evs evs at h
        rw [one_list] at h
        split at h
        · rename_i hs
          have hx : ∃ z, v = .str z := by
            cases d with
            | str z => exact ⟨z, r1.1⟩
            | _ => cases hs
          refine ⟨hx, w1, ρ, rfl, h.bindX fun e u w2 l2 r2 h => ?_⟩
          have h' : At G W w2 ρ σ (splitD w2.S d e) Q := h
          cases d with
          | str a =>
            cases e with
            | str b =>
              unfold splitD at h'
              dsimp only at h'
              by_cases hc : (b.length == 0) = false ∧ a.length + 2 ≤ sizeLine ∧ ((Txt.split a b).all fun z => decide (z.length ≤ sizeLine)) = true
              · rw [if_pos hc] at h'
                obtain ⟨c1, c2, c3⟩ := hc
                exact ⟨a, b, r1.1, by rw [show u = .str b from r2.1], c1, c2, (h'.newL (repL_strs (fun z hz => of_decide_eq_true (List.all_eq_true.mp c3 z hz)))).2⟩
              · rw [if_neg hc] at h'
                exact h'.no
            | _ => exact h'.no
          | _ => cases e <;> exact h'.no
        · exact h.no
      | append =>
        have hn := of_decide_eq_true (show decide (n = ("append" : Str)) = true from h1)
        subst hn
        refine pe_imp (pe_bm PySem.F.plainAttrs_list PySem.F.slot_list_append PySem.F.type_list_append mt_append pa (pa_cons pb pa_nil (star_of (chk_good hg))) (attr_of' (chk_good h3)) (by rw [star_of (chk_good hg)]; rfl) h2 (star_of (chk_good hg)) rfl) fun σ H Q ⟨w, ρ, e, h⟩ => ?_
        subst e
        unfold ev at h
        refine one h fun d v w1 l1 r1 h => ?_
        split at h
        · rename_i hs
          have hx : ∃ n xs, d = .ref n ∧ w1.S[n]? = some (.lst xs) := by
            cases d with
            | ref n =>
              have hs : (match w1.S[n]? with | some (.lst _) => true | _ => false) = true := hs
              split at hs
              · exact ⟨n, _, rfl, by assumption⟩
              · cases hs
            | _ => cases hs
          obtain ⟨n, xs, rfl, hn⟩ := hx
          obtain ⟨a1, vs1, e1, _, h1, _⟩ := ref_list h.ok r1 hn
          unfold evs evs at h
          rw [one_list] at h
          refine ⟨by rw [e1]; exact .inl ⟨rfl, vs1, .inl (.inl h1)⟩, w1, ρ, rfl, h.bindX fun e u w2 l2 r2 h => ?_⟩
          have h' : At G W w2 ρ σ (appD w2.S (.ref n) e) Q := h
          unfold appD at h'
          dsimp only at h'
          split at h'
          · rename_i xs2 hn2
            split at h'
            · rename_i hl
              obtain ⟨a2, vs2, e2, ms2, h2, rl2⟩ := ref_list h'.ok (r1.le l2.toLe0) hn2
              have rl3 := rl2.append (es := [e]) (us := [u]) ⟨u, [], rfl, r2, rfl⟩
              obtain ⟨ok3, l3⟩ := h'.ok.wrL ms2 hn2 rl3
              exact ⟨a2, vs2, u, e2, rfl, h2, by rw [← rl2.length]; exact hl, h'.post (w2.wr n a2 (.lst (vs2 ++ [u])) (.lst (xs2 ++ [e]))) rfl ok3 l3 .non rfl⟩
            · exact h'.no
          · exact h'.no
        · exact h.no
      | _ => cases h1
    · cases h
  | .tyv t => fun cf lv C X W c x h => by
    unfold chk at h
    split at h
    · rename_i n p
      obtain ⟨h1, h2⟩ := PD.ba h
      have e1 := of_decide_eq_true h1
      obtain ⟨g, mg, h3, h4⟩ := c.freeN h2
      have hv := bt_boot t
      rw [← e1] at hv
      refine both c ?_ rfl
      refine pe_imp (pe_bltn (v := .ty t.nm) g mg hv rfl h3 h4) fun σ H Q ⟨w, ρ, e, h⟩ => ?_
      subst e
      unfold ev at h
      exact h.q rfl
    · cases h
  | .clsv m k => fun cf lv C X W c x h => by
    unfold chk at h
    split at h
    · rename_i n p
      obtain ⟨h1, h2⟩ := PD.ba h
      obtain ⟨h2a, h3⟩ := PD.ba h2
      have e1 := of_decide_eq_true h1
      subst e1
      obtain ⟨q, hq, h4⟩ := List.any_eq_true.mp h3
      obtain ⟨h4, h5⟩ := PD.ba h4
      have e2 := of_decide_eq_true h4
      have e3 := eq_of_beq h5
      obtain ⟨q1, q2⟩ := q
      dsimp only at e2 e3
      subst e2 e3
      obtain ⟨hm, hk⟩ := c.cls _ _ hq
      obtain ⟨g, hd⟩ := c.glob h2a
      refine both c ?_ rfl
      refine pe_imp (pe_glob (v := .ref (G.clsA q2)) g hm rfl hd) fun σ H Q ⟨w, ρ, e, h⟩ => ?_
      subst e
      unfold ev at h
      exact h.q ⟨rfl, hk⟩
    · cases h
  | .idx a i => fun cf lv C X W c x h => by
    unfold chk at h
    split at h
    · obtain ⟨h1, h2⟩ := PD.ba h
      refine both c ?_ rfl
      refine pe_imp (pe_ix ix_seq (ev_ok a _ _ C X W c _ h1).1 (ev_ok i _ _ C X W c _ h2).1 (ix_of (chk_good h2))) fun σ H Q ⟨w, ρ, e, h⟩ => ?_
      subst e
      unfold ev at h
      rw [c.K]
      exact two h fun d e x y w' _ rx ry h => idx_ok h rx ry
    · cases h
  | .slc m a lo hi => fun cf lv C X W c x h => by
    unfold chk at h
    split at h
    · obtain ⟨h1, h2⟩ := PD.ba h
      obtain ⟨h2, h3⟩ := PD.ba h2
      refine both c ?_ rfl
      refine pe_imp (pe_slice sl_ok (ev_ok a _ _ C X W c _ h1).1 (evo_ok lo _ _ C X W c _ h2) (evo_ok hi _ _ C X W c _ h3)) fun σ H Q ⟨w, ρ, e, h⟩ => ?_
      subst e
      unfold ev at h
      rw [c.K]
      exact one h fun d v w1 l1 r1 h => ⟨w1, ρ, _, rfl, Q, h, fun l w2 l2 h => ⟨w2, ρ, _, rfl, Q, h, fun u w3 l3 h => slc_ok h (r1.le (l2.trans l3).toLe0)⟩⟩
    · cases h
  | .comp m own tg it conds elt => fun cf lv C X W c x h => by
    unfold chk at h
    split at h
    · rename_i e t i ifs scope pos
      obtain ⟨h0, h⟩ := PD.ba h
      obtain ⟨h1, h⟩ := PD.ba h
      obtain ⟨h2, h⟩ := PD.ba h
      obtain ⟨h3, h⟩ := PD.ba h
      obtain ⟨h4, h⟩ := PD.ba h
      obtain ⟨h5, h6⟩ := PD.ba h
      refine both c ?_ rfl
      refine pe_imp (pe_lc (c.calm (cool_of h0)) c.nd (evI_ok it _ _ C X W c _ _ h2) (by rw [c.N, c.sc]; exact blkOk_by h1) (fun s H A cl fp => tg_ok (c.blk s H scope cl A fp) (fun z => by cases z) h3) (fun s H A cl fp => evC_ok conds _ _ _ _ _ (c.blk s H scope cl A fp) _ h5)
        (fun s H A cl fp => (ev_ok elt _ _ _ _ _ (c.blk s H scope cl A fp) _ h6).1) (fun _ => set_of (iter_good h2))) fun σ H Q ⟨w, ρ, e, h⟩ => ?_
      subst e
      unfold ev at h
      exact comp_ok (tgOwn_mem h4) h
    · cases h
  | .frz a => fun cf lv C X W c x h => by
    unfold chk at h
    obtain ⟨pe, pt⟩ := ev_ok a _ _ C X W c _ h
    refine ⟨pe_imp pe fun σ H Q ⟨w, ρ, e, h⟩ => ?_, pt_imp pt fun σ H Q ⟨w, ρ, e, h⟩ => ?_⟩
    · subst e
      unfold ev at h
      exact one h fun d v w' _ r h => frz_ok h r
    · subst e
      unfold ev at h
      refine ⟨w, ρ, rfl, h.ok, h.env, ?_⟩
      have post := h.post
      cases q : ev cf a ρ w.S with
      | ok d S' =>
        rw [q] at post
        exact frzT (S := S') post
      | exc x S' => rw [q] at post; exact post
      | stuck => rw [q] at post; exact post
  | .cat m a b => fun cf lv C X W c x h => by
    unfold chk at h
    split at h
    · obtain ⟨h2, h3⟩ := PD.ba h
      refine both c ?_ rfl
      refine pe_imp (pe_op op_catD (ev_ok a _ _ C X W c _ h2).1 (ev_ok b _ _ C X W c _ h3).1) fun σ H Q ⟨w, ρ, e, h⟩ => ?_
      subst e
      unfold ev at h
      rw [c.K]
      exact two h fun d e x y w' _ rx ry h => cat_ok h rx ry
    · cases h
  | .rep m a b => fun cf lv C X W c x h => by
    unfold chk at h
    split at h
    · obtain ⟨h2, h3⟩ := PD.ba h
      refine both c ?_ rfl
      refine pe_imp (pe_op op_repD (ev_ok a _ _ C X W c _ h2).1 (ev_ok b _ _ C X W c _ h3).1) fun σ H Q ⟨w, ρ, e, h⟩ => ?_
      subst e
      unfold ev at h
      rw [c.K]
      exact two h fun d e x y w' _ rx ry h => rep_ok h rx ry
    · cases h
  | .att a f => fun cf lv C X W c x h => by
    unfold chk at h
    split at h
    · rename_i o n p
      obtain ⟨h1, h⟩ := PD.ba h
      obtain ⟨h2, h3⟩ := PD.ba h
      have e1 := of_decide_eq_true h1
      subst e1
      refine both c ?_ rfl
      refine pe_imp (pe_att (ev_ok a _ _ C X W c _ h3).1 (attr_of' (chk_good h3))) fun σ H Q ⟨w, ρ, e, h⟩ => ?_
      subst e
      unfold ev at h
      rw [c.K]
      exact one h fun d v w' _ r h => att_ok c.pc (fun x hx => c.flds n (List.contains_iff_mem.mp h2) x hx) h r
    · cases h
theorem evs_ok : ∀ (es : Es) (cf : CallF) (lv : Nat) (C : CC) (X : Cx) (W : WX), Cok G cf lv C X W → ∀ (xs : List Expr), chks C es xs = true → PA X xs (tL G W (evs cf es))
  | .nil, cf, lv, C, X, W, c, xs, h => by
    unfold chks at h
    split at h
    · refine pa_imp pa_nil fun σ H Q ⟨w, ρ, e, h⟩ => ?_
      subst e
      unfold evs at h
      exact h.q rfl
    · cases h
  | .cons e r, cf, lv, C, X, W, c, xs, h => by
    unfold chks at h
    split at h
    · rename_i y ys
      obtain ⟨h1, h2⟩ := PD.ba h
      refine pa_imp (pa_cons (ev_ok e _ _ C X W c _ h1).1 (evs_ok r _ _ C X W c _ h2) (star_of (chk_good h1))) fun σ H Q ⟨w, ρ, e, h⟩ => ?_
      subst e
      unfold evs at h
      exact consT h
    · cases h
  | .star _ _, _, _, _, _, _, _, _, h => by unfold chks at h; cases h
theorem evS_ok : ∀ (es : Es) (cf : CallF) (lv : Nat) (C : CC) (X : Cx) (W : WX), Cok G cf lv C X W → ∀ (xs : List Expr), chkX C es xs = true → PA X xs (tL G W (evs cf es))
  | .nil, cf, lv, C, X, W, c, xs, h => by
    unfold chkX at h
    split at h
    · refine pa_imp pa_nil fun σ H Q ⟨w, ρ, e, h⟩ => ?_
      subst e
      unfold evs at h
      exact h.q rfl
    · cases h
  | .cons e r, cf, lv, C, X, W, c, xs, h => by
    unfold chkX at h
    split at h
    · rename_i y ys
      obtain ⟨h1, h2⟩ := PD.ba h
      refine pa_imp (pa_cons (ev_ok e _ _ C X W c _ h1).1 (evS_ok r _ _ C X W c _ h2) (star_of (chk_good h1))) fun σ H Q ⟨w, ρ, e, h⟩ => ?_
      subst e
      unfold evs at h
      exact consT h
    · cases h
  | .star e r, cf, lv, C, X, W, c, xs, h => by
    unfold chkX at h
    split at h
    · rename_i y yp ys
      obtain ⟨h1, h2⟩ := PD.ba h
      refine pa_imp (StX.pa_star (ev_ok e _ _ C X W c _ h1).1 (evS_ok r _ _ C X W c _ h2)) fun σ H Q ⟨w, ρ, e, h⟩ => ?_
      subst e
      unfold evs at h
      rw [c.K]
      exact starT h
    · cases h
theorem evk_ok : ∀ (es : Es) (cf : CallF) (lv : Nat) (C : CC) (X : Cx) (W : WX), Cok G cf lv C X W → ∀ (xs : List Keyword), chkK C es xs = true → PK X xs (tL G W (evs cf es))
  | .nil, cf, lv, C, X, W, c, xs, h => by
    unfold chkK at h
    split at h
    · refine pk_imp pk_nil fun σ H Q ⟨w, ρ, e, h⟩ => ?_
      subst e
      unfold evs at h
      exact h.q rfl
    · cases h
  | .cons e r, cf, lv, C, X, W, c, xs, h => by
    unfold chkK at h
    split at h
    · rename_i y ys
      obtain ⟨h1, h2⟩ := PD.ba h
      refine pk_imp (pk_cons (ev_ok e _ _ C X W c _ h1).1 (evk_ok r _ _ C X W c _ h2)) fun σ H Q ⟨w, ρ, e, h⟩ => ?_
      subst e
      unfold evs at h
      exact consT h
    · cases h
  | .star _ _, _, _, _, _, _, _, _, h => by unfold chkK at h; cases h
theorem evd_ok : ∀ (es : Es) (cf : CallF) (lv : Nat) (C : CC) (X : Cx) (W : WX), Cok G cf lv C X W → ∀ (pos : Pos) (ks : List (Option Expr)) (vs : List Expr), chkD C es ks vs = true →
    ∃ trs, PPs X pos ks vs trs ∧ ks.all (·.isSome) = true ∧ ks.length = vs.length ∧ ∀ (σ : L2.St) (w : Wd) (ρ : Env') (R : List (V × V) → Hp → Prop), AtL G W w ρ σ (evs cf es ρ w.S) (fun us H => ∀ ps, us = flat ps → R ps H) → tPairs trs σ w.H R
  | .nil, cf, lv, C, X, W, c, pos, ks, vs, h => by
    unfold chkD at h
    split at h
    · refine ⟨[], pps_nil, rfl, rfl, fun σ w ρ R h => ?_⟩
      unfold evs at h
      exact h.q rfl [] rfl
    · cases h
  | .cons e (.cons f t), cf, lv, C, X, W, c, pos, ks, vs, h => by
    unfold chkD at h
    cases ks with
    | nil => cases h
    | cons k ks =>
      cases k with
      | none => cases h
      | some k =>
        cases vs with
        | nil => cases h
        | cons v vs =>
          have h : (chk C e k && (chk C f v && chkD C t ks vs)) = true := h
          obtain ⟨h1, h2⟩ := PD.ba h
          obtain ⟨h2, h3⟩ := PD.ba h2
          obtain ⟨trs, p, ha, hl, sem⟩ := evd_ok t _ _ C X W c pos _ _ h3
          refine ⟨_, pps_cons (ev_ok e _ _ C X W c _ h1).1 (ev_ok f _ _ C X W c _ h2).1 p, ?_, ?_, fun σ w ρ R h => ?_⟩
          · rw [List.all_cons, ha]; rfl
          · rw [List.length_cons, List.length_cons, hl]
          · unfold evs evs at h
            refine ⟨w, ρ, rfl, At.bindLX h fun d1 v1 w1 l1 r1 h => ?_⟩
            rw [bindL_assoc] at h
            refine ⟨w1, ρ, rfl, At.bindLX h fun d2 v2 w2 l2 r2 h => ?_⟩
            rw [bindLL_assoc] at h
            refine sem σ w2 ρ _ (AtL.bindLX h fun ds us w3 l3 r3 h ps eps => ?_)
            subst eps
            exact h.q ⟨v1, _, rfl, r1.le (l2.trans l3).toLe0, v2, _, rfl, r2.le l3.toLe0, r3⟩ ((v1, v2) :: ps) rfl
  | .cons e .nil, _, _, _, _, _, _, _, ks, vs, h => by unfold chkD at h; cases ks <;> cases vs <;> cases h
  | .cons e (.star _ _), _, _, _, _, _, _, _, ks, vs, h => by unfold chkD at h; cases ks <;> cases vs <;> cases h
  | .star _ _, _, _, _, _, _, _, _, _, _, h => by unfold chkD at h; cases h
theorem evo_ok : ∀ (e : Oe) (cf : CallF) (lv : Nat) (C : CC) (X : Cx) (W : WX), Cok G cf lv C X W → ∀ (x : Option Expr), chko C e x = true → PO X x (tO G W (evo cf e))
  | .no, cf, lv, C, X, W, c, x, h => by
    unfold chko at h
    split at h
    · refine po_imp po_none fun σ H Q ⟨w, ρ, f, e, Q', h, k⟩ => ?_
      subst e
      unfold evo at h
      exact k none w (Le.refl w) h
    · cases h
  | .some e, cf, lv, C, X, W, c, x, h => by
    unfold chko at h
    split at h
    · refine po_imp (po_some (ev_ok e _ _ C X W c _ h).1) fun σ H Q ⟨w, ρ, f, e, Q', h, k⟩ => ?_
      subst e
      unfold evo at h
      refine ⟨w, ρ, rfl, h.bindX fun d v w1 l1 r1 h => ?_⟩
      split at h
      · exact ⟨_, r1, k _ w1 l1 h⟩
      · exact h.no
    · cases h
theorem evC_ok : ∀ (es : Es) (cf : CallF) (lv : Nat) (C : CC) (X : Cx) (W : WX), Cok G cf lv C X W → ∀ (xs : List Expr), chkC C es xs = true → PTs X xs (tCond G (evC cf es))
  | .nil, cf, lv, C, X, W, c, xs, h => by
    unfold chkC at h
    split at h
    · refine pts_imp pts_nil fun σ H Q ⟨w, ρ, b, S', e, ok, env, hm, k⟩ => ?_
      subst e
      unfold evC at hm
      cases hm
      exact k w rfl ok (Le.refl w)
    · cases h
  | .cons e r, cf, lv, C, X, W, c, xs, h => by
    unfold chkC at h
    split at h
    · rename_i y
      obtain ⟨h1, h2⟩ := PD.ba h
      have hr : r = .nil := by
        cases r with
        | nil => rfl
        | _ => cases h2
      subst hr
      refine pts_imp (pts_one (ev_ok e _ _ C X W c _ h1).2) fun σ H Q ⟨w, ρ, b, S', e, ok, env, hm, k⟩ => ?_
      subst e
      refine ⟨w, ρ, rfl, ok, env, ?_⟩
      unfold evC evC at hm
      split at hm
      · rename_i d S1 hd
        rw [hd]
        split at hm
        · rename_i ht
          cases hm
          exact ⟨true, ht, k⟩
        · rename_i ht
          cases hm
          exact ⟨false, ht, k⟩
        · cases hm
      · cases hm
    · cases h
  | .star _ _, _, _, _, _, _, _, _, h => by unfold chkC at h; cases h
theorem evI_ok : ∀ (i : It) (cf : CallF) (lv : Nat) (C : CC) (X : Cx) (W : WX), Cok G cf lv C X W → ∀ (t x : Expr), chkI C i t x = true → PI X t x (tI G W (evI cf i))
  | .val e, cf, lv, C, X, W, c, t, x, h => by
    unfold chkI at h
    refine pi_imp (pi_val (ev_ok e _ _ C X W c _ h).1) fun σ H R ⟨w, ρ, e, h⟩ => ?_
    subst e
    unfold evI at h
    rw [c.K]
    refine ⟨w, ρ, rfl, h.bindX fun d v w1 l1 r1 h => ?_⟩
    split at h
    · exact .inr (.inr ⟨_, r1.1, h.r walks_str⟩)
    · obtain ⟨a, vs, e, ht, r⟩ := r1
      exact .inr (.inl ⟨a, e, ⟨vs, ht.sqt⟩, h.r (walks_tup ht r)⟩)
    · obtain ⟨a, vs, e, ht, r⟩ := r1
      exact .inl ⟨a, e, ⟨vs, ht.sql⟩, h.r (walks_lst ht r)⟩
    · exact h.no
  | .rng a, cf, lv, C, X, W, c, t, x, h => by
    unfold chkI at h
    split at h
    · rename_i n p y pos
      obtain ⟨h1, h⟩ := PD.ba h
      obtain ⟨h2, h3⟩ := PD.ba h
      have hn := of_decide_eq_true h1
      subst hn
      obtain ⟨g, mg, _, _⟩ := c.freeN h2
      have st : starEach [y] X.env = [(false, eval y X.env)] := star_of (chk_good h3)
      refine pi_imp (pi_range1 g mg (pa_cons (ev_ok a _ _ C X W c _ h3).1 pa_nil st) st) fun σ H R ⟨w, ρ, e, h⟩ => ?_
      subst e
      unfold evI at h
      refine ⟨w, ρ, rfl, h.bindX fun d v w1 l1 r1 h => ?_⟩
      split at h
      · rename_i j
        split at h
        · rename_i hj
          refine ⟨j, by rw [show v = .int j from r1], hj.1, hj.2, h.r ?_⟩
          have := walks_rng (G := G) (w := w1) (lo := 0) (n := j.toNat)
          simpa only [Int.zero_add] using this
        · exact h.no
      · exact h.no
    · cases h
  | .rng2 a b, cf, lv, C, X, W, c, t, x, h => by
    unfold chkI at h
    split at h
    · rename_i n p y z pos
      obtain ⟨h1, h⟩ := PD.ba h
      obtain ⟨h2, h⟩ := PD.ba h
      obtain ⟨h3, h4⟩ := PD.ba h
      have hn := of_decide_eq_true h1
      subst hn
      obtain ⟨g, mg, _, _⟩ := c.freeN h2
      have st2 : starEach [z] X.env = [(false, eval z X.env)] := star_of (chk_good h4)
      have st : starEach [y, z] X.env = (false, eval y X.env) :: starEach [z] X.env := star_of (chk_good h3)
      refine pi_imp (pi_range2 g mg (pa_cons (ev_ok a _ _ C X W c _ h3).1 (pa_cons (ev_ok b _ _ C X W c _ h4).1 pa_nil st2) st) (by rw [st, st2]) st2) fun σ H R ⟨w, ρ, e, h⟩ => ?_
      subst e
      unfold evI at h
      refine ⟨w, ρ, rfl, h.bindX fun d v w1 l1 r1 h => ⟨w1, ρ, rfl, h.bindX fun d2 v2 w2 l2 r2 h => ?_⟩⟩
      split at h
      · rename_i i j _
        split at h
        · rename_i hj
          exact ⟨i, j, by rw [show v = .int i from r1, show v2 = .int j from r2], hj, h.r walks_rng⟩
        · exact h.no
      · exact h.no
    · cases h
  | .zip a b, cf, lv, C, X, W, c, t, x, h => by
    unfold chkI at h
    split at h
    · rename_i n p y z pos
      obtain ⟨h1, h⟩ := PD.ba h
      obtain ⟨h2, h⟩ := PD.ba h
      obtain ⟨h3, h⟩ := PD.ba h
      obtain ⟨h4, h5⟩ := PD.ba h
      have hn := of_decide_eq_true h1
      subst hn
      obtain ⟨g, mg, _, _⟩ := c.freeN h2
      have st2 : starEach [z] X.env = [(false, eval z X.env)] := star_of (chk_good h4)
      have st : starEach [y, z] X.env = (false, eval y X.env) :: starEach [z] X.env := star_of (chk_good h3)
      split at h5
      · refine pi_imp (RZ.pi_zipA g mg (pa_cons (ev_ok a _ _ C X W c _ h3).1 (pa_cons (ev_ok b _ _ C X W c _ h4).1 pa_nil st2) st) st (by rw [st2]; rfl)) fun σ H R ⟨w, ρ, e, h⟩ => ?_
        subst e
        unfold evI at h
        rw [c.K]
        refine ⟨w, ρ, rfl, h.bindX fun d v w1 l1 r1 h => ⟨w1, ρ, rfl, h.bindX fun d2 v2 w2 l2 r2 h => ?_⟩⟩
        split at h
        · obtain ⟨a1, vs1, e1, q1, z1⟩ := r1.le l2.toLe0
          obtain ⟨a2, vs2, e2, q2, z2⟩ := r2
          exact ⟨a1, a2, vs1, vs2, by rw [e1, e2], .inl ⟨q1.sql, q2.sql, h.r (walks_zipL q1 q2 z1 z2)⟩⟩
        · obtain ⟨a1, vs1, e1, q1, z1⟩ := r1.le l2.toLe0
          obtain ⟨a2, vs2, e2, q2, z2⟩ := r2
          exact ⟨a1, a2, vs1, vs2, by rw [e1, e2], .inr ⟨q1.sqt, q2.sqt, h.r (walks_zipT q1 q2 z1 z2)⟩⟩
        · exact h.no
      · cases h5
    · cases h
  | .enum a, cf, lv, C, X, W, c, t, x, h => by
    unfold chkI at h
    split at h
    · rename_i n p y pos
      obtain ⟨h1, h⟩ := PD.ba h
      obtain ⟨h2, h⟩ := PD.ba h
      obtain ⟨h3, h5⟩ := PD.ba h
      have hn := of_decide_eq_true h1
      subst hn
      obtain ⟨g, mg, _, _⟩ := c.freeN h2
      have st : starEach [y] X.env = [(false, eval y X.env)] := star_of (chk_good h3)
      split at h5
      · refine pi_imp (pi_enumA g mg (pa_cons (ev_ok a _ _ C X W c _ h3).1 pa_nil st) st) fun σ H R ⟨w, ρ, e, h⟩ => ?_
        subst e
        unfold evI at h
        rw [c.K]
        refine ⟨w, ρ, rfl, h.bindX fun d v w1 l1 r1 h => ?_⟩
        split at h
        · obtain ⟨a1, vs1, e1, q1, z1⟩ := r1
          exact ⟨a1, vs1, by rw [e1], .inl ⟨q1.sql, h.r (walks_enum q1 z1)⟩⟩
        · obtain ⟨a1, vs1, e1, q1, z1⟩ := r1
          exact ⟨a1, vs1, by rw [e1], .inr ⟨q1.sqt, h.r (walks_enumT q1 z1)⟩⟩
        · exact h.no
      · cases h5
    · cases h
end
end
end PD
set_option maxHeartbeats 2000000
/-! PD14: what changes; parallel stores -/
namespace PD
open PySem PySem.Spec L2
section
variable {G : PC} {cf : CallF} {lv : Nat} {C : CC} {X : Cx} {W : WX} {σ : L2.St} {w : Wd} {ρ : Env'} {Q : VK}
theorem setL_ok {x i v : D} {o k u : V} {S' : Store} {R : Hp → Prop} (ok : Ok G w) (h : setL x i v w.S = some S') (ro : Rep G w x o) (rk : Rep G w i k) (ru : Rep G w v u)
    (q : ∀ w', w'.S = S' → Ok G w' → Le w w' → R w'.H) : rSetL o k u w.H R := by
  unfold setL at h
  split at h
  · rename_i n j
    split at h
    · rename_i xs hS
      split at h
      · rename_i m hm
        cases h
        obtain ⟨a, vs, e, hn, hH, rl⟩ := ref_list ok ro hS
        obtain ⟨ok', l'⟩ := ok.wrL (ys := xs.set m v) (vs := vs.set m u) hn hS (RepL.set ru m rl)
        exact ⟨a, vs, j, m, e, rk, hH, by rw [← rl.length]; exact hm, q _ rfl ok' l'⟩
      · cases h
    · cases h
  · cases h
/-! ### statements on data -/
variable (G) in
def PostS (W : WX) (w : Wd) (o : SOut) (D : Ends) : Prop := match o with
  | .nx ρ S => ∀ w' σ', w'.S = S → Ok G w' → Le w w' → REnv G w' ρ σ' → D.nx σ' w'.H
  | .bk ρ S => ∀ w' σ', w'.S = S → Ok G w' → Le w w' → REnv G w' ρ σ' → D.bk σ' w'.H
  | .ct ρ S => ∀ w' σ', w'.S = S → Ok G w' → Le w w' → REnv G w' ρ σ' → D.ct σ' w'.H
  | .rt d ρ S => ∀ w', w'.S = S → Ok G w' → Le w w' → ∀ v, Rep G w' d v → D.rt v w'.H
  | .exc x ρ S => ∀ w' σ', w'.S = S → Ok G w' → Le w w' → REnv G w' ρ σ' → ∀ cls od, XRep G w' x cls od → W cls od σ' w'.H
  | .stuck => False
variable (G) in
structure AtS (W : WX) (w : Wd) (ρ : Env') (σ : L2.St) (o : SOut) (D : Ends) : Prop where
  ok : Ok G w
  env : REnv G w ρ σ
  post : PostS G W w o D
variable (G) in
def tS (W : WX) (m : Env' → Store → SOut) : TS := fun D σ H => ∃ w ρ, w.H = H ∧ AtS G W w ρ σ (m ρ w.S) D
variable {E : Ends}
theorem PostS.le {w' : Wd} {o : SOut} (l : Le w w') (p : PostS G W w o E) : PostS G W w' o E := by
  cases o with
  | nx ρ S => exact fun w2 σ' e ok l2 env => p w2 σ' e ok (l.trans l2) env
  | bk ρ S => exact fun w2 σ' e ok l2 env => p w2 σ' e ok (l.trans l2) env
  | ct ρ S => exact fun w2 σ' e ok l2 env => p w2 σ' e ok (l.trans l2) env
  | rt d ρ S => exact fun w2 e ok l2 v r => p w2 e ok (l.trans l2) v r
  | exc x ρ S => exact fun w2 σ' e ok l2 env => p w2 σ' e ok (l.trans l2) env
  | stuck => exact p
theorem AtS.of_le {w' : Wd} {o : SOut} (env : REnv G w ρ σ) (l : Le w w') (ok : Ok G w') (p : PostS G W w o E) : AtS G W w' ρ σ o E := ⟨ok, env.le l.toLe0, p.le l⟩
theorem AtS.no {α : Prop} (h : AtS G W w ρ σ .stuck E) : α := h.post.elim
theorem AtS.bindX {o : EOut} {f : D → Store → SOut} (h : AtS G W w ρ σ (o.bindS ρ f) E) {R : VK} (k : ∀ d v w', Le w w' → Rep G w' d v → AtS G W w' ρ σ (f d w'.S) E → R v w'.H) : At G W w ρ σ o R := by
  obtain ⟨ok, env, post⟩ := h
  refine ⟨ok, env, ?_⟩
  cases o with
  | ok d S' => exact fun w' e ok' l v r => k d v w' l r (AtS.of_le env l ok' (by rw [e]; exact post))
  | exc x S' => exact fun w' e ok' l cls od r => post w' σ e ok' l (env.le l.toLe0) cls od r
  | stuck => exact post
theorem AtS.bindT {o : EOut} {f : Bool → Store → SOut} (h : AtS G W w ρ σ (o.bindS ρ fun x S => match truD S x with | some true => f true S | some false => f false S | none => .stuck) E) {R : Bool → Hp → Prop}
    (k : ∀ b w', Le w w' → AtS G W w' ρ σ (f b w'.S) E → R b w'.H) : AtT G W w ρ σ o R := by
  obtain ⟨ok, env, post⟩ := h
  refine ⟨ok, env, ?_⟩
  cases o with
  | ok d S' =>
    have post : PostS G W w (match truD S' d with | some true => f true S' | some false => f false S' | none => .stuck) E := post
    cases e : truD S' d with
    | none => rw [e] at post; exact post.elim
    | some b =>
      rw [e] at post
      refine ⟨b, e, fun w' e' ok' l => k b w' l (AtS.of_le env l ok' ?_)⟩
      rw [e']
      cases b <;> exact post
  | exc x S' => exact fun w' e ok' l cls od r => post w' σ e ok' l (env.le l.toLe0) cls od r
  | stuck => exact post
theorem AtS.bindI {o : LOut} {f : List D → Store → SOut} (h : AtS G W w ρ σ (o.bindS ρ f) E) {R : L2.It → Hp → Prop} (k : ∀ ds J w', Le w w' → WalksD G J w' ds → AtS G W w' ρ σ (f ds w'.S) E → R J w'.H) : AtI G W w ρ σ o R := by
  obtain ⟨ok, env, post⟩ := h
  refine ⟨ok, env, ?_⟩
  cases o with
  | ok d S' => exact fun w' e ok' l J r => k d J w' l r (AtS.of_le env l ok' (by rw [e]; exact post))
  | exc x S' => exact fun w' e ok' l cls od r => post w' σ e ok' l (env.le l.toLe0) cls od r
  | stuck => exact post
theorem AtS.bindL {o : LOut} {f : List D → Store → SOut} (h : AtS G W w ρ σ (o.bindS ρ f) E) {R : List V → Hp → Prop} (k : ∀ ds vs w', Le w w' → RepL G w' ds vs → AtS G W w' ρ σ (f ds w'.S) E → R vs w'.H) : AtL G W w ρ σ o R := by
  obtain ⟨ok, env, post⟩ := h
  refine ⟨ok, env, ?_⟩
  cases o with
  | ok d S' => exact fun w' e ok' l J r => k d J w' l r (AtS.of_le env l ok' (by rw [e]; exact post))
  | exc x S' => exact fun w' e ok' l cls od r => post w' σ e ok' l (env.le l.toLe0) cls od r
  | stuck => exact post
theorem AtS.nx {ρ' : Env'} {σ' : L2.St} (h : AtS G W w ρ σ (.nx ρ' w.S) E) (env : REnv G w ρ' σ') : E.nx σ' w.H := h.post w σ' rfl h.ok (Le.refl w) env
theorem AtS.seq {o : SOut} {f : Env' → Store → SOut} (h : AtS G W w ρ σ (o.seq f) E) : AtS G W w ρ σ o { E with nx := tS G W f E } := by
  obtain ⟨ok, env, post⟩ := h
  refine ⟨ok, env, ?_⟩
  cases o with
  | nx ρ' S => exact fun w' σ' e ok' l env' => ⟨w', ρ', rfl, ok', env', by rw [e]; exact post.le l⟩
  | bk ρ' S => exact post
  | ct ρ' S => exact post
  | rt d ρ' S => exact post
  | exc x ρ' S => exact post
  | stuck => exact post
theorem ps_imp {x : Stmt} {t t' : TS} (h : PS X x t) (k : ∀ E σ H, t' E σ H → t E σ H) : PS X x t' := ⟨fun pins s σ H E I q => h.run pins s σ H E I (k E σ H q)⟩
theorem pss_imp {x : List Stmt} {t t' : TS} (h : PSs X x t) (k : ∀ E σ H, t' E σ H → t E σ H) : PSs X x t' := ⟨fun pins s σ H E I q => h.run pins s σ H E I (k E σ H q)⟩
/-! ### loops -/
theorem for_ok {g : Tg} {mI : Env' → Store → LOut} {mb : Env' → Store → SOut}
    (h : AtS G W w ρ σ ((mI ρ w.S).bindS ρ fun xs S => forGo (fun x ρ S => match bindT g x ρ with | some ρ' => mb ρ' S | none => .stuck) xs ρ S) E) :
    tFor (tI G W mI) (gD G g) (tS G W mb) E σ w.H := by
  refine ⟨w, ρ, rfl, h.bindI fun xs J w1 l1 wk h => ?_⟩
  refine ⟨fun i m σ H => m = xs.length - i ∧ i ≤ xs.length ∧ ∃ w2 ρ2, w2.H = H ∧ Le w1 w2 ∧ AtS G W w2 ρ2 σ (forGo (fun x ρ S => match bindT g x ρ with | some ρ' => mb ρ' S | none => .stuck) (xs.drop i) ρ2 w2.S) E,
    ⟨xs.length, rfl, Nat.zero_le _, w1, ρ, rfl, Le.refl _, h⟩, ?_⟩
  rintro i m σ2 H ⟨rfl, hi, w2, ρ2, rfl, l2, h⟩
  by_cases hlt : i < xs.length
  · have hd : xs.drop i = xs[i] :: xs.drop (i + 1) := List.drop_eq_getElem_cons hlt
    rw [hd] at h
    refine .inr ⟨wk.go i w2 hlt l2.toLe0, fun σ' H' => ∃ m', m' < xs.length - i ∧ (m' = xs.length - (i + 1) ∧ i + 1 ≤ xs.length ∧ ∃ w2 ρ2, w2.H = H' ∧ Le w1 w2 ∧ AtS G W w2 ρ2 σ' (forGo (fun x ρ S => match bindT g x ρ with | some ρ' => mb ρ' S | none => .stuck) (xs.drop (i + 1)) ρ2 w2.S) E),
      fun σ' H' h => h, fun x H' hy => ?_⟩
    obtain ⟨w3, rfl, l3, s3, ok3, r3⟩ := wk.yld i xs[i] x w2 H' (List.getElem?_eq_getElem hlt) l2.toLe0 h.ok hy
    unfold forGo at h
    cases hb : bindT g xs[i] ρ2 with
    | none => rw [hb] at h; exact h.no
    | some ρ3 =>
      rw [hb] at h
      dsimp only at h
      refine ⟨w3, ρ2, xs[i], ρ3, rfl, ok3, h.env.le l3.toLe0, r3, hb, fun σ3 env3 al => ⟨w3, ρ3, rfl, ok3, env3, ?_⟩⟩
      have p := h.post.le l3
      rw [s3]
      cases ho : mb ρ3 w2.S with
      | nx ρ4 S4 =>
        rw [ho] at p
        exact fun w4 σ4 e4 ok4 l4 env4 => ⟨xs.length - (i + 1), by omega, rfl, hlt, w4, ρ4, rfl, l2.trans (l3.trans l4), ok4, env4, by rw [e4]; exact PostS.le l4 p⟩
      | ct ρ4 S4 =>
        rw [ho] at p
        exact fun w4 σ4 e4 ok4 l4 env4 => ⟨xs.length - (i + 1), by omega, rfl, hlt, w4, ρ4, rfl, l2.trans (l3.trans l4), ok4, env4, by rw [e4]; exact PostS.le l4 p⟩
      | bk ρ4 S4 => rw [ho] at p; exact p
      | rt d ρ4 S4 => rw [ho] at p; exact p
      | exc x ρ4 S4 => rw [ho] at p; exact p
      | stuck => rw [ho] at p; exact p
  · have hi' : i = xs.length := by omega
    subst hi'
    rw [List.drop_length] at h
    exact .inl ⟨wk.stop w2 l2.toLe0, h.post w2 σ2 rfl h.ok (Le.refl w2) h.env⟩
theorem while_ok {mc : Env' → Store → EOut} {mb : Env' → Store → SOut} {n : Nat} (h : AtS G W w ρ σ (whlGo mc mb n ρ w.S) E) : tWhile (tT G W mc) (tS G W mb) E σ w.H := by
  refine ⟨fun m σ H => ∃ w ρ, w.H = H ∧ AtS G W w ρ σ (whlGo mc mb m ρ w.S) E, ⟨n, w, ρ, rfl, h⟩, ?_⟩
  rintro m σ2 H ⟨w2, ρ2, rfl, h⟩
  cases m with
  | zero => exact h.no
  | succ m =>
    unfold whlGo at h
    refine ⟨w2, ρ2, rfl, AtS.bindT (f := fun b S => if b = true then (match mb ρ2 S with
      | .nx ρ S => whlGo mc mb m ρ S
      | .ct ρ S => whlGo mc mb m ρ S
      | .bk ρ S => .nx ρ S
      | o => o) else .nx ρ2 S) h fun b w3 l3 h => ?_⟩
    cases b with
    | false => rw [if_neg Bool.false_ne_true] at h ⊢; exact h.nx h.env
    | true =>
      rw [if_pos rfl] at h ⊢
      refine ⟨fun σ' H' => ∃ m', m' < m + 1 ∧ ∃ w ρ, w.H = H' ∧ AtS G W w ρ σ' (whlGo mc mb m' ρ w.S) E, fun σ' H' h => h, w3, ρ2, rfl, h.ok, h.env, ?_⟩
      have p := h.post
      cases ho : mb ρ2 w3.S with
      | nx ρ4 S4 =>
        rw [ho] at p
        exact fun w4 σ4 e4 ok4 l4 env4 => ⟨m, Nat.lt_succ_self m, w4, ρ4, rfl, ok4, env4, by rw [e4]; exact PostS.le l4 p⟩
      | ct ρ4 S4 =>
        rw [ho] at p
        exact fun w4 σ4 e4 ok4 l4 env4 => ⟨m, Nat.lt_succ_self m, w4, ρ4, rfl, ok4, env4, by rw [e4]; exact PostS.le l4 p⟩
      | bk ρ4 S4 => rw [ho] at p; exact p
      | rt d ρ4 S4 => rw [ho] at p; exact p
      | exc x ρ4 S4 => rw [ho] at p; exact p
      | stuck => rw [ho] at p; exact p
end
end PD
set_option maxHeartbeats 2000000
/-! PD15: statements keep what they do on data -/
namespace PD
open PySem PySem.Spec L2
section
variable {G : PC} {cf : CallF} {lv : Nat}
/-! ### the check -/
def nameOf : Expr → Option (Str × Pos)
  | .Name n p => some (n, p)
  | _ => none
def lineOf : List Expr → Nat
  | [] => 0
  | x :: _ => x.pos.line
def locB (sc : Scope) (l : Nat) (x : Expr) : Bool := match x with
  | .Name n p => decide (sc.names.lookup n = some .local) && (p.line == l)
  | _ => false
/-- a, b = x, y: stored from the right -/
def parB (C : CC) (is : List Nat) (ts vs : List Expr) : Bool :=
  (is.length == 2 || is.length == 3) && (vs.length == is.length && (ts.all (locB C.sc (lineOf ts)) && (!(vs.all (foldedForSure 8)) && !(vs.all (constantsAlone 8)))))
def notLocB (sc : Scope) (x : Expr) : Bool := match x with
  | .Name n _ => decide (sc.names.lookup n ≠ some .local)
  | _ => true
/-- .. from the left -/
def seqB (sc : Scope) (is : List Nat) (ts : List Expr) (v : Expr) : Bool := match v with
  | .Tuple vs _ _ => !(is.length == 2 || is.length == 3) || (vs.all (foldedForSure 8) || ts.any (notLocB sc))
  | _ => true
def compB (y : Str) (p : Pos) : Expr → Bool
  | .ListComp _ _ scope q => (p.line == q.line) && !(scope.names.any fun (n, k) => n == y && (k == .local || k == .cell))
  | _ => false
def isComp : E → Bool
  | .comp .. => true
  | _ => false
mutual
def chkS (C : CC) : Cm → Stmt → Bool
  | .exp e, x => (match x with
    | .Expr y _ => noComp y && chk C e y
    | _ => false)
  | .asg t e, x => (match x with
    | .Assign [tg] y _ => tgB C true t tg && (chk C e y && (match t with
      | .name i => noComp y || (isComp e && (match tg with
        | .Name n p => compB n p y && decide (C.sc.names.lookup n = some .local) || decide (C.sc.names.lookup n = some .cell)
        | _ => false))
      | .tup is => noComp y && (decide is.Nodup && (match tg with
        | .Tuple ts _ _ => seqB C.sc is ts y || (match y, e with
          | .Tuple vs _ _, .tup es => parB C is ts vs && chks C es vs
          | _, _ => false)
        | _ => false))
      | .nest tgs => noComp y && (match tg with
        | .Tuple ts _ _ => seqB C.sc (List.range tgs.length) ts y
        | _ => false)))
    | _ => false)
  | .iset o i e, x => (match x with
    | .Assign [.Subscript a j _] y _ => noComp y && (chk C o a && (chk C i j && chk C e y))
    | _ => false)
  | .ret e, x => (match x with
    | .Return (some y) _ => chk C e y
    | _ => false)
  | .retN, x => (match x with
    | .Return none _ => true
    | _ => false)
  | .pass, x => (match x with
    | .Pass _ => true
    | .Expr (.Constant (.str _) _ _) _ => true
    | _ => false)
  | .brk, x => (match x with
    | .Break _ => true
    | _ => false)
  | .cont, x => (match x with
    | .Continue _ => true
    | _ => false)
  | .ite c a b, x => (match x with
    | .If t p q _ => chk C c t && (chkB C a p && chkB C b q)
    | _ => false)
  | .forS t it b, x => (match x with
    | .For tg i body [] _ => !C.hot && (tgB C true t tg && (chkI C it tg i && chkB C b body))
    | _ => false)
  | .whl c b, x => (match x with
    | .While t body [] _ => chk C c t && chkB C b body
    | _ => false)
  | .raise x k np fs es, y => (match y with
    | .Raise (some (.Call (.Name n _) (y :: ys) [] _)) none _ => !C.hot && (decide (n = x) && (gloB C.sc n && (C.exs.any (fun e => decide (e = (x, k, np, fs))) && chks C es (y :: ys))))
    | _ => false)
  | .tryE x k i b s, y => (match y with
    | .Try body [.ExceptHandler (some (.Name n _)) m (s0 :: su) _] [] [] _ => !C.hot && (decide (n = x) && (gloB C.sc n && (C.xcl.any (fun e => decide (e = (x, k))) && (chkB C.tryC b body && (chkB C.hotC s (s0 :: su) && (match i, m with
      | none, none => true
      | some i, some m => decide (C.N[i]? = some m) && decide (C.sc.names.lookup m = some .local)
      | _, _ => false))))))
    | _ => false)
def chkB (C : CC) : Cms → List Stmt → Bool
  | .nil, xs => (match xs with
    | [] => true
    | _ => false)
  | .cons s r, xs => (match xs with
    | y :: ys => chkS C s y && chkB C r ys
    | _ => false)
  | .fix i r, xs => (!C.ask || !(i == 0)) && chkB C r xs
end
/-! ### shapes -/
theorem sole_of {t e : Expr} {l : Nat} {env : Env} (h : noComp e = true) : swapsWithSole [t] e l env = pure false := swaps_of h
theorem filter_short {f : Expr → Option Str} : ∀ {ts : List Expr} , (∃ x ∈ ts, f x = none) → (ts.filterMap f).length < ts.length
  | [], ⟨x, h, _⟩ => by cases h
  | t :: ts, ⟨x, h, e⟩ => by
    rw [List.filterMap_cons]
    have hl := List.length_filterMap_le f ts
    rcases List.mem_cons.mp h with z | z
    · subst z
      rw [e]
      show (ts.filterMap f).length < ts.length + 1
      omega
    · have := filter_short (f := f) ⟨x, z, e⟩
      cases f t with
      | none => show (ts.filterMap f).length < ts.length + 1; omega
      | some y => show (ts.filterMap f).length + 1 < ts.length + 1; omega
theorem tgBs_len {C : CC} {b : Bool} : ∀ {ts : List Tg} {xs : List Expr}, tgBs C b ts xs = true → ts.length = xs.length
  | [], [], _ => rfl
  | [], _ :: _, h => by unfold tgBs at h; cases h
  | _ :: _, [], h => by unfold tgBs at h; cases h
  | t :: ts, x :: xs, h => by
    unfold tgBs at h
    rw [List.length_cons, List.length_cons, tgBs_len (PD.ba h).2]
theorem sw_none {is : List Nat} {ts : List Expr} {kk : Nat} {pp : Pos} {v : Expr} {env : Env} (hl : is.length = ts.length) (h : seqB env.scope is ts v = true) : swappedStores [.Tuple ts kk pp] v env = pure none := by
  cases v with
  | Tuple vs k2 p2 =>
    have h : (!(is.length == 2 || is.length == 3) || (vs.all (foldedForSure 8) || ts.any (notLocB env.scope))) = true := h
    rw [hl] at h
    unfold swappedStores
    cases hz : (ts.length == 2 || ts.length == 3) with
    | false => simp [hz]
    | true =>
      rw [hz] at h
      have h : (vs.all (foldedForSure 8) || ts.any (notLocB env.scope)) = true := h
      rcases Bool.or_eq_true_iff.mp h with h | h
      · simp only [hz, h]
        split
        · rfl
        · split
          · rfl
          · split
            · rfl
            · rfl
      · simp only [hz]
        split
        · rfl
        · split
          · rfl
          · split
            · rfl
            · rename_i hq
              exfalso
              obtain ⟨x, hx, hn⟩ := List.any_eq_true.mp h
              have hs := filter_short (f := fun x => match x with
                | .Name id pos => if env.kindOf id == some .local && pos.line == (ts.head?.map (·.pos.line)).getD 0 then some id else none
                | _ => none) (ts := ts) ⟨x, hx, by
                  cases x with
                  | Name n p =>
                    have hn : env.scope.names.lookup n ≠ some .local := of_decide_eq_true hn
                    have : (env.kindOf n == some .local) = false := by
                      apply beq_eq_false_iff_ne.mpr
                      exact hn
                    show (if (env.kindOf n == some .local && _) = true then some n else none) = none
                    rw [this]
                    rfl
                  | _ => rfl⟩
              refine hq ?_
              rw [Bool.or_eq_true_iff]
              left
              exact bne_iff_ne.mpr (Nat.ne_of_lt hs)
  | _ => rfl
theorem not_star : ∀ {x : Expr}, goodX x = true → (match x with | .Starred .. => true | _ => false) = false := by intro x h; cases x <;> first | rfl | cases h
theorem sw_par2 {x y : Str} {px py : Pos} {a b : Expr} {kt k2 : Nat} {pt p2 : Pos} {env : Env} (hk : env.scope.kind = .function) (hx : env.scope.names.lookup x = some .local) (hy : env.scope.names.lookup y = some .local) (hl : py.line = px.line) (hne : x ≠ y)
    (ga : goodX a = true) (gb : goodX b = true) (hf : ([a, b].all (foldedForSure 8)) = false) (hc : ([a, b].all (constantsAlone 8)) = false) :
    swappedStores [.Tuple [.Name x px, .Name y py] kt pt] (.Tuple [a, b] k2 p2) env = pure (some [x, y]) := by
  have kx : env.kindOf x = some .local := hx
  have ky : env.kindOf y = some .local := hy
  have hb : env.blockKind = .function := by unfold Env.blockKind; rw [hk]; rfl
  have hd : ([x, y] : List Str).eraseDups = [x, y] := by
    simp [List.eraseDups_cons, Ne.symm hne]
  unfold swappedStores
  simp [hb, kx, ky, hf, hc, hd, Expr.pos, hl]
  intro h
  rcases h with h | h
  · cases a <;> first | (cases h; done) | (cases ga; done)
  · cases b <;> first | (cases h; done) | (cases gb; done)
theorem sw_par3 {x y z : Str} {px py pz : Pos} {a b c : Expr} {kt k2 : Nat} {pt p2 : Pos} {env : Env} (hk : env.scope.kind = .function) (hx : env.scope.names.lookup x = some .local) (hy : env.scope.names.lookup y = some .local) (hz : env.scope.names.lookup z = some .local) (hl : py.line = px.line) (hl2 : pz.line = px.line)
    (hne : x ≠ y) (hne2 : x ≠ z) (hne3 : y ≠ z) (ga : goodX a = true) (gb : goodX b = true) (gc : goodX c = true) (hf : ([a, b, c].all (foldedForSure 8)) = false) (hc : ([a, b, c].all (constantsAlone 8)) = false) :
    swappedStores [.Tuple [.Name x px, .Name y py, .Name z pz] kt pt] (.Tuple [a, b, c] k2 p2) env = pure (some [x, y, z]) := by
  have kx : env.kindOf x = some .local := hx
  have ky : env.kindOf y = some .local := hy
  have kz : env.kindOf z = some .local := hz
  have hb : env.blockKind = .function := by unfold Env.blockKind; rw [hk]; rfl
  have hd : ([x, y, z] : List Str).eraseDups = [x, y, z] := by
    simp [List.eraseDups_cons, Ne.symm hne, Ne.symm hne2, Ne.symm hne3]
  unfold swappedStores
  simp [hb, kx, ky, kz, hf, hc, hd, Expr.pos, hl, hl2]
  intro h
  rcases h with h | h | h
  · cases a <;> first | (cases h; done) | (cases ga; done)
  · cases b <;> first | (cases h; done) | (cases gb; done)
  · cases c <;> first | (cases h; done) | (cases gc; done)
/-- the context of statements -/
structure Sok (G : PC) (cf : CallF) (lv : Nat) (C : CC) (X : Cx) (W : WX) : Prop extends Cok G cf lv C X W where
  own : PassesOwn (model X.prog X.w) X.A X.env X.xe
  kind : X.env.scope.kind = .function
  fn : ∀ x, X.fn x = true
  stk : X.stack = X.env :: X.outer
  frm : X.env.frame = some X.env.locals
theorem locB_name {sc : Scope} {l : Nat} {x : Expr} (h : locB sc l x = true) : ∃ n p, x = .Name n p ∧ sc.names.lookup n = some .local ∧ p.line = l := by
  unfold locB at h
  split at h
  · obtain ⟨h1, h2⟩ := PD.ba h
    exact ⟨_, _, rfl, of_decide_eq_true h1, eq_of_beq h2⟩
  · cases h
theorem nameB_idx {C : CC} {b : Bool} {i : Nat} {n : Str} {p : Pos} (h : nameB C b i (.Name n p) = true) : C.N[i]? = some n := of_decide_eq_true (PD.ba h).1
theorem nodup_ne {N : List Str} (hN : N.Nodup) {i j : Nat} {x y : Str} (hi : N[i]? = some x) (hj : N[j]? = some y) (h : i ≠ j) : x ≠ y := by
  obtain ⟨a, e⟩ := List.getElem?_eq_some_iff.mp hi
  obtain ⟨b, e'⟩ := List.getElem?_eq_some_iff.mp hj
  intro z
  subst z
  exact h ((List.getElem_inj hN).mp (e.trans e'.symm))
theorem bindS_newT {o : LOut} {ρ : Env'} {f : D → Store → SOut} : (o.bind newT).bindS ρ f = o.bindS ρ fun ds S => (newT ds S).bindS ρ f := by cases o <;> rfl
theorem newT_some {ds : List D} {S : Store} {ρ : Env'} {f : D → Store → SOut} {W : WX} {w : Wd} {σ : L2.St} {E : Ends} (h : AtS G W w ρ σ ((newT ds S).bindS ρ f) E) : AtS G W w ρ σ (f (.tup ds) S) E := by
  unfold newT at h
  split at h
  · exact h
  · exact h.no
theorem par_ok {C : CC} {X : Cx} {W : WX} (c : Sok G cf lv C X W) {is : List Nat} {ts vs : List Expr} {kt k2 : Nat} {pt p2 pos : Pos} {es : Es} (hn : is.Nodup) (ht : tgB C true (.tup is) (.Tuple ts kt pt) = true) (hp : parB C is ts vs = true) (hc : chks C es vs = true) :
    PS X (.Assign [.Tuple ts kt pt] (.Tuple vs k2 p2) pos) (tS G W (st cf (.asg (.tup is) (.tup es)))) := by
  obtain ⟨t0, ht⟩ := PD.ba (show (!C.hot && (is.length == ts.length && ((is.zip ts).all fun p => nameB C true p.1 p.2))) = true from ht)
  obtain ⟨t1, t2⟩ := PD.ba ht
  have t1 := eq_of_beq t1
  obtain ⟨h1, hp⟩ := PD.ba hp
  obtain ⟨h2, hp⟩ := PD.ba hp
  obtain ⟨h3, hp⟩ := PD.ba hp
  obtain ⟨h4, h5⟩ := PD.ba hp
  have h2 := eq_of_beq h2
  have hf : vs.all (foldedForSure 8) = false := by simpa using h4
  have hk : vs.all (constantsAlone 8) = false := by simpa using h5
  have pa := evs_ok es _ _ C X W c.toCok vs hc
  rcases Bool.or_eq_true_iff.mp h1 with h1 | h1
  · have h1 := eq_of_beq h1
    obtain ⟨i, j, rfl⟩ : ∃ i j, is = [i, j] := by
      match is, h1 with
      | [i, j], _ => exact ⟨i, j, rfl⟩
    obtain ⟨x0, y0, rfl⟩ : ∃ i j, ts = [i, j] := by
      match ts, t1 with
      | [i, j], _ => exact ⟨i, j, rfl⟩
    obtain ⟨a, b, rfl⟩ : ∃ i j, vs = [i, j] := by
      match vs, h2 with
      | [i, j], _ => exact ⟨i, j, rfl⟩
    obtain ⟨n1, n2⟩ := PD.ba (show (nameB C true i x0 && ((nameB C true j y0) && true)) = true from t2)
    have n2a := (PD.ba n2).1
    obtain ⟨l1, l2⟩ := PD.ba (show (locB C.sc x0.pos.line x0 && (locB C.sc x0.pos.line y0 && true)) = true from h3)
    have l2 := (PD.ba l2).1
    obtain ⟨x, px, rfl, lx, ex⟩ := locB_name l1
    obtain ⟨y, py, rfl, ly, ey⟩ := locB_name l2
    have ix := nameB_idx n1
    have iy := nameB_idx n2a
    obtain ⟨e1, r1, q1, g1, hr1⟩ := cons_of hc
    obtain ⟨e2, r2, q2, g2, hr2⟩ := cons_of hr1
    have hij : i ≠ j := by
      intro z; subst z; simp at hn
    rw [← c.sc] at lx ly
    rw [← c.N] at ix iy
    refine ps_imp (ps_par (c.calm (cool_of t0)) c.nd ix iy hij lx ly pa (sw_par2 c.kind lx ly ey (nodup_ne c.nd ix iy hij) (chk_good g1) (chk_good g2) hf hk)) fun E σ H ⟨w, ρ, e, h⟩ => ?_
    subst e
    unfold st ev at h
    rw [bindS_newT] at h
    refine ⟨w, ρ, rfl, h.bindL fun ds us w1 l1 r h => ?_⟩
    have h := newT_some h
    have h' : AtS G W w1 ρ σ (match (if ds.length = [i, j].length then some (([i, j].zip ds).foldl (fun ρ p => ρ.set p.1 (some p.2)) ρ) else none) with | some ρ' => SOut.nx ρ' w1.S | none => .stuck) E := h
    split at h'
    · rename_i ρ' hb
      split at hb
      · rename_i hl
        cases hb
        match ds, hl with
        | [d1, d2], _ =>
          obtain ⟨v1, u1, e1, rv1, v2, u2, e2, rv2, e3⟩ := r
          subst e3 e2
          exact ⟨v1, v2, e1, h'.nx ((h'.env.set rv1).set rv2)⟩
      · cases hb
    · exact h'.no
  · have h1 := eq_of_beq h1
    obtain ⟨i, j, k, rfl⟩ : ∃ i j k, is = [i, j, k] := by
      match is, h1 with
      | [i, j, k], _ => exact ⟨i, j, k, rfl⟩
    obtain ⟨x0, y0, z0, rfl⟩ : ∃ i j k, ts = [i, j, k] := by
      match ts, t1 with
      | [i, j, k], _ => exact ⟨i, j, k, rfl⟩
    obtain ⟨a, b, d, rfl⟩ : ∃ i j k, vs = [i, j, k] := by
      match vs, h2 with
      | [i, j, k], _ => exact ⟨i, j, k, rfl⟩
    obtain ⟨n1, n2⟩ := PD.ba (show (nameB C true i x0 && ((nameB C true j y0) && ((nameB C true k z0) && true))) = true from t2)
    obtain ⟨n2a, n3⟩ := PD.ba n2
    have n3a := (PD.ba n3).1
    obtain ⟨l1, l2⟩ := PD.ba (show (locB C.sc x0.pos.line x0 && (locB C.sc x0.pos.line y0 && (locB C.sc x0.pos.line z0 && true))) = true from h3)
    obtain ⟨l2, l3⟩ := PD.ba l2
    have l3 := (PD.ba l3).1
    obtain ⟨x, px, rfl, lx, ex⟩ := locB_name l1
    obtain ⟨y, py, rfl, ly, ey⟩ := locB_name l2
    obtain ⟨z, pz, rfl, lz, ez⟩ := locB_name l3
    have ix := nameB_idx n1
    have iy := nameB_idx n2a
    have iz := nameB_idx n3a
    obtain ⟨e1, r1, q1, g1, hr1⟩ := cons_of hc
    obtain ⟨e2, r2, q2, g2, hr2⟩ := cons_of hr1
    obtain ⟨e3, r3, q3, g3, hr3⟩ := cons_of hr2
    have hij : i ≠ j := by
      intro z; subst z; simp at hn
    have hik : i ≠ k := by
      intro z; subst z; simp at hn
    have hjk : j ≠ k := by
      intro z; subst z; simp at hn
    rw [← c.sc] at lx ly lz
    rw [← c.N] at ix iy iz
    refine ps_imp (ps_par3 (c.calm (cool_of t0)) c.nd ix iy iz hij hik hjk lx ly lz pa (sw_par3 c.kind lx ly lz ey ez (nodup_ne c.nd ix iy hij) (nodup_ne c.nd ix iz hik) (nodup_ne c.nd iy iz hjk) (chk_good g1) (chk_good g2) (chk_good g3) hf hk)) fun E σ H ⟨w, ρ, e, h⟩ => ?_
    subst e
    unfold st ev at h
    rw [bindS_newT] at h
    refine ⟨w, ρ, rfl, h.bindL fun ds us w1 l1 r h => ?_⟩
    have h := newT_some h
    have h' : AtS G W w1 ρ σ (match (if ds.length = [i, j, k].length then some (([i, j, k].zip ds).foldl (fun ρ p => ρ.set p.1 (some p.2)) ρ) else none) with | some ρ' => SOut.nx ρ' w1.S | none => .stuck) E := h
    split at h'
    · rename_i ρ' hb
      split at hb
      · rename_i hl
        cases hb
        match ds, hl with
        | [d1, d2, d3], _ =>
          obtain ⟨v1, u1, e1, rv1, v2, u2, e2, rv2, v3, u3, e3, rv3, e4⟩ := r
          subst e4 e3 e2
          exact ⟨v1, v2, v3, e1, h'.nx (((h'.env.set rv1).set rv2).set rv3)⟩
      · cases hb
    · exact h'.no
end
end PD
set_option maxHeartbeats 2000000
/-! PD15b: raise, try -/
namespace PD
open PySem PySem.Spec L2
section
variable {G : PC} {cf : CallF} {lv : Nat} {C : CC} {X : Cx} {W : WX} {σ : L2.St} {w : Wd} {ρ : Env'} {E : Ends}
theorem Sok.tr (c : Sok G cf lv C X W) {W' : WX} {pn : List (Addr × Obj)} {xe : Value → Shared → Prop} (tk : Takes (X.tr pn xe) W') (ow : PassesOwn (model X.prog X.w) X.A X.env xe) : Sok G cf lv C.tryC (X.tr pn xe) W' :=
  { sc := c.sc, N := c.N, nd := c.nd, calm := c.calm, K := c.K, pc := c.pc, room := c.room, units := c.units, gd := c.gd, free := c.free, con := c.con, cls := c.cls, sig := fun e he n hn => ⟨(c.sig e he n hn).at_⟩, takes := tk, exs := c.exs, xcl := c.xcl, flds := c.flds, gf := c.gf, askI := (fun z => c.askT z pn xe W' tk), askT := c.askT, sigL := (fun z => absurd rfl z), lam := (fun _ _ z => nomatch z),
    own := ow, kind := c.kind, fn := c.fn, stk := c.stk, frm := c.frm }
theorem Sok.suite (c : Sok G cf lv C X W) (a : Addr) (pn : List (Addr × Obj)) : Sok G cf lv C.hotC (X.suite a pn) (fun _ _ _ _ => False) :=
  { sc := c.sc, N := c.N, nd := c.nd, calm := fun z => (nomatch z), K := c.K, pc := c.pc, room := fun z => (nomatch z), units := c.units, gd := c.gd, free := c.free, con := c.con, cls := c.cls, sig := fun e he n hn => ⟨(c.sig e he n hn).at_⟩,
    takes := fun u s' h => (by
      obtain ⟨_, _, _, _, _, _, _, _, _, _, _, _, _, _, _, _, z⟩ := h
      exact z.elim), exs := c.exs, xcl := c.xcl, flds := c.flds, gf := c.gf, askI := (fun z => nomatch z), askT := (fun z => nomatch z), sigL := (fun z => absurd rfl z), lam := (fun _ _ z => nomatch z), own := .never, kind := c.kind, fn := c.fn, stk := c.stk, frm := c.frm }
/-- C(x, ..) for a raise -/
theorem pmk_mk {x : Str} {p pos : Pos} {y : Expr} {ys : List Expr} {ta : TA} {k np : Nat} {fs : List (Str × Nat)} (c : Cok G cf lv C X W) (cool : C.hot = false) (hg : gloB C.sc x = true) (he : (x, k, np, fs) ∈ C.exs) (ha : PA X (y :: ys) ta)
    (h1 : starEach (y :: ys) X.env = (false, eval y X.env) :: starEach ys X.env) (h2 : (backTo pos (starEach ys X.env)).any (·.1) = false) :
    PMk X (.Call (.Name x p) (y :: ys) [] pos) (fun σ H Q => ta σ H fun vs H1 => vs.length = np ∧ ∀ d, H1 d = none → Q (.ref (G.clsA k)) (some d) (upd H1 d (.xd (fldV vs fs)))) := by
  intro pins s σ H Q I h
  obtain ⟨gl, hd⟩ := c.glob hg
  obtain ⟨hm, hx, hmk⟩ := c.exs _ he
  have T := hmk I.ok.mod
  refine wpAny_Call_Name_kw (ld_glob I gl hm ?_ hd)
  refine PySem.W.callWith_K (h₀ := X.base) I.ok.mod.kin T.oex.kC (thn (ha.run pos pins s σ H _ I h) fun us s1 ⟨vs, H1, I1, r1, hl, q⟩ => ⟨I1.kIn, ?_⟩) h1 h2
  exact mk_ini T I1 r1 hl (by have := (c.room cool).dp; omega) q
theorem repF_fld {ds : List D} {vs : List V} (r : RepL G w ds vs) : ∀ {fs : List (Str × Nat)} {A : List (Str × D)} {B : List (Str × V)}, RepF G w A B →
    RepF G w (fs.foldl (fun acc p => match ds[p.2]? with | some v => (p.1, v) :: acc | none => acc) A) (fs.foldl (fun acc p => match vs[p.2]? with | some v => (p.1, v) :: acc | none => acc) B)
  | [], _, _, h => h
  | p :: fs, A, B, h => by
    rw [List.foldl_cons, List.foldl_cons]
    refine repF_fld r ?_
    cases q : ds[p.2]? with
    | none =>
      have : vs[p.2]? = none := by
        rw [List.getElem?_eq_none_iff] at q ⊢
        rw [← r.length]; exact q
      rw [this]
      exact h
    | some d =>
      obtain ⟨v, hv, rv⟩ := r.get q
      rw [hv]
      exact ⟨v, _, rfl, rv, h⟩
theorem raise_ok {o : LOut} {k np : Nat} {fs : List (Str × Nat)} (hx : G.okX k) (h : AtS G W w ρ σ (o.bindS ρ fun xs S => if xs.length = np then .exc ⟨k, fldD xs fs⟩ ρ S else .stuck) E) :
    AtL G W w ρ σ o fun vs H1 => vs.length = np ∧ ∀ d, H1 d = none → W (.ref (G.clsA k)) (some d) σ (upd H1 d (.xd (fldV vs fs))) := by
  refine h.bindL fun ds vs w1 l1 r h => ?_
  split at h
  · rename_i hl
    refine ⟨by rw [← r.length]; exact hl, fun d hd => ?_⟩
    refine h.post (w1.put d (.xd (fldV vs fs))) σ rfl (h.ok.put hd) (Le.put h.ok hd) (h.env.le (Le0.put hd)) _ _ ⟨rfl, hx, fldV vs fs, ?_, h.ok.notMuPut hd, upd_same⟩
    exact repF_fld (r.le (Le0.put hd)) rfl
  · exact h.no
theorem REnv.unset (h : REnv G w ρ σ) (i : Nat) : REnv G w (ρ.set i none) (σ.set i none) := by
  refine ⟨by simp [h.1], fun j d q => ?_, h.inv⟩
  by_cases hj : i = j
  · subst hj
    by_cases hl : i < ρ.length
    · rw [List.getElem?_set_self hl] at q; cases q
    · rw [List.getElem?_eq_none (by simpa using hl)] at q; cases q
  · rw [List.getElem?_set_ne hj] at q
    rcases h.at_ j d q with ⟨v', e1, r⟩ | ⟨z, f, e1, e2⟩
    · exact .inl ⟨v', by rw [List.getElem?_set_ne hj]; exact e1, r⟩
    · subst z
      exact .inr ⟨rfl, f, e1, by rw [List.getElem?_set_ne hj]; exact e2⟩
/-- the suite's end, its name gone -/
theorem fin_post {o : SOut} {i : Nat} (h : PostS G W w (o.fin (some i)) E) : PostS G (fun _ _ _ _ => False) w o (offE i E) := by
  cases o with
  | nx ρ S => exact fun w' τ e ok l env => h w' _ e ok l (env.unset i)
  | bk ρ S => exact fun w' τ e ok l env => h w' _ e ok l (env.unset i)
  | ct ρ S => exact fun w' τ e ok l env => h w' _ e ok l (env.unset i)
  | rt d ρ S => exact h
  | exc x ρ S => exact h.elim
  | stuck => exact h
theorem fin_postN {o : SOut} (h : PostS G W w (o.fin none) E) : PostS G (fun _ _ _ _ => False) w o E := by
  cases o with
  | exc x ρ S => exact h.elim
  | _ => exact h
theorem try_ok {m g : Env' → Store → SOut} {k i : Nat} (g0 : PcOk G) (hk : G.okX k) (h : AtS G W w ρ σ (tryGo k (some i) (m ρ w.S) g) E) : tS G (wT G.K (.ref (G.clsA k)) i (tS G (fun _ _ _ _ => False) g) W E) m E σ w.H := by
  refine ⟨w, ρ, rfl, h.ok, h.env, ?_⟩
  have p := h.post
  cases o : m ρ w.S with
  | exc x ρ1 S1 =>
    rw [o] at p
    have p : PostS G W w (if subC x.c k then (g (set1 (some i) (.exc x.c x.fs) ρ1) S1).fin (some i) else .exc x ρ1 S1) E := p
    rintro w1 τ e1 ok1 l1 env1 cls od ⟨rfl, hx, us, r, d⟩
    refine ⟨_, g0.excX _ hx k hk, fun hb a na => ?_, fun hb => ?_⟩
    · rw [if_pos hb] at p
      have l2 := Le.put (o := ExV (.ref (G.clsA x.c)) od a) ok1 na
      refine ⟨w1.put a (ExV (.ref (G.clsA x.c)) od a), set1 (some i) (.exc x.c x.fs) ρ1, rfl, ok1.put na, ?_, ?_⟩
      · exact (env1.le l2.toLe0).set ⟨a, od, us, rfl, ⟨hx, ok1.notMuPut na, upd_same, d.le l2.toLe0⟩, r.le l2.toLe0⟩
      · have := fin_post ((p.le l1).le l2)
        rw [← e1] at this
        exact this
    · rw [if_neg (by rw [hb]; exact Bool.false_ne_true)] at p
      exact p w1 τ e1 ok1 l1 env1 _ _ ⟨rfl, hx, us, r, d⟩
  | _ => rw [o] at p; exact p
theorem tryN_ok {m g : Env' → Store → SOut} {k : Nat} (g0 : PcOk G) (hk : G.okX k) (h : AtS G W w ρ σ (tryGo k none (m ρ w.S) g) E) : tS G (wOnly G.K (.ref (G.clsA k)) (fun _ _ _ => tS G (fun _ _ _ _ => False) g) W E) m E σ w.H := by
  refine ⟨w, ρ, rfl, h.ok, h.env, ?_⟩
  have p := h.post
  cases o : m ρ w.S with
  | exc x ρ1 S1 =>
    rw [o] at p
    have p : PostS G W w (if subC x.c k then (g ρ1 S1).fin none else .exc x ρ1 S1) E := p
    rintro w1 τ e1 ok1 l1 env1 cls od ⟨rfl, hx, us, r, d⟩
    refine ⟨_, g0.excX _ hx k hk, fun hb a na => ?_, fun hb => ?_⟩
    · rw [if_pos hb] at p
      have := fin_postN (p.le l1)
      rw [← e1] at this
      exact ⟨w1, ρ1, rfl, ok1, env1, this⟩
    · rw [if_neg (by rw [hb]; exact Bool.false_ne_true)] at p
      exact p w1 τ e1 ok1 l1 env1 _ _ ⟨rfl, hx, us, r, d⟩
  | _ => rw [o] at p; exact p
end
end PD
set_option maxHeartbeats 2000000
/-! PD16: statements -/
namespace PD
open PySem PySem.Spec L2
section
variable {G : PC} {cf : CallF} {lv : Nat}
theorem asg_val {W : WX} {w : Wd} {ρ : Env'} {σ : L2.St} {m : Env' → Store → EOut} {t : Tg} {E : Ends}
    (h : AtS G W w ρ σ ((m ρ w.S).bindS ρ fun x S => match bindT t x ρ with | some ρ' => .nx ρ' S | none => .stuck) E) : tAsg (tD G W m) (gD G t) E σ w.H := by
  refine ⟨w, ρ, rfl, h.bindX fun d v w1 l1 r h => ?_⟩
  split at h
  · rename_i ρ' hb
    exact ⟨w1, ρ, d, ρ', rfl, h.ok, h.env, r, hb, fun σ' env _ => h.nx env⟩
  · exact h.no
theorem asg_name {W : WX} {w : Wd} {ρ : Env'} {σ : L2.St} {m : Env' → Store → EOut} {i : Nat} {E : Ends}
    (h : AtS G W w ρ σ ((m ρ w.S).bindS ρ fun x S => match bindT (.name i) x ρ with | some ρ' => .nx ρ' S | none => .stuck) E) : tAsg (tD G W m) (gName i) E σ w.H := by
  refine ⟨w, ρ, rfl, h.bindX fun d v w1 l1 r h => ?_⟩
  have h : AtS G W w1 ρ σ (.nx (ρ.set i (some d)) w1.S) E := h
  exact h.nx (h.env.set r)
theorem comp_of {C : CC} {m : Bool} {own : List (Str × Nat)} {tg : Tg} {it : It} {conds : Es} {elt : E} {y : Expr} (h : chk C (.comp m own tg it conds elt) y = true) :
    ∃ e t i ifs scope pos, y = .ListComp e [⟨t, i, ifs, 0⟩] scope pos ∧ C.hot = false ∧ blkC C.N C.sc scope own = true ∧ chkI C it t i = true ∧ tgB (C.blk (relS scope C.sc)) false tg t = true ∧ tgOwn own tg = true ∧
      chkC (C.blk (relS scope C.sc)) conds ifs = true ∧ chk (C.blk (relS scope C.sc)) elt e = true := by
  unfold chk at h
  split at h
  · obtain ⟨g0, h⟩ := PD.ba h
    obtain ⟨g1, h⟩ := PD.ba h
    obtain ⟨g2, h⟩ := PD.ba h
    obtain ⟨g3, h⟩ := PD.ba h
    obtain ⟨g4, h⟩ := PD.ba h
    obtain ⟨g5, g6⟩ := PD.ba h
    exact ⟨_, _, _, _, _, _, rfl, cool_of g0, g1, g2, g3, g4, g5, g6⟩
  · cases h
theorem sub_of {o i : Expr} {pos : Pos} {env : Env} (h : goodX i = true) : ∀ v, assign (.Subscript o i pos) env v = (do
      let ov ← holding [v] (eval o env)
      let iv ← holding [v, ov] (eval i env)
      standAt pos
      holding [v, ov, iv] (setItem ov iv v)
      release [v, ov, iv] []) := by intro v; cases i <;> first | rfl | cases h
mutual
theorem st_ok : ∀ (s : Cm) (C : CC) (X : Cx) (W : WX), Sok G cf lv C X W → ∀ (x : Stmt), chkS C s x = true → PS X x (tS G W (st cf s))
  | .exp e, C, X, W, c, x, h => by
    unfold chkS at h
    split at h
    · obtain ⟨h1, h2⟩ := PD.ba h
      refine ps_imp (ps_expr (ev_ok e _ _ C X W c.toCok _ h2).1 (swaps_of h1)) fun E σ H ⟨w, ρ, e, h⟩ => ?_
      subst e
      unfold st at h
      exact ⟨w, ρ, rfl, h.bindX fun d v w1 l1 r h => h.nx h.env⟩
    · cases h
  | .asg t e, C, X, W, c, x, h => by
    unfold chkS at h
    split at h
    · rename_i tg y pos
      obtain ⟨h1, h⟩ := PD.ba h
      obtain ⟨h2, h3⟩ := PD.ba h
      have pe := (ev_ok e _ _ C X W c.toCok _ h2).1
      have hf : true = true → ∀ x, X.fn x = true := fun _ => c.fn
      cases t with
      | name i =>
        have h1' : nameB C true i tg = true := h1
        obtain ⟨pg, n, p, rfl⟩ := name_pg c.toCok hf h1'
        have hi : X.N[i]? = some n := by rw [c.N]; exact nameB_idx h1'
        obtain ⟨hl, hl'⟩ := locN_ok c.toCok hf (PD.ba h1').2
        have plain : swapsWith y (some (.Name n p)) pos.line X.env = pure false → PS X (.Assign [.Name n p] y pos) (tS G W (st cf (.asg (.name i) e))) := fun hs => by
          refine ps_imp (ps_set c.nd hi hl pe hs hl') fun E σ H ⟨w, ρ, e, h⟩ => ?_
          subst e
          unfold st at h
          exact asg_name h
        rcases Bool.or_eq_true_iff.mp h3 with h3 | h3
        · exact plain (swaps_of h3)
        · obtain ⟨h3, h4⟩ := PD.ba h3
          cases e with
          | comp m own tg it conds elt =>
            obtain ⟨e, t, i2, ifs, scope, pos2, rfl, g0, g1, g2, g3, g4, g5, g6⟩ := comp_of h2
            have h4 : (compB n p (.ListComp e [⟨t, i2, ifs, 0⟩] scope pos2) && decide (C.sc.names.lookup n = some .local) || decide (C.sc.names.lookup n = some .cell)) = true := h4
            rcases Bool.or_eq_true_iff.mp h4 with h4 | h4
            · obtain ⟨h4, h5⟩ := PD.ba h4
              have hl : X.env.scope.names.lookup n = some .local := by rw [c.sc]; exact of_decide_eq_true h5
              obtain ⟨k1, k2⟩ := PD.ba (show (p.line == pos2.line && !(scope.names.any fun (m, k) => m == n && (k == .local || k == .cell))) = true from h4)
              have k2 : (scope.names.any fun (m, k) => m == n && (k == .local || k == .cell)) = false := by simpa using k2
              refine ps_imp (ps_setLc (c.calm g0) c.nd hi hl (sw_true c.kind hl k1 k2) (evI_ok it _ _ C X W c.toCok _ _ g2) (by rw [c.N, c.sc]; exact blkOk_by g1) (fun s H A cl fp => tg_ok (c.toCok.blk s H scope cl A fp) (fun z => by cases z) g3) (fun s H A cl fp => evC_ok conds _ _ _ _ _ (c.toCok.blk s H scope cl A fp) _ g5)
                (fun s H A cl fp => (ev_ok elt _ _ _ _ _ (c.toCok.blk s H scope cl A fp) _ g6).1) (fun _ => set_of (iter_good g2))) fun E σ H ⟨w, ρ, e, h⟩ => ?_
              subst e
              unfold st ev at h
              obtain ⟨w0, ρ0, e0, h0⟩ := asg_name (m := fun ρ S => (evI cf it ρ S).bind fun xs S => (compGo (turnD tg (own.map (·.2)) (evC cf conds) (ev cf elt) ρ) xs S).bind (newL m)) h
              rw [← e0]
              exact comp_ok (tgOwn_mem g4) h0
            · have hk : X.env.kindOf n = some .cell := by
                show X.env.scope.names.lookup n = _
                rw [c.sc]; exact of_decide_eq_true h4
              have e1 : (X.env.kindOf n == some .local) = false := by rw [hk]; rfl
              refine plain ?_
              unfold swapsWith
              simp only [e1, Bool.and_false, Bool.false_and]
          | _ => cases h3
      | tup is =>
        obtain ⟨h3a, h4⟩ := PD.ba h3
        obtain ⟨h4a, h5⟩ := PD.ba h4
        have hn := of_decide_eq_true h4a
        cases tg with
        | Tuple ts kk pp =>
          rcases Bool.or_eq_true_iff.mp h5 with h5a | h5a
          · have hl : is.length = ts.length := eq_of_beq (PD.ba (PD.ba (show (!C.hot && (is.length == ts.length && _)) = true from h1)).2).1
            refine ps_imp (ps_asg pe (tg_ok c.toCok hf h1) (sole_of h3a) (sw_none hl (by rw [c.sc]; exact h5a)) rfl) fun E σ H ⟨w, ρ, e, h⟩ => ?_
            subst e
            unfold st at h
            exact asg_val h
          · split at h5a
            · obtain ⟨h6, h7⟩ := PD.ba h5a
              exact par_ok c hn h1 h6 h7
            · cases h5a
        | _ => cases h5
      | nest tgs =>
        obtain ⟨h3a, h5⟩ := PD.ba h3
        cases tg with
        | Tuple ts kk pp =>
          have hl : tgs.length = ts.length := tgBs_len (C := C) (b := true) (by unfold tgB at h1; exact (PD.ba h1).2)
          refine ps_imp (ps_asg pe (tg_ok c.toCok hf h1) (sole_of h3a) (sw_none (is := List.range tgs.length) (by rw [List.length_range]; exact hl) (by rw [c.sc]; exact h5)) rfl) fun E σ H ⟨w, ρ, e, h⟩ => ?_
          subst e
          unfold st at h
          exact asg_val h
        | _ => cases h5
    · cases h
  | .iset o i e, C, X, W, c, x, h => by
    unfold chkS at h
    split at h
    · obtain ⟨h1, h⟩ := PD.ba h
      obtain ⟨h2, h⟩ := PD.ba h
      obtain ⟨h3, h4⟩ := PD.ba h
      have pe := (ev_ok e _ _ C X W c.toCok _ h4).1
      have po := (ev_ok o _ _ C X W c.toCok _ h2).1
      have pi := (ev_ok i _ _ C X W c.toCok _ h3).1
      refine ps_imp (ps_asg pe (pg_sub po pi set_list (sub_of (chk_good h3))) (sole_of h1) rfl rfl) fun E σ H ⟨w, ρ, e, h⟩ => ?_
      subst e
      unfold st at h
      refine ⟨w, ρ, rfl, h.bindX fun d v w1 l1 r1 h => ⟨w1, ρ, rfl, h.bindX fun d2 v2 w2 l2 r2 h => ⟨w2, ρ, rfl, h.bindX fun d3 v3 w3 l3 r3 h => ?_⟩⟩⟩
      split at h
      · rename_i S' hS
        exact setL_ok h.ok hS (r2.le l3.toLe0) r3 (r1.le (l2.trans l3).toLe0) fun w4 e4 ok4 l4 => h.post w4 σ e4 ok4 l4 (h.env.le l4.toLe0)
      · exact h.no
    · cases h
  | .ret e, C, X, W, c, x, h => by
    unfold chkS at h
    split at h
    · refine ps_imp (ps_ret (ev_ok e _ _ C X W c.toCok _ h).1) fun E σ H ⟨w, ρ, e, h⟩ => ?_
      subst e
      unfold st at h
      exact ⟨w, ρ, rfl, h.bindX fun d v w1 l1 r h => h.post w1 rfl h.ok (Le.refl w1) v r⟩
    · cases h
  | .retN, C, X, W, c, x, h => by
    unfold chkS at h
    split at h
    · refine ps_imp ps_retN fun E σ H ⟨w, ρ, e, h⟩ => ?_
      subst e
      unfold st at h
      exact h.post w rfl h.ok (Le.refl w) .non rfl
    · cases h
  | .pass, C, X, W, c, x, h => by
    unfold chkS at h
    split at h
    · refine ps_imp ps_pass fun E σ H ⟨w, ρ, e, h⟩ => ?_
      subst e
      unfold st at h
      exact h.nx h.env
    · refine ps_imp ps_doc fun E σ H ⟨w, ρ, e, h⟩ => ?_
      subst e
      unfold st at h
      exact h.nx h.env
    · cases h
  | .brk, C, X, W, c, x, h => by
    unfold chkS at h
    split at h
    · refine ps_imp ps_break fun E σ H ⟨w, ρ, e, h⟩ => ?_
      subst e
      unfold st at h
      exact h.post w σ rfl h.ok (Le.refl w) h.env
    · cases h
  | .cont, C, X, W, c, x, h => by
    unfold chkS at h
    split at h
    · refine ps_imp ps_continue fun E σ H ⟨w, ρ, e, h⟩ => ?_
      subst e
      unfold st at h
      exact h.post w σ rfl h.ok (Le.refl w) h.env
    · cases h
  | .ite t a b, C, X, W, c, x, h => by
    unfold chkS at h
    split at h
    · obtain ⟨h1, h⟩ := PD.ba h
      obtain ⟨h2, h3⟩ := PD.ba h
      refine ps_imp (ps_if (ev_ok t _ _ C X W c.toCok _ h1).2 (sts_ok a C X W c _ h2) (sts_ok b C X W c _ h3)) fun E σ H ⟨w, ρ, e, h⟩ => ?_
      subst e
      unfold st at h
      refine ⟨w, ρ, rfl, AtS.bindT (f := fun k S => if k = true then sts cf a ρ S else sts cf b ρ S) h fun k w1 l1 h => ?_⟩
      cases k with
      | true => exact ⟨w1, ρ, rfl, h⟩
      | false => exact ⟨w1, ρ, rfl, h⟩
    · cases h
  | .forS t it b, C, X, W, c, x, h => by
    unfold chkS at h
    split at h
    · obtain ⟨h0, h⟩ := PD.ba h
      obtain ⟨h1, h⟩ := PD.ba h
      obtain ⟨h2, h3⟩ := PD.ba h
      refine ps_imp (ps_for c.own (c.calm (cool_of h0)) (evI_ok it _ _ C X W c.toCok _ _ h2) (tg_ok c.toCok (fun _ => c.fn) h1) (sts_ok b C X W c _ h3) (fun _ => set_of (iter_good h2))) fun E σ H ⟨w, ρ, e, h⟩ => ?_
      subst e
      unfold st at h
      exact for_ok h
    · cases h
  | .whl t b, C, X, W, c, x, h => by
    unfold chkS at h
    split at h
    · obtain ⟨h1, h2⟩ := PD.ba h
      refine ps_imp (ps_while c.own (ev_ok t _ _ C X W c.toCok _ h1).2 (sts_ok b C X W c _ h2)) fun E σ H ⟨w, ρ, e, h⟩ => ?_
      subst e
      unfold st at h
      exact while_ok h
    · cases h
  | .raise z k np fs es, C, X, W, c, x, h => by
    unfold chkS at h
    split at h
    · obtain ⟨h0, h⟩ := PD.ba h
      obtain ⟨h1, h⟩ := PD.ba h
      obtain ⟨h2, h⟩ := PD.ba h
      obtain ⟨h3, h4⟩ := PD.ba h
      have h1 := of_decide_eq_true h1
      subst h1
      obtain ⟨e, he, hq⟩ := List.any_eq_true.mp h3
      have hq := of_decide_eq_true hq
      subst hq
      obtain ⟨e0, r0, q, hg, hr⟩ := cons_of h4
      refine ps_imp (ps_raise (c.calm (cool_of h0)) c.takes (pmk_mk c.toCok (cool_of h0) h2 he (evs_ok es _ _ C X W c.toCok _ h4) (star_of (chk_good hg)) (stars_of hr))) fun E σ H ⟨w, ρ, e, h⟩ => ?_
      subst e
      unfold st at h
      exact ⟨w, ρ, rfl, raise_ok (c.exs _ he).2.1 h⟩
    · cases h
  | .tryE z k i b s, C, X, W, c, x, h => by
    unfold chkS at h
    split at h
    · obtain ⟨h0, h⟩ := PD.ba h
      obtain ⟨h1, h⟩ := PD.ba h
      obtain ⟨h2, h⟩ := PD.ba h
      obtain ⟨h3, h⟩ := PD.ba h
      obtain ⟨h4, h⟩ := PD.ba h
      obtain ⟨h5, h6⟩ := PD.ba h
      have h1 := of_decide_eq_true h1
      subst h1
      obtain ⟨e, he, hq⟩ := List.any_eq_true.mp h3
      have hq := of_decide_eq_true hq
      subst hq
      obtain ⟨hm, hk⟩ := c.xcl _ _ he
      obtain ⟨gl, hd⟩ := c.toCok.glob h2
      split at h6
      · refine ps_imp (ps_try_only (tb := fun W' => tS G W' (sts cf b)) (ts := fun _ _ _ => tS G (fun _ _ _ _ => False) (sts cf s)) c.stk c.frm ⟨gl, hd, .inl hm⟩ c.takes (fun W' pn' xe' tk ow => sts_ok b _ _ W' (c.tr tk ow) _ h4) fun a oe cls d pn' _ _ => sts_ok s _ _ _ (c.suite a _) _ h5) fun E σ H ⟨w, ρ, e, h⟩ => ?_
        subst e
        unfold st at h
        rw [c.K]
        exact tryN_ok c.pc hk h
      · obtain ⟨h7, h8⟩ := PD.ba h6
        refine ps_imp (ps_tryT (tb := fun W' => tS G W' (sts cf b)) (ts := tS G (fun _ _ _ _ => False) (sts cf s)) c.stk c.frm c.nd (by rw [c.N]; exact of_decide_eq_true h7) (by show X.env.scope.names.lookup _ = _; rw [c.sc]; exact of_decide_eq_true h8) ⟨gl, hd, .inl hm⟩ c.takes
          (fun W' pn' xe' tk ow => sts_ok b _ _ W' (c.tr tk ow) _ h4) fun a pn' => sts_ok s _ _ _ (c.suite a _) _ h5) fun E σ H ⟨w, ρ, e, h⟩ => ?_
        subst e
        unfold st at h
        rw [c.K]
        exact try_ok c.pc hk h
      · cases h6
    · cases h
theorem sts_ok : ∀ (s : Cms) (C : CC) (X : Cx) (W : WX), Sok G cf lv C X W → ∀ (x : List Stmt), chkB C s x = true → PSs X x (tS G W (sts cf s))
  | .nil, C, X, W, c, x, h => by
    unfold chkB at h
    split at h
    · refine pss_imp pss_nil fun E σ H ⟨w, ρ, e, h⟩ => ?_
      subst e
      unfold sts at h
      exact h.nx h.env
    · cases h
  | .cons s r, C, X, W, c, x, h => by
    unfold chkB at h
    split at h
    · obtain ⟨h1, h2⟩ := PD.ba h
      refine pss_imp (pss_cons (st_ok s C X W c _ h1) (sts_ok r C X W c _ h2)) fun E σ H ⟨w, ρ, e, h⟩ => ?_
      subst e
      unfold sts at h
      exact ⟨w, ρ, rfl, h.seq⟩
    · cases h
  | .fix i r, C, X, W, c, x, h => by
    unfold chkB at h
    obtain ⟨h0, h1⟩ := PD.ba h
    have n0 : G.fnv = none ∨ i ≠ 0 := (Bool.or_eq_true_iff.mp h0).imp (fun z => c.gf (by simpa using z)) fun z => by simpa using z
    refine pss_imp (sts_ok r C X W c _ h1) fun E σ H ⟨w, ρ, e, h⟩ => ?_
    subst e
    unfold sts at h
    split at h
    · rename_i n hρ
      split at h
      · rename_i xs hS
        obtain ⟨v, hv, rv⟩ := h.env.get hρ n0
        obtain ⟨a, vs, e, hn, hH, rl⟩ := ref_list h.ok rv hS
        have l := Le.kill w n
        refine ⟨w.kill n, ρ.set i (some (.lst xs)), rfl, h.ok.kill n, (h.env.le l.toLe0).reset hv ⟨a, vs, e, .inl ⟨kill_fix h.ok hn, .inl hH⟩, rl.le l.toLe0⟩, h.post.le l⟩
      · exact h.no
    · exact h.no
end
end
end PD
set_option maxHeartbeats 2000000
/-! PL1: a def gets a lambda: what it got, called; the def called with it -/
namespace PD
open PySem PySem.Spec PyProof.Rows L2 LamX
section
variable {X : Cx} {pins : List (Addr × Obj)} {σ : L2.St} {H HZ : Hp} {s s1 : Shared}
/-- a(), in the def that got the lambda; what is let out may hang on the slots there -/
theorem act_ok {CXg : CXT} {Eg : XK} {Ng : List Str} {qg : Str} {sg : Scope} {g f c' : Addr} {cdg pm ctv : Value} {params : Arguments} {body : Expr} {scope : Scope} {k i : Nat} {a : Str} {pn : List (Addr × Obj)} {xe : Value → Shared → Prop} {W : WX} {tb : XK → TE} {p1 p2 : Pos}
    (I : Inv X pins σ H s) (L : LamS X.env.scope scope) (hf : s.heap.get? f = some (PySem.W.kla_obj "<lambda>" (X.env.qual ++ "<lambda>") params body scope (cloFrom X.env.cells scope.names []) pm c' ctv)) (hfn : H f = none) (hfr : f ∉ frs X.stack)
    (hbind : bindArgs (PySem.W.kla_fn "<lambda>" (X.env.qual ++ "<lambda>") params body scope (cloFrom X.env.cells scope.names []) pm (.ref c') ctv) ⟨[], []⟩ = pure [])
    (tk : Takes ((cxOf CXg X.prog X.w X.K X.mg X.base Ng qg sg g cdg X.A X.stack s H Eg).tr pn xe) W) (hr : Room (k + 1) (X.A.deeper (envOfC qg sg s.heap.objs.size g cdg)))
    (hbody : ∀ (outer : List Env) (s' : Shared) (H : Hp) (E : XK), Room k ((X.A.deeper (envOfC qg sg s.heap.objs.size g cdg)).deeper (lamEnv X scope s'.heap.objs.size f c')) → PE (lamCx X (X.A.deeper (envOfC qg sg s.heap.objs.size g cdg)) outer s' H E scope f c') body (tb E))
    (hN : Ng[i]? = some a) (hv : Vis sg a) (hd : (a == ("__debug__" : Str)) = false) (hcd : (a == ("__classdict__" : Str)) = false) :
    PE ((cxOf CXg X.prog X.w X.K X.mg X.base Ng qg sg g cdg X.A X.stack s H Eg).tr pn xe) (.Call (.Name a p1) [] [] p2)
      (fun σZ HZ Q => σZ[i]? = some (some (.ref f)) ∧ HZ c' = some (CodeO c' (X.env.qual ++ "<lambda>")) ∧ tb (fun cls d H' => W cls d σZ H') σ HZ Q) := by
  refine ⟨fun pinsZ sZ σZ HZ Q IZ h => ?_⟩
  obtain ⟨hs, hc, ht⟩ := h
  refine wpAny_Call_Name_kw (thn ((pe_var (pos := p1) (i := i) hN hv hd hcd).run pinsZ sZ σZ HZ (fun v H1 => v = .ref f ∧ H1 = HZ) IZ ⟨.ref f, hs, rfl, rfl⟩) fun u s1 ⟨v, H1, I1, r1, q1⟩ => ?_)
  obtain ⟨ev, eH⟩ := q1
  subst ev
  rw [eH] at I1
  obtain rfl : u = Value.ref f := r1
  have of1 : s1.heap.get? f = some (PySem.W.kla_obj "<lambda>" (X.env.qual ++ "<lambda>") params body scope (cloFrom X.env.cells scope.names []) pm c' ctv) := I1.base.keep f _ hf hfn hfr (fun z => nomatch (show f ∈ ([] : List Addr) from z))
  refine PySem.W.callWith_F0 ⟨_, _, _, _, of1⟩ ?_
  have un : Un (frs X.stack) [] H HZ s.heap s1.heap := I1.base
  obtain ⟨⟨oc, vs, t, hoc, hdc, hvc⟩, _, _⟩ := I1.hok c' _ hc
  have rc : codeAny (model X.prog X.w) (X.A.deeper (envOfC qg sg s.heap.objs.size g cdg)) (.call (.ref f) ⟨[], []⟩) (CR (L2.CX X.prog X.w) (envOfC qg sg s.heap.objs.size g cdg :: X.stack) X.prog X.w HZ s1 Q fun cls d H' => W cls d σZ H') s1 := by
    refine PySem.W.kla_callFunE hr.depth of1 rfl L.co L.gen rfl ⟨c', oc, vs, t, rfl, hoc, hdc, hvc⟩ ?_
    rw [hbind]
    refine wpAny_pure (wpAny_newFunctionEnv (fun y hy => (L.own y hy).2) (fun y hy => absurd hy (by simp)) (fun h₁ hns hsb => ⟨I1.nolimit.fresh _ hsb, ?_⟩) L.kind)
    show codeAny _ _ (.expr body (lamEnv X scope s1.heap.objs.size f c')) _ _
    have kp : ∀ b o, s1.heap.get? b = some o → h₁.get? b = some o := fun b o e => hsb.extBut b o (Nat.ne_of_lt (Heap.lt_size e)) (Heap.get?_push_of_some _ e)
    have J : Inv (lamCx X (X.A.deeper (envOfC qg sg s.heap.objs.size g cdg)) (envOfC qg sg s.heap.objs.size g cdg :: X.stack) s1 HZ (fun cls d H' => W cls d σZ H') scope f c') [] σ HZ { s1 with heap := h₁, toks := s1.toks + ([] : List (Str × Value)).length } :=
      lam_start2 I L I1.env0 hr.hd un hns kp
    refine PySem.W.kla_codeExpr (wpAny_mono ((hbody _ s1 HZ _ (hr.deeper _)).run [] _ _ HZ Q J ht) (fun v s' hq => ?_) fun e s' hq => hq)
    obtain ⟨w', H', J', rv, q⟩ := hq
    exact ⟨w', H', J'.os, J'.bare, J'.base, J'.hok, rv, q⟩
  have hx : PassesAt (L2.CX X.prog X.w) ((cxOf CXg X.prog X.w X.K X.mg X.base Ng qg sg g cdg X.A X.stack s H Eg).tr pn xe) σZ (fun cls d H' => W cls d σZ H') := passAt tk σZ
  refine wpAny_call (codeAny_mono rc fun r s' hq => ?_)
  cases r with
  | error e => exact hx pinsZ HZ s1 e s' I1 hq
  | ok fl =>
    cases fl with
    | ret u => exact I1.after hq
    | next => exact False.elim hq
    | brk => exact False.elim hq
    | cont => exact False.elim hq
/-- x(lambda: body): what is behind the making of the lambda -/
theorem lamcall_ok {T : List (Addr × Str)} {W : WX} {x a : Str} {g c P : Addr} {k : Nat} {q : Str} {pg : Arguments} {bg : List Stmt} {sg : Scope} {dV kV doc pm cdv ct oc : Value} {an od : Option Addr} {osl : Array (Option Value)} {Ng : List Str}
    {params : Arguments} {body : Expr} {scope : Scope} {p lpos pos : Pos} {t : TE} (hg : Gl X x) (hdb : (x == ("__debug__" : Str)) = false) (hm : X.mg x = some (.ref g)) (hk : PySem.W.keepIn X.K (.ref g) = true) (tk : Takes X W)
    (lk : X.K.lookup g = some ⟨oc, od, .func (PySem.W.fnOf x q pg bg sg dV kV doc pm an cdv ct), osl⟩) (hcg : PySem.W.codeIn X.K cdv q = true) (hb : ∀ (s : Shared) (u : Value), X.K.In s.heap → BindsTo s (PySem.W.fnOf x q pg bg sg dV kV doc pm an cdv ct) ⟨[u], []⟩ [(a, u)]) (Sg : FnScope Ng [a] sg)
    (TB : TabB X.base X.mg c P) (hcode : X.env.code = .ref c) (hmT : (P, X.env.qual ++ "<lambda>") ∈ T) (hu : ∀ p ∈ T, p.1 = P → p.2 = X.env.qual ++ "<lambda>") (hr : Room (k + 2) X.A) (L : LamS X.env.scope scope) (hdef : defaultsOf params X.env = ([], []))
    (h : ∀ pins s σ H Q, t σ H Q → Inv X pins σ H s → Tabs T H ∧ ∀ (f c' : Addr) (pm' ctv : Value) (H1 : Hp) (s' : Shared), Inv X pins σ H1 s' → ExtN H H1 → Tabs T H1 →
      s'.heap.get? f = some (PySem.W.kla_obj "<lambda>" (X.env.qual ++ "<lambda>") params body scope (cloFrom X.env.cells scope.names []) pm' c' ctv) → H1 f = none → f ∉ frs X.stack → H1 c' = some (CodeO c' (X.env.qual ++ "<lambda>")) →
      Room (k + 1) (X.A.deeper (envOfC q sg s'.heap.objs.size g cdv)) → ∃ t', PSs (cxOf (L2.CX X.prog X.w) X.prog X.w X.K X.mg X.base Ng q sg g cdv X.A X.stack s' H1 fun cls d H' => W cls d σ H') bg t' ∧ t' { nx := fun _ H' => Q .non H', rt := Q } (L2.start Ng [.ref f]) H1) :
    PE X (.Call (.Name x p) [.Lambda params body scope lpos] [] pos) t := by
  refine ⟨fun pins s σ H Q I ht => ?_⟩
  obtain ⟨hT, h⟩ := h pins s σ H Q ht I
  refine wpAny_Call_Name_kw (ld_glob I hg hm ?_ hdb)
  refine PySem.W.callWith_K (h₀ := X.base) I.ok.mod.kin hk ?_ (by rfl) (by rfl)
  show wpAny _ _ (spliced ((false, eval (.Lambda params body scope lpos) X.env) :: backTo pos (starEach [] X.env))) _ _ s
  refine Calls.spliced_cons (lam_make2 I TB hcode hmT hu hT hdef (L.has I.ok) fun f c' pm' ctv H1 s' I1 eN T1 hf hfn hfr hco => ?_)
  refine Calls.spliced_nil ⟨I1.kIn, ?_⟩
  have rc : codeAny (model X.prog X.w) X.A (.call (.ref g) ⟨[.ref f], []⟩) (CR (L2.CX X.prog X.w) X.stack X.prog X.w H1 s' Q fun cls d H' => W cls d σ H') s' :=
    run_ofS (k := k + 1) (N := Ng) (ps := [a]) (us := [.ref f]) (vs := [.ref f]) lk hcg Sg hr I1.env0 (hb s' (.ref f) I1.kIn) (.cons rfl .nil) rfl fun hr' => h f c' pm' ctv H1 s' I1 eN T1 hf hfn hfr hco hr'
  refine wpAny_call (codeAny_mono rc fun r s2 hq => ?_)
  cases r with
  | error e => exact passAt tk σ pins H1 s' e s2 I1 hq
  | ok fl =>
    cases fl with
    | ret u => exact I1.after hq
    | next => exact False.elim hq
    | brk => exact False.elim hq
    | cont => exact False.elim hq
end
end PD
set_option maxHeartbeats 2000000
/-! PL2: lambdas with one parameter that has a default -/
namespace PD
open PySem PySem.Spec PyProof.Rows L2 LamX
/-- captured names, globals, a parameter that the maker has not -/
structure LamD (N : List Str) (x : Str) (sc scope : Scope) : Prop where
  kind : scope.kind = .function
  co : scope.isCoroutine = false
  gen : scope.isGenerator = false
  cel : ∀ y ∈ scope.names, y.2 ≠ .cell
  own : ∀ y ∈ scope.names, y.2 = .local → y.1 = x
  par : scope.names.lookup x = some .local
  new : x ∉ N
  free : ∀ y ∈ scope.names, y.2 = .free → sc.names.lookup y.1 = some .cell ∨ sc.names.lookup y.1 = some .free
theorem lamD_by {N : List Str} {x : Str} {sc scope : Scope} (h : lamDB N x sc scope = true) : LamD N x sc scope := by
  unfold lamDB at h
  simp only [Bool.and_eq_true, Bool.or_eq_true, Bool.not_eq_true', decide_eq_true_eq, decide_eq_false_iff_not, List.all_eq_true] at h
  obtain ⟨h1, h2, h3, h4, h5, h6⟩ := h
  refine ⟨h1, h2, h3, fun y hy => (h6 y hy).1, fun y hy e => ?_, h4, h5, fun y hy e => ?_⟩
  · rcases (h6 y hy).2.1 with z | z
    · exact absurd e z
    · exact z
  · rcases (h6 y hy).2.2 with z | z
    · exact absurd e z
    · exact z
theorem LamD.has {X : Cx} {x : Str} {scope : Scope} (L : LamD X.N x X.env.scope scope) (ok : X.Ok) : ∀ y ∈ scope.names, y.2 = .free → ∃ c, X.env.cells.lookup y.1 = some c :=
  fun y hy e => ok.has _ (L.free y hy e)
section
variable {X : Cx} {pins : List (Addr × Obj)} {σ : L2.St} {H HZ : Hp} {s s1 : Shared}
abbrev lamO (X : Cx) (params : Arguments) (body : Expr) (scope : Scope) (dV doc pm : Value) (c' : Addr) (ctv : Value) : Obj := PySem.W.kdv_obj "<lambda>" (X.env.qual ++ "<lambda>") params (.expr body) scope (cloFrom X.env.cells scope.names []) dV doc pm c' ctv
theorem bind_default {q : Str} {x : Str} {ap cp : Pos} {kj : Nat} {n : Int} {body : Expr} {scope : Scope} {cl : List (Str × Addr)} {doc pm cdv ctv : Value} {t : Addr} {ntk : Tok} (s1 : Shared) (h : s1.heap.get? t = some (PySem.W.kdv_tup [.int n ntk])) :
    BindsTo s1 (PySem.W.kdv_fn "<lambda>" q ⟨[], [⟨x, none, ap⟩], none, [], [], none, [.Constant (.int n) kj cp]⟩ (.expr body) scope cl (.ref t) doc pm cdv ctv) ⟨[], []⟩ [(x, .int n ntk)] := by
  refine BindsTo.of_defaults rfl h rfl rfl ?_
  show (pure (([x] : List Str).filterMap fun m => (([(x, Value.int n ntk)] : List (Str × Value)).lookup m).map (m, ·)) : Sem (List (Str × Value))) = pure [(x, .int n ntk)]
  simp [List.lookup]
/-- made: its default's tuple, its function -/
theorem lamd_make {T : List (Addr × Str)} {c P : Addr} {params : Arguments} {body : Expr} {scope : Scope} {pos : Pos} {n : Int} {kj : Nat} {cp : Pos} {Q : Value → Shared → Prop} (I : Inv X pins σ H s) (TB : TabB X.base X.mg c P) (hcode : X.env.code = .ref c)
    (hmem : (P, X.env.qual ++ "<lambda>") ∈ T) (huq : ∀ p ∈ T, p.1 = P → p.2 = X.env.qual ++ "<lambda>") (hT : Tabs T H) (hd : params.defaults = [.Constant (.int n) kj cp]) (hk0 : params.kw_defaults = []) (hfree : ∀ y ∈ scope.names, y.2 = .free → ∃ c, X.env.cells.lookup y.1 = some c)
    (kont : ∀ (f c' t : Addr) (tk : Tok) (doc pm ctv : Value) (H1 : Hp) (s' : Shared), Inv X pins σ H1 s' → ExtN H H1 → Tabs T H1 → s'.heap.get? t = some (PySem.W.kdv_tup [.int n tk]) → H1 t = none → t ∉ frs X.stack →
      s'.heap.get? f = some (lamO X params body scope (.ref t) doc pm c' ctv) → H1 f = none → f ∉ frs X.stack → H1 c' = some (CodeO c' (X.env.qual ++ "<lambda>")) → Q (.ref f) s') :
    wpAny (model X.prog X.w) X.A (eval (.Lambda params body scope pos) X.env) Q X.xe s := by
  refine PySem.W.kdv_lam (by rw [hd]; rfl) hk0 ?_
  rw [hd]
  refine PySem.W.kdv_all1 ((pe_int (X := X) (i := n) (j := kj) (pos := cp)).run pins s σ H (fun v H' => v = .int n ∧ H' = H) I ⟨rfl, rfl⟩ |> fun hh => thn hh fun u s0 ⟨v, H0, I0, ru, ev, eH⟩ => PySem.W.kdv_all0 ?_)
  subst ev eH
  obtain ⟨tk, rfl⟩ := ru
  rw [makeFunction_eq]
  simp only [List.zip_nil_right, List.filterMap_nil, List.isEmpty_nil, if_true, pure_bind, List.isEmpty_cons, Bool.false_eq_true, if_false]
  refine wpAny_bind (wpAny_newTextTuple ?_)
  -- the tuple is there
  generalize hs : ({ s0 with heap := s0.heap.push { cls := .type "tuple", data := .seq [Value.int n tk].toArray } } : Shared) = sT
  have ht0 : sT.heap.get? s0.heap.objs.size = some (PySem.W.kdv_tup [.int n tk]) := by rw [← hs]; exact Heap.get?_push_size _ rfl
  have hkp : ∀ b o, s0.heap.get? b = some o → sT.heap.get? b = some o := fun b o e => by rw [← hs]; exact Heap.get?_push_of_some _ e
  have IT : Inv X pins σ H0 sT := by rw [← hs]; exact I0.kept (t' := s0.toks) fun b o e => Heap.get?_push_of_some _ e
  have hsz : s0.heap.objs.size < sT.heap.objs.size := Heap.lt_size ht0
  have hTn : H0 s0.heap.objs.size = none := I0.hok.fresh (Nat.le_refl _)
  have nofr : ∀ f, s0.heap.objs.size ≤ f → f ∉ frs X.stack := fun f hf z => by
    rcases List.mem_cons.mp (I0.stkSub _ z) with e | e
    · have := I0.lt
      rw [← e] at this
      exact absurd (Nat.lt_of_lt_of_le this hf) (Nat.lt_irrefl _)
    · exact I0.nofs hf e
  obtain ⟨ps, hP, htr, ha⟩ := hT _ hmem
  have bP : sT.heap.BuiltinsAt X.mg P := TB.bm.keeps IT.bk
  have hP' : sT.heap.get? P = some { cls := .none, data := .fields ps } := IT.hok P _ hP
  cases hca : codeAmong pos ps.toList with
  | none =>
    refine PySem.W.kdv_makeTail (mg := X.mg) (c := c) (P := P) (ps := ps) (closure_ok hfree) IT.ok.glob (IT.mod.glob.keeps IT.bk) hcode (TB.code.keeps IT.bk) hP' htr hca TB.gP bP fun c' ctv doc h' tk' hx hge hlt hrec htb => ?_
    obtain ⟨c2, oc, vs, tt, e2, hoc, hdd, hv⟩ := hrec
    cases e2
    have hsz2 : sT.heap.objs.size ≤ h'.objs.size := Nat.le_trans hge (Nat.le_of_lt hlt)
    have nC : H0 c' = none := IT.hok.fresh hge
    have J := inv_table (t' := tk') (more := #[rawInt pos.line, rawInt pos.col, .ref c']) (h' := h'.push (lamO X params body scope (.ref s0.heap.objs.size) doc ((X.mg "__name__").getD .none) c' ctv)) IT hP
      (fun b o hb e => Heap.get?_push_of_some _ (hx b o hb e)) (Heap.get?_push_of_some _ htb) hge ⟨oc, vs, tt, Heap.get?_push_of_some _ hoc, hdd, hv⟩
    have hE : ExtN H0 (upd (upd H0 P (.tbl (ps ++ #[rawInt pos.line, rawInt pos.col, .ref c']))) c' (CodeO c' (X.env.qual ++ "<lambda>"))) := fun b o e nt => by
      rw [upd_ne (ne_of_none e nC), upd_ne (fun z => nt ps (Option.some.inj (e.symm.trans (by rw [z]; exact hP))))]
      exact e
    have eL : (ps ++ #[rawInt pos.line, rawInt pos.col, .ref c']).toList = ps.toList ++ [rawInt pos.line, rawInt pos.col, .ref c'] := by simp
    have hPl : P < sT.heap.objs.size := Heap.lt_size hP'
    have upn : ∀ b, b ≠ c' → b ≠ P → H0 b = none → upd (upd H0 P (.tbl (ps ++ #[rawInt pos.line, rawInt pos.col, .ref c']))) c' (CodeO c' (X.env.qual ++ "<lambda>")) b = none := fun b n1 n2 e => by rw [upd_ne n1, upd_ne n2]; exact e
    have tP : s0.heap.objs.size ≠ P := fun z => by rw [← z, hTn] at hP; cases hP
    refine kont h'.objs.size c' s0.heap.objs.size tk doc ((X.mg "__name__").getD .none) ctv _ _ J hE (fun p hp => ?_) (Heap.get?_push_of_some _ (hx _ _ tP ht0)) (upn _ (Nat.ne_of_lt (Nat.lt_of_lt_of_le hsz hge)) tP hTn) (nofr _ (Nat.le_refl _)) (Heap.get?_push_size _ rfl) (upn _ (Nat.ne_of_gt hlt) (Nat.ne_of_gt (Nat.lt_of_lt_of_le hPl hsz2)) (IT.hok.fresh hsz2)) (nofr _ (Nat.le_trans (Nat.le_of_lt hsz) hsz2)) upd_same
    by_cases hb : p.1 = P
    · rw [huq p hp hb, hb]
      refine ⟨_, by rw [upd_ne (ne_of_none hP nC), upd_same], by rw [eL]; exact PySem.TriplesOk_snoc _ _ _ _ htr, fun p' cv hcv => ?_⟩
      rw [eL] at hcv
      rcases among_app _ htr hcv with z | z
      · obtain ⟨c0, e1, e2⟩ := ha p' cv z
        exact ⟨c0, e1, hE _ _ e2 codeO_ne⟩
      · exact ⟨c', z, upd_same⟩
    · obtain ⟨ps', a1, a2, a3⟩ := hT p hp
      refine ⟨ps', by rw [upd_ne (ne_of_none a1 nC), upd_ne hb]; exact a1, a2, fun p' cv hcv => ?_⟩
      obtain ⟨c0, e1, e2⟩ := a3 p' cv hcv
      exact ⟨c0, e1, hE _ _ e2 codeO_ne⟩
  | some cv =>
    obtain ⟨c', e, hco⟩ := ha pos cv hca
    subst e
    refine PySem.W.kdv_makeTailHit (mg := X.mg) (c := c) (P := P) (ps := ps) (closure_ok hfree) IT.ok.glob (IT.mod.glob.keeps IT.bk) hcode (TB.code.keeps IT.bk) hP' htr hca bP fun ctv doc h' tk' hx hle => ?_
    have J : Inv X pins σ H0 { sT with heap := h'.push (lamO X params body scope (.ref s0.heap.objs.size) doc ((X.mg "__name__").getD .none) c' ctv), toks := tk' } := IT.kept fun b o e => Heap.get?_push_of_some _ (hx b o e)
    exact kont h'.objs.size c' s0.heap.objs.size tk doc ((X.mg "__name__").getD .none) ctv H0 _ J (ExtN.refl H0) hT (Heap.get?_push_of_some _ (hx _ _ ht0)) hTn (nofr _ (Nat.le_refl _)) (Heap.get?_push_size _ rfl) (IT.hok.fresh hle) (nofr _ (Nat.le_trans (Nat.le_of_lt hsz) hle)) hco
/-- the body begins: its own parameter stands in its frame, no name of the maker's is it -/
theorem lamd_start {A : Around} {outer : List Env} {E : XK} {scope : Scope} {f c' : Addr} {h₁ : Heap} {tk : Nat} {x : Str} {bs : List (Str × Value)} (I : Inv X pins σ H s) (L : LamD X.N x X.env.scope scope) (e0 : Env0 X.prog X.w X.K X.mg X.base A outer s1 HZ) (hd : A.handled = none)
    (un : Un (frs X.stack) [] H HZ s.heap s1.heap) (hns : h₁.Ns s1.heap.objs.size fun y => bs.reverse.lookup y) (kp : ∀ b o, s1.heap.get? b = some o → h₁.get? b = some o) :
    Inv (lamCx X A outer s1 HZ E scope f c') [] σ HZ { s1 with heap := h₁, toks := tk } := by
  have hfree := L.has I.ok
  have cm : ∀ {y c}, (cloFrom X.env.cells scope.names []).lookup y = some c → X.env.cells.lookup y = some c := fun {y c} e => by
    rcases cloFrom_mem (PySem.mem_of_lookup e) with hm | ⟨h1, h2⟩
    · cases hm
    · obtain ⟨c1, hc⟩ := hfree _ h1 rfl
      have hc : X.env.cells.lookup y = some c1 := hc
      have e2 : c = c1 := by
        rw [h2, hc] <;> rfl
      rw [e2]; exact hc
  have look : ∀ {y}, scope.names.lookup y = some .free → ∃ c, (cloFrom X.env.cells scope.names []).lookup y = some c := fun {y} hl => by
    have hy : (y, NameKind.free) ∈ scope.names := PySem.mem_of_lookup hl
    exact mem_lookup (cloFrom_has (cells := X.env.cells) (acc := []) hy)
  have cellK : ∀ {c : Addr} {v : Option Value}, H c = none → s.heap.IsCell c v → h₁.IsCell c v := fun {c v} nn ⟨o, ho, hdd⟩ => by
    obtain ⟨sl, q⟩ := un.any ho nn (by simp)
    exact ⟨_, kp _ _ q, hdd⟩
  have noA : ∀ b : Addr, b ∉ (lamCx X A outer s1 HZ E scope f c').ex := fun b z => absurd (show b ∈ ([] : List Addr) from z) (by simp)
  refine ⟨⟨e0.mod, L.kind, rfl, rfl, Nat.le_refl _, fun y z c e1 e2 => I.ok.inj y z c (cm e1) (cm e2), fun y hy => ?_, fun y c z _ => ?_, fun _ => hd, Around.frames_deeper e0.frames, .inr ⟨rfl, rfl⟩, fun b z => absurd z (noA b), e0.bs, e0.bsz, fun b _ _ => noA b,
      fun b z => absurd z (noA b), e0.funs, e0.frf⟩,
    rfl, e0.bare, Un.kept kp, ⟨_, hns, fun i y v e1 e2 e3 => ?_⟩, fun y c e => ?_, e0.hok.fresh (Nat.le_refl _), fun y c e => ?_, fun q hq => absurd (show q ∈ ([] : List (Addr × Obj)) ++ [] from hq) (by simp), e0.hok.kept kp, I.len⟩
  · have hy : scope.names.lookup y = some .cell ∨ scope.names.lookup y = some .free := hy
    rcases hy with hy | hy
    · exact absurd rfl (L.cel _ (PySem.mem_of_lookup hy))
    · exact look hy
  · cases (show false = true from z)
  · have e3 : Vis scope y := e3
    rcases e3 with k | k | k
    · have ey : y = x := L.own _ (PySem.mem_of_lookup k) rfl
      rw [ey] at e1
      exact absurd (List.mem_of_getElem? e1) L.new
    · exact absurd rfl (L.cel _ (PySem.mem_of_lookup k))
    · obtain ⟨m, hn, hl⟩ := I.loc
      have hvis : Vis X.env.scope y := (L.free _ (PySem.mem_of_lookup k) rfl).elim (fun k => .inr (.inl k)) (fun k => .inr (.inr k))
      obtain ⟨w', r, q⟩ := hl i y v e1 e2 hvis
      obtain ⟨c2, h2⟩ := look k
      refine ⟨w', r, .inr ⟨.inr k, c2, h2, ?_⟩⟩
      have c1 := cm h2
      rcases q with ⟨k', _⟩ | ⟨_, c3, e', z⟩
      · have k' : X.env.scope.names.lookup y = some .local := k'
        rcases L.free _ (PySem.mem_of_lookup k) rfl with k2 | k2 <;> rw [show X.env.scope.names.lookup y = _ from k2] at k' <;> cases k'
      · rw [c1] at e'
        cases e'
        exact cellK (I.freeC y _ c1) z
  · obtain ⟨w', z⟩ := I.cell y c (cm e)
    exact ⟨w', cellK (I.freeC y c (cm e)) z⟩
  · obtain ⟨v, o, ho, hdd⟩ := I.cell y c (cm e)
    exact un.free c o ho (I.freeC y c (cm e)) (by simp)
/-- called in the def that got it -/
theorem actd_ok {CXg : CXT} {Eg : XK} {Ng : List Str} {qg : Str} {sg : Scope} {g f c' t : Addr} {n : Int} {ntk : Tok} {x : Str} {cdg doc pm ctv : Value} {params : Arguments} {body : Expr} {scope : Scope} {k i : Nat} {a : Str} {pn : List (Addr × Obj)} {xe : Value → Shared → Prop} {W : WX} {tb : XK → TE} {p1 p2 : Pos}
    (I : Inv X pins σ H s) (L : LamD X.N x X.env.scope scope) (htu : s.heap.get? t = some (PySem.W.kdv_tup [.int n ntk])) (htn : H t = none) (htf : t ∉ frs X.stack) (hf : s.heap.get? f = some (lamO X params body scope (.ref t) doc pm c' ctv)) (hfn : H f = none) (hfr : f ∉ frs X.stack)
    (hbind : ∀ s1 : Shared, s1.heap.get? t = some (PySem.W.kdv_tup [.int n ntk]) → BindsTo s1 (PySem.W.kdv_fn "<lambda>" (X.env.qual ++ "<lambda>") params (.expr body) scope (cloFrom X.env.cells scope.names []) (.ref t) doc pm (.ref c') ctv) ⟨[], []⟩ [(x, .int n ntk)])
    (tk : Takes ((cxOf CXg X.prog X.w X.K X.mg X.base Ng qg sg g cdg X.A X.stack s H Eg).tr pn xe) W) (hr : Room (k + 1) (X.A.deeper (envOfC qg sg s.heap.objs.size g cdg)))
    (hbody : ∀ (outer : List Env) (s' : Shared) (H : Hp) (E : XK), Room k ((X.A.deeper (envOfC qg sg s.heap.objs.size g cdg)).deeper (lamEnv X scope s'.heap.objs.size f c')) → PE (lamCx X (X.A.deeper (envOfC qg sg s.heap.objs.size g cdg)) outer s' H E scope f c') body (tb E))
    (hN : Ng[i]? = some a) (hv : Vis sg a) (hdb : (a == ("__debug__" : Str)) = false) (hcd : (a == ("__classdict__" : Str)) = false) :
    PE ((cxOf CXg X.prog X.w X.K X.mg X.base Ng qg sg g cdg X.A X.stack s H Eg).tr pn xe) (.Call (.Name a p1) [] [] p2)
      (fun σZ HZ Q => σZ[i]? = some (some (.ref f)) ∧ HZ c' = some (CodeO c' (X.env.qual ++ "<lambda>")) ∧ tb (fun cls d H' => W cls d σZ H') σ HZ Q) := by
  refine ⟨fun pinsZ sZ σZ HZ Q IZ ⟨hs, hc, ht⟩ => ?_⟩
  refine wpAny_Call_Name_kw (thn ((pe_var (pos := p1) (i := i) hN hv hdb hcd).run pinsZ sZ σZ HZ (fun v H1 => v = .ref f ∧ H1 = HZ) IZ ⟨.ref f, hs, rfl, rfl⟩) fun u s1 ⟨v, H1, I1, r1, ev, eH⟩ => ?_)
  subst ev
  rw [eH] at I1
  obtain rfl : u = Value.ref f := r1
  have nin : ∀ b : Addr, b ∉ ([] : List Addr) := fun b z => nomatch z
  have of1 : s1.heap.get? f = some (lamO X params body scope (.ref t) doc pm c' ctv) := I1.base.keep f _ hf hfn hfr (nin f)
  have ot1 : s1.heap.get? t = some (PySem.W.kdv_tup [.int n ntk]) := I1.base.keep t _ htu htn htf (nin t)
  refine PySem.W.callWith_F0 ⟨_, _, _, _, of1⟩ ?_
  have un : Un (frs X.stack) [] H HZ s.heap s1.heap := I1.base
  obtain ⟨⟨oc, vs, tt, hoc, hdc, hvc⟩, _, _⟩ := I1.hok c' _ hc
  have rc : codeAny (model X.prog X.w) (X.A.deeper (envOfC qg sg s.heap.objs.size g cdg)) (.call (.ref f) ⟨[], []⟩) (CR (L2.CX X.prog X.w) (envOfC qg sg s.heap.objs.size g cdg :: X.stack) X.prog X.w HZ s1 Q fun cls d H' => W cls d σZ H') s1 := by
    refine PySem.W.kla_callFunE hr.depth of1 rfl L.co L.gen rfl ⟨c', oc, vs, tt, rfl, hoc, hdc, hvc⟩ (hbind s1 ot1 _ _ _ _ ?_)
    refine wpAny_newFunctionEnv (fun y hy => L.cel y hy) (fun y hy => by rw [List.mem_singleton.mp hy]; exact L.par) (fun h₁ hns hsb => ⟨I1.nolimit.fresh _ hsb, ?_⟩) L.kind
    show codeAny _ _ (.expr body (lamEnv X scope s1.heap.objs.size f c')) _ _
    have kp : ∀ b o, s1.heap.get? b = some o → h₁.get? b = some o := fun b o e => hsb.extBut b o (Nat.ne_of_lt (Heap.lt_size e)) (Heap.get?_push_of_some _ e)
    have J : Inv (lamCx X (X.A.deeper (envOfC qg sg s.heap.objs.size g cdg)) (envOfC qg sg s.heap.objs.size g cdg :: X.stack) s1 HZ (fun cls d H' => W cls d σZ H') scope f c') [] σ HZ { s1 with heap := h₁, toks := s1.toks + ([(x, Value.int n ntk)] : List (Str × Value)).length } :=
      lamd_start I L I1.env0 hr.hd un hns kp
    refine PySem.W.kla_codeExpr (wpAny_mono ((hbody _ s1 HZ _ (hr.deeper _)).run [] _ _ HZ Q J ht) (fun v s' ⟨w', H', J', rv, q⟩ => ?_) fun e s' hq => hq)
    exact ⟨w', H', J'.os, J'.bare, J'.base, J'.hok, rv, q⟩
  have hx : PassesAt (L2.CX X.prog X.w) ((cxOf CXg X.prog X.w X.K X.mg X.base Ng qg sg g cdg X.A X.stack s H Eg).tr pn xe) σZ (fun cls d H' => W cls d σZ H') := passAt tk σZ
  refine wpAny_call (codeAny_mono rc fun r s' hq => ?_)
  cases r with
  | error e => exact hx pinsZ HZ s1 e s' I1 hq
  | ok fl =>
    cases fl with
    | ret u => exact I1.after hq
    | next => exact False.elim hq
    | brk => exact False.elim hq
    | cont => exact False.elim hq
/-- h(lambda x=n: body) -/
theorem lamdcall_ok {T : List (Addr × Str)} {W : WX} {x a : Str} {g c P : Addr} {k : Nat} {q : Str} {pg : Arguments} {bg : List Stmt} {sg : Scope} {dV kV doc pm cdv ct oc : Value} {an od : Option Addr} {osl : Array (Option Value)} {Ng : List Str}
    {params : Arguments} {body : Expr} {scope : Scope} {y : Str} {n : Int} {kj : Nat} {cp p lpos pos : Pos} {t : TE} (hg : Gl X x) (hdb : (x == ("__debug__" : Str)) = false) (hm : X.mg x = some (.ref g)) (hk : PySem.W.keepIn X.K (.ref g) = true) (tk : Takes X W)
    (lk : X.K.lookup g = some ⟨oc, od, .func (PySem.W.fnOf x q pg bg sg dV kV doc pm an cdv ct), osl⟩) (hcg : PySem.W.codeIn X.K cdv q = true) (hb : ∀ (s : Shared) (u : Value), X.K.In s.heap → BindsTo s (PySem.W.fnOf x q pg bg sg dV kV doc pm an cdv ct) ⟨[u], []⟩ [(a, u)]) (Sg : FnScope Ng [a] sg)
    (TB : TabB X.base X.mg c P) (hcode : X.env.code = .ref c) (hmT : (P, X.env.qual ++ "<lambda>") ∈ T) (hu : ∀ p ∈ T, p.1 = P → p.2 = X.env.qual ++ "<lambda>") (hr : Room (k + 2) X.A) (L : LamD X.N y X.env.scope scope) (hd : params.defaults = [.Constant (.int n) kj cp]) (hk0 : params.kw_defaults = [])
    (h : ∀ pins s σ H Q, t σ H Q → Inv X pins σ H s → Tabs T H ∧ ∀ (f c' tu : Addr) (ntk : Tok) (doc' pm' ctv : Value) (H1 : Hp) (s' : Shared), Inv X pins σ H1 s' → ExtN H H1 → Tabs T H1 → s'.heap.get? tu = some (PySem.W.kdv_tup [.int n ntk]) → H1 tu = none → tu ∉ frs X.stack →
      s'.heap.get? f = some (lamO X params body scope (.ref tu) doc' pm' c' ctv) → H1 f = none → f ∉ frs X.stack → H1 c' = some (CodeO c' (X.env.qual ++ "<lambda>")) →
      Room (k + 1) (X.A.deeper (envOfC q sg s'.heap.objs.size g cdv)) → ∃ t', PSs (cxOf (L2.CX X.prog X.w) X.prog X.w X.K X.mg X.base Ng q sg g cdv X.A X.stack s' H1 fun cls d H' => W cls d σ H') bg t' ∧ t' { nx := fun _ H' => Q .non H', rt := Q } (L2.start Ng [.ref f]) H1) :
    PE X (.Call (.Name x p) [.Lambda params body scope lpos] [] pos) t := by
  refine ⟨fun pins s σ H Q I ht => ?_⟩
  obtain ⟨hT, h⟩ := h pins s σ H Q ht I
  refine wpAny_Call_Name_kw (ld_glob I hg hm ?_ hdb)
  refine PySem.W.callWith_K (h₀ := X.base) I.ok.mod.kin hk ?_ (by rfl) (by rfl)
  show wpAny _ _ (spliced ((false, eval (.Lambda params body scope lpos) X.env) :: backTo pos (starEach [] X.env))) _ _ s
  refine Calls.spliced_cons (lamd_make I TB hcode hmT hu hT hd hk0 (L.has I.ok) fun f c' tu ntk doc' pm' ctv H1 s' I1 eN T1 z1 z2 z3 hf hfn hfr hco => ?_)
  refine Calls.spliced_nil ⟨I1.kIn, ?_⟩
  have rc : codeAny (model X.prog X.w) X.A (.call (.ref g) ⟨[.ref f], []⟩) (CR (L2.CX X.prog X.w) X.stack X.prog X.w H1 s' Q fun cls d H' => W cls d σ H') s' :=
    run_ofS (k := k + 1) (N := Ng) (ps := [a]) (us := [.ref f]) (vs := [.ref f]) lk hcg Sg hr I1.env0 (hb s' (.ref f) I1.kIn) (.cons rfl .nil) rfl fun hr' => h f c' tu ntk doc' pm' ctv H1 s' I1 eN T1 z1 z2 z3 hf hfn hfr hco hr'
  refine wpAny_call (codeAny_mono rc fun r s2 hq => ?_)
  cases r with
  | error e => exact passAt tk σ pins H1 s' e s2 I1 hq
  | ok fl =>
    cases fl with
    | ret u => exact I1.after hq
    | next => exact False.elim hq
    | brk => exact False.elim hq
    | cont => exact False.elim hq
end
end PD
set_option maxHeartbeats 2000000
/-! PD17: defs, calls -/
namespace PD
open PySem PySem.Spec L2
section
variable {G : PC}
/-! ### what is new and unreachable is forgotten -/
abbrev Wd.cut (w : Wd) (n : Nat) : Wd := ⟨w.H, w.ms.take n, w.S.take n, w.pv⟩
variable {w : Wd} {n : Nat}
theorem mu_cut {a : Addr} (h : Mu (w.cut n) a) : Mu w a := by
  rcases h with ⟨i, mo, e1, e2, l⟩ | h
  · have e1 : (w.ms.take n)[i]? = some a := e1
    have e2 : (w.S.take n)[i]? = some mo := e2
    rw [List.getElem?_take] at e1 e2
    split at e1
    · rename_i hi
      rw [if_pos hi] at e2
      exact .inl ⟨i, mo, e1, e2, l⟩
    · cases e1
  · exact .inr h
theorem ExD.cut {us : List (Str × V)} {od : Option Addr} (h : ExD w us od) : ExD (w.cut n) us od := by
  cases od with
  | none => exact h
  | some d => exact ⟨fun z => h.1 (mu_cut z), h.2⟩
mutual
theorem Rep.cut : ∀ {d : D} {v : V}, d.lows n = true → Rep G w d v → Rep G (w.cut n) d v
  | .non, _, _, h => h
  | .bl _, _, _, h => h
  | .int _, _, _, h => h
  | .str _, _, _, h => h
  | .tup _, _, l, ⟨a, vs, e, t, r⟩ => ⟨a, vs, e, t.imp (fun t => ⟨fun z => t.1 (mu_cut z), t.2⟩) id, RepL.cut' l r⟩
  | .lst _, _, l, ⟨a, vs, e, t, r⟩ => ⟨a, vs, e, t.imp (fun t => ⟨fun z => t.1 (mu_cut z), t.2⟩) id, RepL.cut' l r⟩
  | .dic _, _, l, ⟨a, vs, e, t, r⟩ => ⟨a, vs, e, ⟨fun z => t.1 (mu_cut z), t.2⟩, RepK.cut l r⟩
  | .dct, _, _, ⟨a, e, m, t⟩ => ⟨a, e, fun z => m (mu_cut z), t⟩
  | .fnv, _, _, h => h
  | .ins _ _, _, l, ⟨a, vs, e, t, r⟩ => ⟨a, vs, e, ⟨fun z => t.1 (mu_cut z), t.2⟩, RepF.cut l r⟩
  | .exc _ _, _, l, ⟨a, od, us, e, ⟨o, m, t, x⟩, r⟩ => ⟨a, od, us, e, ⟨o, fun z => m (mu_cut z), t, x.cut⟩, RepF.cut l r⟩
  | .ref m, _, l, ⟨a, e, t⟩ => ⟨a, e, by
      show (w.ms.take n)[m]? = some a
      rw [List.getElem?_take, if_pos (of_decide_eq_true l)]; exact t⟩
  | .cls _, _, _, h => h
  | .ty _, _, _, h => h
theorem RepL.cut' : ∀ {d : List D} {v : List V}, lowsL n d = true → RepL G w d v → RepL G (w.cut n) d v
  | [], _, _, h => h
  | _ :: _, _, l, ⟨v, r, e, h, t⟩ => ⟨v, r, e, Rep.cut (ba l).1 h, RepL.cut' (ba l).2 t⟩
theorem RepF.cut : ∀ {d : List (Str × D)} {v : List (Str × V)}, lowsF n d = true → RepF G w d v → RepF G (w.cut n) d v
  | [], _, _, h => h
  | _ :: _, _, l, ⟨v, r, e, h, t⟩ => ⟨v, r, e, Rep.cut (ba l).1 h, RepF.cut (ba l).2 t⟩
theorem RepK.cut : ∀ {d : List (Key × D)} {v : List (Key × V)}, lowsK n d = true → RepK G w d v → RepK G (w.cut n) d v
  | [], _, _, h => h
  | _ :: _, _, l, ⟨v, r, e, h, t⟩ => ⟨v, r, e, Rep.cut (ba l).1 h, RepK.cut (ba l).2 t⟩
end
theorem MRep.cut {a : Addr} : ∀ {mo : MO}, mo.lows n = true → MRep G w a mo → MRep G (w.cut n) a mo
  | .lst _, l, ⟨_, e, r⟩ => ⟨_, e, r.cut' l⟩
  | .ins _ _, l, ⟨_, _, e, r⟩ => ⟨_, _, e, RepF.cut l r⟩
  | .dead, _, h => h
theorem Ok.cut (ok : Ok G w) (h : (w.S.take n).all (MO.lows n) = true) : Ok G (w.cut n) := by
  refine ⟨by show (w.ms.take n).length = (w.S.take n).length; rw [List.length_take, List.length_take, ok.len], ?_, fun i a mo e1 e2 => ?_, fun a ha => ?_, ok.tab⟩
  · exact ok.nd.sublist (List.take_sublist n w.ms)
  · have e1 : (w.ms.take n)[i]? = some a := e1
    have e2 : (w.S.take n)[i]? = some mo := e2
    have hl := List.all_eq_true.mp h mo (List.mem_of_getElem? e2)
    rw [List.getElem?_take] at e1 e2
    split at e1
    · rename_i hi
      rw [if_pos hi] at e2
      exact (ok.rep i a mo e1 e2).cut hl
    · cases e1
  · obtain ⟨e, m⟩ := ok.pv a ha
    exact ⟨e, fun z => m (List.mem_of_mem_take z)⟩
theorem Le.cut {w0 : Wd} (l : Le w0 w) (h : w0.ms.length = n) : Le w0 (w.cut n) := by
  refine ⟨⟨fun a o e m q => ?_, [], ?_⟩, l.pvE, l.pvK⟩
  · obtain ⟨e', m'⟩ := l.kept a o e m q
    exact ⟨e', fun z => m' (mu_cut z)⟩
  · obtain ⟨q, e⟩ := l.more
    show w.ms.take n = w0.ms ++ []
    rw [e, List.append_nil, ← h, List.take_left']
    rfl
/-- a promise that is kept, then what is new forgotten -/
theorem PostC.gc {w0 : Wd} {o : EOut} {Q : VK} {E : XK} (ok : Ok G w0) (p : PostC G w0 (gc w0.S.length o) Q E) : PostC G w0 o Q E := by
  cases o with
  | stuck => exact p
  | ok d S =>
    intro w' e ok' l v r
    rw [show PD.gc w0.S.length (.ok d S) = if d.lows w0.S.length && (S.take w0.S.length).all (MO.lows w0.S.length) then .ok d (S.take w0.S.length) else .ok d S from rfl] at p
    split at p
    · rename_i h
      obtain ⟨h1, h2⟩ := ba h
      rw [← e] at h2
      exact p (w'.cut w0.S.length) (by show w'.S.take _ = _; rw [e]) (ok'.cut h2) (l.cut ok.len) v (r.cut h1)
    · exact p w' e ok' l v r
  | exc x S =>
    intro w' e ok' l cls od r
    rw [show PD.gc w0.S.length (.exc x S) = if lowsF w0.S.length x.fs && (S.take w0.S.length).all (MO.lows w0.S.length) then .exc x (S.take w0.S.length) else .exc x S from rfl] at p
    split at p
    · rename_i h
      obtain ⟨h1, h2⟩ := ba h
      rw [← e] at h2
      refine p (w'.cut w0.S.length) (by show w'.S.take _ = _; rw [e]) (ok'.cut h2) (l.cut ok.len) cls od ?_
      obtain ⟨e1, k, us, r1, r2⟩ := r
      exact ⟨e1, k, us, RepF.cut h1 r1, r2.cut⟩
    · exact p w' e ok' l cls od r
/-! ### the program -/
/-- what all defs share -/
structure PS' where
  P : Pg
  free : List Str
  con : List (Str × D)
  cls : List (Str × Nat)
  fnm : List (Nat × Str)
  sigs : List CSig
  exs : List (Str × Nat × Nat × List (Str × Nat))
  flds : List Str
  xcl : List (Str × Nat)
  /-- the text's name -/
  file : Str
  /-- defs that get a lambda -/
  lms : List (Nat × Str) := []
def PS'.cc (p : PS') (fd : FD) : CC := { sc := fd.scope, N := fd.N, free := p.free, con := p.con, cls := p.cls, fnm := p.fnm, sigs := p.sigs, exs := p.exs, flds := p.flds, xcl := p.xcl, hot := false, lms := if fd.mkr then p.lms else [], ask := fd.ask, askT := fd.ask }
def FD.ps (fd : FD) : List Str := fd.N.take fd.np
/-- the check of a def's text -/
def FD.chk (p : PS') (fd : FD) : Bool := chkB (p.cc fd) fd.body fd.stmts && (Nat.ble fd.np fd.N.length && (decide (fd.scope.kind = .function) && (!fd.scope.isCoroutine && (!fd.scope.isGenerator && (decide fd.N.Nodup &&
  (fd.ps.all (fun x => decide (fd.scope.names.lookup x = some .local) || decide (fd.scope.names.lookup x = some .cell)) && fd.scope.names.all fun y => decide (y.2 ≠ .free)))))))
theorem FD.scope_ok {p : PS'} {fd : FD} (h : fd.chk p = true) : FnScope fd.N fd.ps fd.scope := by
  obtain ⟨_, h⟩ := ba h
  obtain ⟨h0, h⟩ := ba h
  obtain ⟨h1, h⟩ := ba h
  obtain ⟨h2, h⟩ := ba h
  obtain ⟨h3, h⟩ := ba h
  obtain ⟨h4, h⟩ := ba h
  obtain ⟨h5, h6⟩ := ba h
  refine ⟨of_decide_eq_true h1, by simpa using h2, by simpa using h3, of_decide_eq_true h4, ?_, fun x hx => ?_, fun y hy => ?_⟩
  · show fd.N.take (fd.N.take fd.np).length = fd.N.take fd.np
    rw [List.length_take, List.take_eq_take_iff]
    omega
  · rcases Bool.or_eq_true_iff.mp (List.all_eq_true.mp h5 x hx) with z | z
    · exact .inl (of_decide_eq_true z)
    · exact .inr (of_decide_eq_true z)
  · exact of_decide_eq_true (List.all_eq_true.mp h6 y hy)
/-- the value of a default -/
def sameDv : D → He.Dv → Bool
  | .non, .non => true
  | .bl a, .bl b => a == b
  | .int a, .int b => decide (a = b)
  | .str a, .str b => decide (a = b) && decide (a.length ≤ sizeLine)
  | _, _ => false
theorem sameDv_rep {G : PC} {w : Wd} {d : D} {v : He.Dv} (h : sameDv d v = true) : Rep G w d (v.v G.K) := by
  unfold sameDv at h
  split at h
  · rfl
  · rw [eq_of_beq h]; rfl
  · rw [of_decide_eq_true h]; rfl
  · obtain ⟨h1, h2⟩ := ba h
    rw [of_decide_eq_true h1]
    rw [of_decide_eq_true h1] at h2
    exact ⟨rfl, of_decide_eq_true h2⟩
  · cases h
/-- the defaults that a form of call takes are those of the def -/
def datB (dvs : List He.Dv) : List Src → Bool
  | [] => true
  | .arg _ :: r => datB dvs r
  | .dat d j :: r => (match dvs[j]? with
    | some v => sameDv d v
    | none => false) && datB dvs r
theorem datB_one {dvs : List He.Dv} {d : D} {j : Nat} {r : List Src} (h : datB dvs (.dat d j :: r) = true) : (∃ v, dvs[j]? = some v ∧ sameDv d v = true) ∧ datB dvs r = true := by
  obtain ⟨h1, h2⟩ := ba (show ((match dvs[j]? with
    | some v => sameDv d v
    | none => false) && datB dvs r) = true from h)
  refine ⟨?_, h2⟩
  split at h1
  · rename_i v e; exact ⟨v, e, h1⟩
  · cases h1
def pick {α : Type} (xs ys : List α) : List Src → Option (List α)
  | [] => some []
  | .arg i :: r => match xs[i]?, pick xs ys r with
    | some x, some zs => some (x :: zs)
    | _, _ => none
  | .dat _ j :: r => match ys[j]?, pick xs ys r with
    | some x, some zs => some (x :: zs)
    | _, _ => none
theorem pick_len {α : Type} {xs ds ys : List α} : ∀ {src : List Src}, pick xs ds src = some ys → ys.length = src.length := by
  intro src
  induction src generalizing ys with
  | nil => intro h; cases h; rfl
  | cons s r ih =>
    intro h
    have go : ∀ {o : Option α}, (match o, pick xs ds r with | some x, some zs => some (x :: zs) | _, _ => none) = some ys → ys.length = r.length + 1 := fun {o} h => by
      cases o with
      | none => cases h
      | some x =>
        cases q2 : pick xs ds r with
        | none => rw [q2] at h; cases h
        | some zs =>
          rw [q2] at h
          cases h
          rw [List.length_cons, ih q2]
    cases s with
    | dat d j => exact go h
    | arg i => exact go h
theorem pick_rel {us its : List Value} {vs : List V} {dvs : List He.Dv} {xs : List D} (hv : Vals vs us) (hd : Vals (dvs.map (He.Dv.v G.K)) its) (hr : RepL G w xs vs) : ∀ {src : List Src} {full : List Value} {ds : List D}, datB dvs src = true → pick us its src = some full → srcs xs src = some ds → ∃ fv, RepL G w ds fv ∧ Vals fv full := by
  intro src
  induction src with
  | nil => intro full ds _ h1 h2; cases h1; cases h2; exact ⟨[], rfl, .nil⟩
  | cons s r ih =>
    intro full ds hb h1 h2
    cases s with
    | dat d j =>
      obtain ⟨⟨v, hj, hvd⟩, hb2⟩ := datB_one hb
      unfold pick at h1
      have h2 : (srcs xs r).map (d :: ·) = some ds := h2
      cases q1 : its[j]? with
      | none => rw [q1] at h1; cases h1
      | some u =>
        cases q2 : pick us its r with
        | none => rw [q1, q2] at h1; cases h1
        | some zs =>
          rw [q1, q2] at h1
          cases h1
          cases q4 : srcs xs r with
          | none => rw [q4] at h2; cases h2
          | some ys =>
            rw [q4] at h2
            cases h2
            obtain ⟨fv, r1, r2⟩ := ih hb2 q2 q4
            obtain ⟨u', hu', ru⟩ := hd.get (show (dvs.map (He.Dv.v G.K))[j]? = some (v.v G.K) by rw [List.getElem?_map, hj]; rfl)
            rw [q1] at hu'
            cases hu'
            exact ⟨v.v G.K :: fv, ⟨_, fv, rfl, sameDv_rep hvd, r1⟩, .cons ru r2⟩
    | arg i =>
      unfold pick at h1
      have h2 : (match xs[i]?, srcs xs r with | some x, some ys => some (x :: ys) | _, _ => none) = some ds := h2
      cases q1 : us[i]? with
      | none => rw [q1] at h1; cases h1
      | some u =>
        cases q2 : pick us its r with
        | none => rw [q1, q2] at h1; cases h1
        | some zs =>
          rw [q1, q2] at h1
          cases h1
          cases q3 : xs[i]? with
          | none => rw [q3] at h2; cases h2
          | some x =>
            cases q4 : srcs xs r with
            | none => rw [q3, q4] at h2; cases h2
            | some ys =>
              rw [q3, q4] at h2
              cases h2
              obtain ⟨fv, r1, r2⟩ := ih (show datB dvs r = true from hb) q2 q4
              obtain ⟨v, hv1, rv⟩ := hr.get q3
              obtain ⟨u', hu', ru⟩ := hv.get hv1
              rw [q1] at hu'
              cases hu'
              exact ⟨v :: fv, ⟨v, fv, rfl, rv, r1⟩, .cons ru r2⟩
/-- a form of call binds so -/
def SigB (fd : FD) (c : CSig) : Prop := ∀ (kV doc pm : Value) (an : Option Addr) (cdv ct : Value) (us ws : List Value), us.length = c.n → ws.length = c.ks.length →
  (fd.dvs = [] → ∃ full, pick (us ++ ws) [] c.src = some full ∧ bindArgs (PySem.W.fnOf fd.name fd.qual fd.params fd.stmts fd.scope .none kV doc pm an cdv ct) ⟨us, c.ks.zip ws⟩ = pure (fd.ps.zip full)) ∧
  (fd.dvs ≠ [] → ∀ (t : Addr) (its : List Value), its.length = fd.dvs.length → ∃ full k, pick (us ++ ws) its c.src = some full ∧ bindArgs (PySem.W.fnOf fd.name fd.qual fd.params fd.stmts fd.scope (.ref t) kV doc pm an cdv ct) ⟨us, c.ks.zip ws⟩ = seqItems? (.ref t) >>= k ∧ k (some its.toArray) = pure (fd.ps.zip full))
/-- .. and all is there -/
abbrev SigO (fd : FD) (c : CSig) : Prop := SigB fd c ∧ c.src.length = fd.ps.length ∧ datB fd.dvs c.src = true
/-- what is known of the program where it stands -/
structure PgOk (G : PC) (p : PS') (mg : Str → Option Value) : Prop where
  pc : PcOk G
  fn : ∀ (f : Nat) (fd : FD), p.P[f]? = some fd → ∃ fdt, FunD G.K fd.name fd.qual fd.params fd.stmts fd.scope (fd.dvs.map (He.Dv.v G.K)) [] (He.fAd G.K fd.at_) fdt
  chk : ∀ (f : Nat) (fd : FD), p.P[f]? = some fd → fd.chk p = true
  free : ∀ x ∈ p.free, mg x = none
  con : ∀ x d, (x, d) ∈ p.con → ∃ v u, mg x = some u ∧ RelV v u ∧ ∀ w, Ok G w → Rep G w d v
  cls : ∀ x c, (x, c) ∈ p.cls → mg x = some (.ref (G.clsA c)) ∧ G.okC c
  fnm : ∀ f n, (f, n) ∈ p.fnm → ∃ fd, p.P[f]? = some fd ∧ mg n = some (.ref (He.fAd G.K fd.at_))
  sig : ∀ c ∈ p.sigs, ∀ fd, p.P[c.f]? = some fd → SigO fd c
  exs : ∀ e ∈ p.exs, mg e.1 = some (.ref (G.clsA e.2.1)) ∧ G.okX e.2.1 ∧ iniB G.K p.file (G.clsA e.2.1) e.2.2.1 e.2.2.2 = true ∧ mg "super" = none
  xcl : ∀ x c, (x, c) ∈ p.xcl → mg x = some (.ref (G.clsA c)) ∧ G.okX c
  flds : ∀ f ∈ p.flds, ∀ x, G.okX x → PySem.W.findIn G.K (.ref (G.clsA x)) f = some none
  lms : ∀ h n, (h, n) ∈ p.lms → ∃ fd a r, p.P[h]? = some fd ∧ mg n = some (.ref (He.fAd G.K fd.at_)) ∧ fd.name = n ∧ fd.ask = true ∧ fd.mkr = false ∧ fd.np = 1 ∧ fd.N = a :: r ∧ okName a = true ∧ ⟨h, 1, [], [.arg 0]⟩ ∈ p.sigs ∧ fd.dvs = []
/-- what is known of the defs that hand a lambda on -/
def MakOk (G : PC) (p : PS') (mg : Str → Option Value) (base : Heap) : Prop := ∀ (f : Nat) (fd : FD), p.P[f]? = some fd → fd.mkr = true → ∃ c P, cdOf G.K (He.fAd G.K fd.at_) = .ref c ∧ LamX.TabB base mg c P ∧
  (P, (fd.qual ++ ".<locals>.") ++ "<lambda>") ∈ G.tabs ∧ ∀ q ∈ G.tabs, q.1 = P → q.2 = (fd.qual ++ ".<locals>.") ++ "<lambda>"
theorem PgOk.lam {G : PC} {p : PS'} {mg : Str → Option Value} {f : Addr} {I : Wd → Prop} {hI : ∀ w w', Le0 w w' → I w → I w'} (F : PgOk G p mg) : PgOk (G.lam f I hI) p mg :=
  { pc := ⟨F.pc.1, F.pc.2, F.pc.3, F.pc.4, F.pc.5, F.pc.6⟩, fn := F.fn, chk := F.chk, free := F.free, con := fun x d h => let ⟨v, u, e, r, k⟩ := F.con x d h; ⟨v, u, e, r, fun w ok => by rw [rep_same]; exact k w (ok_same.mp ok)⟩,
    cls := F.cls, fnm := F.fnm, sig := F.sig, exs := F.exs, xcl := F.xcl, flds := F.flds, lms := F.lms }
theorem start_rep {N : List Str} {np : Nat} {ds : List D} {vs : List V} (r : RepL G w ds vs) (h : ds.length = np) (hi : G.inv w) : REnv G w (ds.map some ++ List.replicate (N.length - np) none) (L2.start N vs) := by
  have hl := r.length
  unfold L2.start
  refine ⟨by simp; omega, fun i d e => .inl ?_, hi⟩
  by_cases hi : i < ds.length
  · rw [List.getElem?_append_left (by simpa using hi), List.getElem?_map] at e
    obtain ⟨d', e', z⟩ := Option.map_eq_some_iff.mp e
    cases z
    obtain ⟨v, hv, rv⟩ := r.get e'
    exact ⟨v, by rw [List.getElem?_append_left (by simp; omega), List.getElem?_map, hv]; rfl, rv⟩
  · rw [List.getElem?_append_right (by simpa using hi)] at e
    rw [List.getElem?_replicate] at e
    split at e <;> cases e
section
variable {prog : Program} {W0 : World} {mg : Str → Option Value} {base : Heap} {p : PS'}
/-- forms of call, once the defs keep what they promise -/
theorem sig_of {G : PC} (F : PgOk G p mg) {lv : Nat} {g : Nat → List D → Store → EOut}
    (IH : ∀ (f : Nat) (fd : FD), p.P[f]? = some fd → ∀ fdt, FunD G.K fd.name fd.qual fd.params fd.stmts fd.scope (fd.dvs.map (He.Dv.v G.K)) [] (He.fAd G.K fd.at_) fdt → FnG prog W0 G.K mg base (L2.CX prog W0) lv (He.fAd G.K fd.at_) fdt fd.ps (spOf G fd.ps.length (g f)))
    {N : List Str} {qual : Str} {scope : Scope} {fa : Addr} {cdv : Value} {A : Around} {outer : List Env} {s : Shared} {H : Hp} {E : XK} {c : CSig} (hc : c ∈ p.sigs) {n : Str} (hn : (c.f, n) ∈ p.fnm) :
    SigAt G (cxOf (L2.CX prog W0) prog W0 G.K mg base N qual scope fa cdv A outer s H E) lv (g c.f) c n := by
  obtain ⟨fd', hfd, hmg⟩ := F.fnm c.f n hn
  obtain ⟨fdt', D'⟩ := F.fn c.f fd' hfd
  obtain ⟨sb, sl, sd⟩ := F.sig c hc fd' hfd
  refine ⟨He.fAd G.K fd'.at_, fdt', fd'.ps, hmg, D'.kp, IH c.f fd' hfd fdt' D', fun s us ws X hu hw => ?_⟩
  obtain ⟨oc, od, dV, kV, doc, pm, an, cdv', ct, osl, rfl, lk, hcd, hD, hK⟩ := D'.ex
  rcases hD with ⟨e0, rfl⟩ | ⟨z, T, o, its, nn, rfl, lT, oT, vT⟩
  · have e0 := List.map_eq_nil_iff.mp e0
    obtain ⟨full, hp, hb⟩ := (sb kV doc pm an cdv' ct us ws hu hw).1 e0
    exact ⟨full, .of_eq hb, by rw [pick_len hp, sl], fun w xs ds vs zs hv hz hr hs => pick_rel (dvs := fd'.dvs) (hv.append hz) (by rw [e0]; exact .nil) hr sd hp hs⟩
  · have z := fun q : fd'.dvs = [] => z (by rw [q]; rfl)
    obtain ⟨full, k, hp, hb, hk⟩ := (sb kV doc pm an cdv' ct us ws hu hw).2 z T its (by rw [← vT.length, List.length_map])
    exact ⟨full, .of_defaults rfl (X _ _ lT) oT hb hk, by rw [pick_len hp, sl], fun w xs ds vs zs hv hz hr hs => pick_rel (hv.append hz) vT hr sd hp hs⟩
theorem fn_stuck {G : PC} {lv : Nat} {fa : Addr} {fdt : FuncData} {ps : List Str} : FnG prog W0 G.K mg base (L2.CX prog W0) lv fa fdt ps (spOf G ps.length (fun _ _ => .stuck)) :=
  ⟨fun vs H Q E h => h.1, fun A outer s H args us vs Q E hr hg e0 hb hv h => by
    obtain ⟨_, w, ds, _, _, _, q⟩ := h
    exact q.elim⟩
/-- a piece's context, as a def is entered -/
theorem sok_of {G : PC} (F : PgOk G p mg) (hfile : (prog.main.file : Str) = p.file) (htop : (prog.main.scope.names.lookup ("super" : Str)).isSome = false) {fd : FD} {ps : List Str} (S : FnScope fd.N ps fd.scope) {lv : Nat} {cf : CallF}
    (IH : ∀ (f : Nat) (fd : FD), p.P[f]? = some fd → ∀ fdt, FunD G.K fd.name fd.qual fd.params fd.stmts fd.scope (fd.dvs.map (He.Dv.v G.K)) [] (He.fAd G.K fd.at_) fdt → FnG prog W0 G.K mg base (L2.CX prog W0) lv (He.fAd G.K fd.at_) fdt fd.ps (spOf G fd.ps.length (cf.fn f)))
    (IL : ∀ (f : Nat) (fd : FD), p.P[f]? = some fd → ∀ fdt, FunD G.K fd.name fd.qual fd.params fd.stmts fd.scope (fd.dvs.map (He.Dv.v G.K)) [] (He.fAd G.K fd.at_) fdt → FnG prog W0 G.K mg base (L2.CX prog W0) (lv - 2) (He.fAd G.K fd.at_) fdt fd.ps (spOf G fd.ps.length (cf.low f)))
    {qual : Str} {fa : Addr} {cdv : Value} {A : Around} {outer : List Env} {s : Shared} {H : Hp} {E : XK} (hr : Room lv (A.deeper (PyProof.Rows.envOfC qual fd.scope s.heap.objs.size fa cdv))) (hg : A.guards = some []) (gf : fd.ask = false → G.fnv = none)
    (ask : fd.ask = true → ∀ (pn : List (Addr × Obj)) (xe : Value → Shared → Prop) (W' : WX), Takes ((cxOf (L2.CX prog W0) prog W0 G.K mg base fd.N qual fd.scope fa cdv A outer s H E).tr pn xe) W' → ∀ a p1 p2, fd.N[0]? = some a →
      PE ((cxOf (L2.CX prog W0) prog W0 G.K mg base fd.N qual fd.scope fa cdv A outer s H E).tr pn xe) (.Call (.Name a p1) [] [] p2) (tD G W' fun ρ S => ev cf .ask ρ S))
    (lam : fd.mkr = true → ∀ h n, (h, n) ∈ p.lms → LamAt G cf lv fd.scope (cxOf (L2.CX prog W0) prog W0 G.K mg base fd.N qual fd.scope fa cdv A outer s H E) (fun cls d _ H' => E cls d H') h n) :
    Sok G cf lv (p.cc fd) (cxOf (L2.CX prog W0) prog W0 G.K mg base fd.N qual fd.scope fa cdv A outer s H E) (fun cls d _ H' => E cls d H') :=
  { sc := rfl, N := rfl, nd := S.nd, calm := (fun _ => rfl), K := rfl, pc := F.pc, room := (fun _ => hr), units := (by have := hr.un; show (A.deeper (PyProof.Rows.envOfC qual fd.scope s.heap.objs.size fa cdv)).units + 65 < cLine; omega), gd := hg, free := F.free, con := F.con, cls := F.cls,
    sig := fun c hc n hn => sig_of F IH hc hn, takes := takes_of rfl rfl rfl rfl, own := passes_of rfl, kind := S.kind, fn := (fun _ => rfl), stk := rfl, frm := rfl,
    exs := fun e he => ⟨(F.exs e he).1, (F.exs e he).2.1, fun M => iniB_ok (F.exs e he).2.2.1 M (F.exs e he).2.2.2 hfile htop⟩, xcl := F.xcl, flds := F.flds, gf := gf, askI := (fun z => nomatch z), askT := ask,
    sigL := fun _ c hc n hn => sig_of F IL hc hn, lam := fun h n hm => by
      have hm : (h, n) ∈ (if fd.mkr then p.lms else []) := hm
      split at hm
      · exact lam (by assumption) h n hm
      · cases hm }
theorem postC_le {G : PC} {w w' : Wd} {o : EOut} {Q : VK} {E : XK} (l : Le w w') (p : PostC G w o Q E) : PostC G w' o Q E := by
  cases o with
  | ok d S => exact fun w2 e ok l2 v r => p w2 e ok (l.trans l2) v r
  | exc x S => exact fun w2 e ok l2 cls od r => p w2 e ok (l.trans l2) cls od r
  | stuck => exact p
theorem xrep_same {G : PC} {f : Addr} {I : Wd → Prop} {hI : ∀ w w', Le0 w w' → I w → I w'} {w : Wd} {x : Exn} {cls : Value} {od : Option Addr} (h : XRep (G.lam f I hI) w x cls od) : XRep G w x cls od := by
  obtain ⟨e, k, us, r, d⟩ := h
  exact ⟨e, k, us, by rw [← repF_same (G := G) (f := f) (I := I) (hI := hI)]; exact r, d⟩
theorem xrep_same' {G : PC} {f : Addr} {I : Wd → Prop} {hI : ∀ w w', Le0 w w' → I w → I w'} {w : Wd} {x : Exn} {cls : Value} {od : Option Addr} (h : XRep G w x cls od) : XRep (G.lam f I hI) w x cls od := by
  obtain ⟨e, k, us, r, d⟩ := h
  exact ⟨e, k, us, by rw [repF_same]; exact r, d⟩
theorem spOf_same {G : PC} {f : Addr} {I : Wd → Prop} {hI : ∀ w w', Le0 w w' → I w → I w'} {n : Nat} {g : List D → Store → EOut} {vs : List V} {H : Hp} {Q : VK} {E : XK} (h : spOf (G.lam f I hI) n g vs H Q E) : spOf G n g vs H Q E := by
  obtain ⟨h1, w, ds, e, ok, r, p⟩ := h
  refine ⟨h1, w, ds, e, ok_same.mp ok, by rw [← repL_same (G := G) (f := f) (I := I) (hI := hI)]; exact r, ?_⟩
  cases ho : g ds w.S with
  | ok d S => rw [ho] at p; exact fun w' e ok l v r => p w' e (ok_same.mpr ok) l v (by rw [rep_same]; exact r)
  | exc x S => rw [ho] at p; exact fun w' e ok l cls od r => p w' e (ok_same.mpr ok) l cls od (xrep_same' r)
  | stuck => rw [ho] at p; exact p
theorem fnG_same {G : PC} {f : Addr} {I : Wd → Prop} {hI : ∀ w w', Le0 w w' → I w → I w'} {lv : Nat} {fa : Addr} {fdt : FuncData} {ps : List Str} {n : Nat} {g : List D → Store → EOut} (h : FnG prog W0 G.K mg base (L2.CX prog W0) lv fa fdt ps (spOf G n g)) :
    FnG prog W0 G.K mg base (L2.CX prog W0) lv fa fdt ps (spOf (G.lam f I hI) n g) := ⟨fun vs H Q E z => h.len vs H Q E (spOf_same z), fun A outer s H args us vs Q E hr hg e0 hb hv z => h.run A outer s H args us vs Q E hr hg e0 hb hv (spOf_same z)⟩
/-- what holds behind the making of a lambda -/
theorem made_ok {G : PC} {w : Wd} {H1 : Hp} (ok : Ok G w) (eN : LamX.ExtN w.H H1) (T1 : LamX.Tabs G.tabs H1) : Ok G ⟨H1, w.ms, w.S, w.pv⟩ ∧ Le w ⟨H1, w.ms, w.S, w.pv⟩ := by
  have nt : ∀ {o : HO}, isTb o = false → ∀ ps, o ≠ .tbl ps := fun h ps z => by subst z; cases h
  have l : Le w ⟨H1, w.ms, w.S, w.pv⟩ := ⟨⟨fun a o e m q => ⟨eN a o e (nt q), m⟩, [], by simp⟩, rfl, fun a ha => by
    obtain ⟨⟨o, e, po⟩, _⟩ := ok.pv a ha
    exact (eN a o e (nt po.1)).trans e.symm⟩
  refine ⟨⟨ok.len, ok.nd, fun i a mo e1 e2 => ?_, fun a ha => ?_, T1⟩, l⟩
  · have r := ok.rep i a mo e1 e2
    cases mo with
    | lst ds => obtain ⟨vs, e, rl⟩ := r; exact ⟨vs, eN a _ e (fun _ z => nomatch z), rl.le l.toLe0⟩
    | ins c fs => obtain ⟨dx, us, e, rf⟩ := r; exact ⟨dx, us, eN a _ e (fun _ z => nomatch z), RepF.le l.toLe0 rf⟩
    | dead => obtain ⟨o, e, po⟩ := r; exact ⟨o, eN a _ e (nt po.1), po⟩
  · obtain ⟨⟨o, e, po⟩, m⟩ := ok.pv a ha
    exact ⟨⟨o, eN a _ e (nt po.1), po⟩, m⟩
theorem codeO_notMu {G : PC} {w : Wd} {c : Addr} {q : Str} (ok : Ok G w) (h : w.H c = some (LamX.CodeO c q)) : ¬ Mu w c := fun m => by
  rcases m with ⟨i, mo, e1, e2, _⟩ | m
  · obtain ⟨o, e, po⟩ := (ok.rep i c mo e1 e2).pl
    rw [h] at e
    exact po.2 _ (Option.some.inj e).symm
  · obtain ⟨⟨o, e, po⟩, _⟩ := ok.pv c m
    rw [h] at e
    exact po.2 _ (Option.some.inj e).symm
/-- h(lambda: body), the deeper defs kept -/
theorem lam_ok {G : PC} (F : PgOk G p mg) (hfile : (prog.main.file : Str) = p.file) (htop : (prog.main.scope.names.lookup ("super" : Str)).isSome = false) {j : Nat}
    (IH : ∀ (f : Nat) (fd : FD), p.P[f]? = some fd → ∀ fdt, FunD G.K fd.name fd.qual fd.params fd.stmts fd.scope (fd.dvs.map (He.Dv.v G.K)) [] (He.fAd G.K fd.at_) fdt → FnG prog W0 G.K mg base (L2.CX prog W0) (j + 1) (He.fAd G.K fd.at_) fdt fd.ps (spOf G fd.ps.length ((callK p.P (j + 1)).fn f)))
    {fd : FD} {cdv : Value} {A : Around} {outer : List Env} {s : Shared} {H : Hp} {E : XK} {c P : Addr} (hcd : cdv = .ref c) (TB : LamX.TabB base mg c P) (hmT : (P, (fd.qual ++ ".<locals>.") ++ "<lambda>") ∈ G.tabs) (hu : ∀ q ∈ G.tabs, q.1 = P → q.2 = (fd.qual ++ ".<locals>.") ++ "<lambda>")
    {fa : Addr} (hr : Room (j + 2) (A.deeper (PyProof.Rows.envOfC fd.qual fd.scope s.heap.objs.size fa cdv))) (hg : A.guards = some []) {h : Nat} {n : Str} (hm : (h, n) ∈ p.lms) :
    LamAt G (callK p.P (j + 2)) (j + 2) fd.scope (cxOf (L2.CX prog W0) prog W0 G.K mg base fd.N fd.qual fd.scope fa cdv A outer s H E) (fun cls d _ H' => E cls d H') h n := by
  intro ps body scope np lpos pos B hpl hgl hbody
  unfold lamParB at hpl
  rw [Bool.or_eq_true] at hpl
  rcases hpl with hpl | hpl
  · obtain ⟨hps, hls⟩ := PD.ba hpl
    obtain ⟨fh, a, rr, hP, hmg, hnm, hask, hmk, hnp, hN, hok, hsg, hdv⟩ := F.lms h n hm
    obtain ⟨fdt, DF⟩ := F.fn h fh hP
    have hc := F.chk h fh hP
    have S := FD.scope_ok hc
    have hps1 : fh.ps = [a] := by unfold FD.ps; rw [hN, hnp]; rfl
    obtain ⟨sb, sl, sd⟩ := F.sig _ hsg fh hP
    obtain ⟨hq1, hq2⟩ := okName_of hok
    have Lm : LamX.LamS fd.scope scope := LamX.lamS_by hls
    obtain ⟨oc, od, dV, kV, doc, pm, an, cdv', ct, osl, rfl, lk, hcdi, hD, hK⟩ := DF.ex
    rcases hD with ⟨_, rfl⟩ | ⟨z, _⟩
    rotate_left
    · exact absurd (by rw [hdv]; rfl) z
    obtain ⟨gl1, gl2⟩ := PD.ba hgl
    rw [hnm] at lk
    rw [hps1] at S
    refine lamcall_ok (X := cxOf (L2.CX prog W0) prog W0 G.K mg base fd.N fd.qual fd.scope fa cdv A outer s H E) (a := a) (k := j) (W := fun cls d _ H' => E cls d H') (T := G.tabs) (c := c) (P := P) (show fd.scope.names.lookup n = some .globalImplicit from of_decide_eq_true gl1) (by simpa using gl2) hmg DF.kp (takes_of rfl rfl rfl rfl) lk hcdi (fun s u hs => ?_) S TB hcd hmT hu hr Lm (by rw [noPar_eq hps]; rfl) ?_
    · obtain ⟨full, hp, hb⟩ := (sb kV doc pm an cdv' ct [u] [] rfl rfl).1 hdv
      have hp : some [u] = some full := hp
      cases hp
      have hb : bindArgs (PySem.W.fnOf fh.name fh.qual fh.params fh.stmts fh.scope .none kV doc pm an cdv' ct) ⟨[u], []⟩ = pure (fh.ps.zip [u]) := hb
      rw [hps1, hnm] at hb
      exact .of_eq hb
    · intro pins s0 σ H0 Q ⟨w, ρ, e, hAt⟩ I
      subst e
      refine ⟨hAt.ok.tab, fun f c' pm' ctv H1 s' I1 eN T1 hf hfn hfr hco hr' => ?_⟩
      obtain ⟨ok1, l1⟩ := made_ok hAt.ok eN T1
      have nMu := codeO_notMu ok1 hco
      -- the promise of the call
      have post : PostC G w ((callK p.P (j + 2)).lam h (B ρ) w.S) Q E := hAt.post
      have e1 : (callK p.P (j + 2)).lam h (B ρ) w.S = PD.gc w.S.length (PD.run { CallF.no with fn := (callK p.P (j + 1)).fn, ask := B ρ } fh [.fnv] w.S) := by
        show (match p.P[h]? with | some fd => PD.gc w.S.length (PD.run { CallF.no with fn := (callK p.P (j + 1)).fn, ask := B ρ } fd [.fnv] w.S) | none => .stuck) = _
        rw [hP]
      rw [e1] at post
      have post := postC_le l1 (PostC.gc hAt.ok post)
      have hl1 : ([D.fnv] : List D).length = fh.np := hnp.symm
      unfold PD.run at post
      rw [if_pos hl1] at post
      have hI : ∀ w w' : Wd, Le0 w w' → (REnv G w ρ σ ∧ ¬ Mu w c' ∧ w.H c' = some (LamX.CodeO c' ((fd.qual ++ ".<locals>.") ++ "<lambda>"))) → (REnv G w' ρ σ ∧ ¬ Mu w' c' ∧ w'.H c' = some (LamX.CodeO c' ((fd.qual ++ ".<locals>.") ++ "<lambda>"))) :=
        fun w w' l ⟨h1, h2, h3⟩ => let ⟨h4, h5⟩ := l.keep c' _ h3 h2; ⟨h1.le l, h5, h4⟩
      let G' : PC := G.lam f _ hI
      have F' : PgOk G' p mg := F.lam
      have sok : Sok G' { CallF.no with fn := (callK p.P (j + 1)).fn, ask := B ρ } (j + 1) (p.cc fh) (cxOf (L2.CX prog W0) prog W0 G.K mg base fh.N fh.qual fh.scope (He.fAd G.K fh.at_) cdv' (A.deeper (PyProof.Rows.envOfC fd.qual fd.scope s.heap.objs.size fa cdv)) (PyProof.Rows.envOfC fd.qual fd.scope s.heap.objs.size fa cdv :: outer) s' H1 E) (fun cls d _ H' => E cls d H') := by
        refine sok_of (G := G') (cf := { CallF.no with fn := (callK p.P (j + 1)).fn, ask := B ρ }) F' hfile htop S (fun f1 fd1 e1 fdt1 DD1 => fnG_same (G := G) (f := f) (hI := hI) (IH f1 fd1 e1 fdt1 DD1)) (fun _ _ _ _ _ => fn_stuck) hr' hg (fun z => by rw [hask] at z; cases z) (fun _ pn xe W' tk a' p1 p2 ha' => ?_) (fun z => by rw [hmk] at z; cases z)
        rw [hN] at ha'
        cases ha'
        have act := act_ok (i := 0) (tb := fun E => tD G (fun cls d _ H' => E cls d H') B) (p1 := p1) (p2 := p2) I1 Lm hf hfn hfr (by rw [noPar_eq hps]; rfl) tk hr' (fun outer2 s2 H2 E2 hr2 => hbody _ outer2 s2 H2 E2 f c' hr2 hg) (show fh.N[0]? = some a by rw [hN]; rfl) (S.par a (by simp)|>.elim (fun z => .inl z) (fun z => .inr (.inl z))) hq1 hq2
        refine pe_imp act fun σZ HZ Q2 ⟨w2, ρ2, e2, h2⟩ => ?_
        subst e2
        unfold ev at h2
        have h2 : At G' W' w2 ρ2 σZ (match (ρ2[0]? : Option (Option D)) with | some (some .fnv) => B ρ w2.S | _ => .stuck) Q2 := h2
        split at h2
        · rename_i hρ
          obtain ⟨env2, nm2, hc2⟩ := h2.env.inv
          have hs2 : σZ[0]? = some (some (.ref f)) := by
            rcases h2.env.at_ 0 .fnv hρ with ⟨v, _, z⟩ | ⟨_, f', e', z⟩
            · exact z.elim
            · have e' : some f = some f' := e'
              cases e'; exact z
          refine ⟨hs2, hc2, w2, ρ, rfl, ok_same.mp h2.ok, env2, ?_⟩
          have pst := h2.post
          have pst : PostE G' W' w2 σZ (B ρ w2.S) Q2 := pst
          cases ho : B ρ w2.S with
          | ok d S' =>
            rw [ho] at pst
            exact fun w3 e3 ok3 l3 v r => pst w3 e3 (ok_same.mpr ok3) l3 v (by rw [rep_same]; exact r)
          | exc x S' =>
            rw [ho] at pst
            exact fun w3 e3 ok3 l3 cls od r => pst w3 e3 (ok_same.mpr ok3) l3 cls od (xrep_same' r)
          | stuck => rw [ho] at pst; exact pst
        · exact h2.no
      refine ⟨_, sts_ok (G := G') fh.body (p.cc fh) _ (fun cls d _ H' => E cls d H') sok _ (ba hc).1, ⟨H1, w.ms, w.S, w.pv⟩, [D.fnv].map some ++ List.replicate (fh.N.length - fh.np) none, rfl, ok_same.mpr ok1, ?_, ?_⟩
      · unfold L2.start
        refine ⟨by simp; omega, fun i d e => ?_, hAt.env.le l1.toLe0, nMu, hco⟩
        cases i with
        | zero =>
          refine .inr ⟨rfl, f, rfl, ?_⟩
          rfl
        | succ i =>
          have e : (List.replicate (fh.N.length - fh.np) (none : Option D))[i]? = some (some d) := e
          rw [List.getElem?_replicate] at e
          split at e <;> cases e
      · show PostS G' _ _ (sts _ fh.body _ w.S) _
        cases ho : sts { CallF.no with fn := (callK p.P (j + 1)).fn, ask := B ρ } fh.body ([D.fnv].map some ++ List.replicate (fh.N.length - fh.np) none) w.S with
        | nx ρ S' => rw [ho] at post; exact fun w' σ' e ok' l _ => post w' e (ok_same.mp ok') l .non rfl
        | rt d ρ S' => rw [ho] at post; exact fun w' e ok' l v r => post w' e (ok_same.mp ok') l v (by rw [← rep_same (G := G) (f := f) (hI := hI)]; exact r)
        | bk ρ S' => rw [ho] at post; exact post.elim
        | ct ρ S' => rw [ho] at post; exact post.elim
        | exc x ρ S' => rw [ho] at post; exact fun w' σ' e ok' l _ cls od r => post w' e (ok_same.mp ok') l cls od (xrep_same r)
        | stuck => rw [ho] at post; exact post.elim
  · split at hpl
    · rename_i px _ pn0 _ _
      have hls := hpl
      obtain ⟨fh, a, rr, hP, hmg, hnm, hask, hmk, hnp, hN, hok, hsg, hdv⟩ := F.lms h n hm
      obtain ⟨fdt, DF⟩ := F.fn h fh hP
      have hc := F.chk h fh hP
      have S := FD.scope_ok hc
      have hps1 : fh.ps = [a] := by unfold FD.ps; rw [hN, hnp]; rfl
      obtain ⟨sb, sl, sd⟩ := F.sig _ hsg fh hP
      obtain ⟨hq1, hq2⟩ := okName_of hok
      have Lm : LamD fd.N px fd.scope scope := lamD_by hls
      obtain ⟨oc, od, dV, kV, doc, pm, an, cdv', ct, osl, rfl, lk, hcdi, hD, hK⟩ := DF.ex
      rcases hD with ⟨_, rfl⟩ | ⟨z, _⟩
      rotate_left
      · exact absurd (by rw [hdv]; rfl) z
      obtain ⟨gl1, gl2⟩ := PD.ba hgl
      rw [hnm] at lk
      rw [hps1] at S
      refine lamdcall_ok (y := px) (n := pn0) (X := cxOf (L2.CX prog W0) prog W0 G.K mg base fd.N fd.qual fd.scope fa cdv A outer s H E) (a := a) (k := j) (W := fun cls d _ H' => E cls d H') (T := G.tabs) (c := c) (P := P) (show fd.scope.names.lookup n = some .globalImplicit from of_decide_eq_true gl1) (by simpa using gl2) hmg DF.kp (takes_of rfl rfl rfl rfl) lk hcdi (fun s u hs => ?_) S TB hcd hmT hu hr Lm rfl rfl ?_
      · obtain ⟨full, hp, hb⟩ := (sb kV doc pm an cdv' ct [u] [] rfl rfl).1 hdv
        have hp : some [u] = some full := hp
        cases hp
        have hb : bindArgs (PySem.W.fnOf fh.name fh.qual fh.params fh.stmts fh.scope .none kV doc pm an cdv' ct) ⟨[u], []⟩ = pure (fh.ps.zip [u]) := hb
        rw [hps1, hnm] at hb
        exact .of_eq hb
      · intro pins s0 σ H0 Q ⟨w, ρ, e, hAt⟩ I
        subst e
        refine ⟨hAt.ok.tab, fun f c' tu ntk doc' pm' ctv H1 s' I1 eN T1 z1 z2 z3 hf hfn hfr hco hr' => ?_⟩
        obtain ⟨ok1, l1⟩ := made_ok hAt.ok eN T1
        have nMu := codeO_notMu ok1 hco
        -- the promise of the call
        have post : PostC G w ((callK p.P (j + 2)).lam h (B ρ) w.S) Q E := hAt.post
        have e1 : (callK p.P (j + 2)).lam h (B ρ) w.S = PD.gc w.S.length (PD.run { CallF.no with fn := (callK p.P (j + 1)).fn, ask := B ρ } fh [.fnv] w.S) := by
          show (match p.P[h]? with | some fd => PD.gc w.S.length (PD.run { CallF.no with fn := (callK p.P (j + 1)).fn, ask := B ρ } fd [.fnv] w.S) | none => .stuck) = _
          rw [hP]
        rw [e1] at post
        have post := postC_le l1 (PostC.gc hAt.ok post)
        have hl1 : ([D.fnv] : List D).length = fh.np := hnp.symm
        unfold PD.run at post
        rw [if_pos hl1] at post
        have hI : ∀ w w' : Wd, Le0 w w' → (REnv G w ρ σ ∧ ¬ Mu w c' ∧ w.H c' = some (LamX.CodeO c' ((fd.qual ++ ".<locals>.") ++ "<lambda>"))) → (REnv G w' ρ σ ∧ ¬ Mu w' c' ∧ w'.H c' = some (LamX.CodeO c' ((fd.qual ++ ".<locals>.") ++ "<lambda>"))) :=
          fun w w' l ⟨h1, h2, h3⟩ => let ⟨h4, h5⟩ := l.keep c' _ h3 h2; ⟨h1.le l, h5, h4⟩
        let G' : PC := G.lam f _ hI
        have F' : PgOk G' p mg := F.lam
        have sok : Sok G' { CallF.no with fn := (callK p.P (j + 1)).fn, ask := B ρ } (j + 1) (p.cc fh) (cxOf (L2.CX prog W0) prog W0 G.K mg base fh.N fh.qual fh.scope (He.fAd G.K fh.at_) cdv' (A.deeper (PyProof.Rows.envOfC fd.qual fd.scope s.heap.objs.size fa cdv)) (PyProof.Rows.envOfC fd.qual fd.scope s.heap.objs.size fa cdv :: outer) s' H1 E) (fun cls d _ H' => E cls d H') := by
          refine sok_of (G := G') (cf := { CallF.no with fn := (callK p.P (j + 1)).fn, ask := B ρ }) F' hfile htop S (fun f1 fd1 e1 fdt1 DD1 => fnG_same (G := G) (f := f) (hI := hI) (IH f1 fd1 e1 fdt1 DD1)) (fun _ _ _ _ _ => fn_stuck) hr' hg (fun z => by rw [hask] at z; cases z) (fun _ pn xe W' tk a' p1 p2 ha' => ?_) (fun z => by rw [hmk] at z; cases z)
          rw [hN] at ha'
          cases ha'
          have act := actd_ok (i := 0) (tb := fun E => tD G (fun cls d _ H' => E cls d H') B) (p1 := p1) (p2 := p2) I1 Lm z1 z2 z3 hf hfn hfr (fun s1 h1 => bind_default s1 h1) tk hr' (fun outer2 s2 H2 E2 hr2 => hbody _ outer2 s2 H2 E2 f c' hr2 hg) (show fh.N[0]? = some a by rw [hN]; rfl) (S.par a (by simp)|>.elim (fun z => .inl z) (fun z => .inr (.inl z))) hq1 hq2
          refine pe_imp act fun σZ HZ Q2 ⟨w2, ρ2, e2, h2⟩ => ?_
          subst e2
          unfold ev at h2
          have h2 : At G' W' w2 ρ2 σZ (match (ρ2[0]? : Option (Option D)) with | some (some .fnv) => B ρ w2.S | _ => .stuck) Q2 := h2
          split at h2
          · rename_i hρ
            obtain ⟨env2, nm2, hc2⟩ := h2.env.inv
            have hs2 : σZ[0]? = some (some (.ref f)) := by
              rcases h2.env.at_ 0 .fnv hρ with ⟨v, _, z⟩ | ⟨_, f', e', z⟩
              · exact z.elim
              · have e' : some f = some f' := e'
                cases e'; exact z
            refine ⟨hs2, hc2, w2, ρ, rfl, ok_same.mp h2.ok, env2, ?_⟩
            have pst := h2.post
            have pst : PostE G' W' w2 σZ (B ρ w2.S) Q2 := pst
            cases ho : B ρ w2.S with
            | ok d S' =>
              rw [ho] at pst
              exact fun w3 e3 ok3 l3 v r => pst w3 e3 (ok_same.mpr ok3) l3 v (by rw [rep_same]; exact r)
            | exc x S' =>
              rw [ho] at pst
              exact fun w3 e3 ok3 l3 cls od r => pst w3 e3 (ok_same.mpr ok3) l3 cls od (xrep_same' r)
            | stuck => rw [ho] at pst; exact pst
          · exact h2.no
        refine ⟨_, sts_ok (G := G') fh.body (p.cc fh) _ (fun cls d _ H' => E cls d H') sok _ (ba hc).1, ⟨H1, w.ms, w.S, w.pv⟩, [D.fnv].map some ++ List.replicate (fh.N.length - fh.np) none, rfl, ok_same.mpr ok1, ?_, ?_⟩
        · unfold L2.start
          refine ⟨by simp; omega, fun i d e => ?_, hAt.env.le l1.toLe0, nMu, hco⟩
          cases i with
          | zero =>
            refine .inr ⟨rfl, f, rfl, ?_⟩
            rfl
          | succ i =>
            have e : (List.replicate (fh.N.length - fh.np) (none : Option D))[i]? = some (some d) := e
            rw [List.getElem?_replicate] at e
            split at e <;> cases e
        · show PostS G' _ _ (sts _ fh.body _ w.S) _
          cases ho : sts { CallF.no with fn := (callK p.P (j + 1)).fn, ask := B ρ } fh.body ([D.fnv].map some ++ List.replicate (fh.N.length - fh.np) none) w.S with
          | nx ρ S' => rw [ho] at post; exact fun w' σ' e ok' l _ => post w' e (ok_same.mp ok') l .non rfl
          | rt d ρ S' => rw [ho] at post; exact fun w' e ok' l v r => post w' e (ok_same.mp ok') l v (by rw [← rep_same (G := G) (f := f) (hI := hI)]; exact r)
          | bk ρ S' => rw [ho] at post; exact post.elim
          | ct ρ S' => rw [ho] at post; exact post.elim
          | exc x ρ S' => rw [ho] at post; exact fun w' σ' e ok' l _ cls od r => post w' e (ok_same.mp ok') l cls od (xrep_same r)
          | stuck => rw [ho] at post; exact post.elim
    · cases hpl
/-- every def keeps its promise -/
theorem fn_ok {G : PC} (F : PgOk G p mg) (M : MakOk G p mg base) (hn : G.fnv = none) (hi : ∀ w, G.inv w) (hfile : (prog.main.file : Str) = p.file) (htop : (prog.main.scope.names.lookup ("super" : Str)).isSome = false) (k : Nat) : ∀ (f : Nat) (fd : FD), p.P[f]? = some fd →
    ∀ fdt, FunD G.K fd.name fd.qual fd.params fd.stmts fd.scope (fd.dvs.map (He.Dv.v G.K)) [] (He.fAd G.K fd.at_) fdt → FnG prog W0 G.K mg base (L2.CX prog W0) k (He.fAd G.K fd.at_) fdt fd.ps (spOf G fd.ps.length ((callK p.P k).fn f)) := by
  induction k using Nat.strongRecOn with
  | _ k ih =>
  cases k with
  | zero => exact fun _ _ _ _ _ => fn_stuck
  | succ k =>
    intro f fd hf fdt DD
    have hc := F.chk f fd hf
    have S := FD.scope_ok hc
    refine FnG.of DD S (fun vs H Q E h => h.1) (fun cdv A outer s H vs Q E hr hg hcdv h => ?_)
    obtain ⟨hlen, w, ds, e, ok, rl, post⟩ := h
    subst e
    have hdl : ds.length = fd.ps.length := by rw [rl.length, hlen]
    have post : PostC G w (PD.gc w.S.length (PD.run (callK p.P k) fd ds w.S)) Q E := by
      have h1 : (callK p.P (k + 1)).fn f ds w.S = PD.gc w.S.length (PD.run (callK p.P k) fd ds w.S) := by
        show (match p.P[f]? with | some fd => PD.gc w.S.length (PD.run (callK p.P k) fd ds w.S) | none => .stuck) = _
        rw [hf]
      rw [← h1]; exact post
    have post := PostC.gc ok post
    have hnp : ds.length = fd.np := by
      have h0 := Nat.le_of_ble_eq_true (ba (ba hc).2).1
      rw [hdl]
      show (fd.N.take fd.np).length = fd.np
      rw [List.length_take]; omega
    have sok : Sok G (callK p.P k) k (p.cc fd) (cxOf (L2.CX prog W0) prog W0 G.K mg base fd.N fd.qual fd.scope (He.fAd G.K fd.at_) cdv A outer s w.H E) (fun cls d _ H' => E cls d H') := by
      refine sok_of F hfile htop S (ih k (Nat.lt_succ_self k)) ?_ hr hg (fun _ => hn) (fun _ pn xe W' tk a p1 p2 _ => ⟨fun pins s σ H Q I h => ?_⟩) (fun hm h n hl => ?_)
      · cases k with
        | zero => exact fun _ _ _ _ _ => fn_stuck
        | succ k =>
          cases k with
          | zero => exact fun _ _ _ _ _ => fn_stuck
          | succ k => exact ih k (by omega)
      · obtain ⟨w, ρ, _, h⟩ := h
        have h : At G W' w ρ σ (match (ρ[0]? : Option (Option D)) with | some (some .fnv) => (callK p.P k).ask w.S | _ => .stuck) Q := by unfold ev at h; exact h
        have e : (callK p.P k).ask w.S = .stuck := by cases k <;> rfl
        split at h
        · rw [e] at h; exact h.no
        · exact h.no
      · cases k with
        | zero => exact fun _ _ _ _ _ _ _ _ _ _ => ⟨fun pins s σ H Q I ⟨w, ρ, _, h⟩ => h.no⟩
        | succ k =>
          cases k with
          | zero => exact fun _ _ _ _ _ _ _ _ _ _ => ⟨fun pins s σ H Q I ⟨w, ρ, _, h⟩ => h.no⟩
          | succ k =>
            obtain ⟨c, P, h1, TB, hT, hu⟩ := M f fd hf hm
            exact lam_ok F hfile htop (ih (k + 1) (by omega)) (hcdv.symm.trans h1) TB hT hu hr hg hl
    refine ⟨_, sts_ok (G := G) (cf := callK p.P k) (lv := k) fd.body (p.cc fd) _ (fun cls d _ H' => E cls d H') sok _ (ba hc).1, w, ds.map some ++ List.replicate (fd.N.length - fd.np) none, rfl, ok, start_rep rl hnp (hi w), ?_⟩
    unfold PD.run at post
    rw [if_pos hnp] at post
    cases ho : sts (callK p.P k) fd.body (ds.map some ++ List.replicate (fd.N.length - fd.np) none) w.S with
    | nx ρ S' => rw [ho] at post; exact fun w' σ' e ok' l _ => post w' e ok' l .non rfl
    | rt d ρ S' => rw [ho] at post; exact post
    | bk ρ S' => rw [ho] at post; exact post.elim
    | ct ρ S' => rw [ho] at post; exact post.elim
    | exc x ρ S' => rw [ho] at post; exact fun w' σ' e ok' l _ cls od r => post w' e ok' l cls od r
    | stuck => rw [ho] at post; exact post.elim
end
end
end PD
set_option maxHeartbeats 2000000
/-! PD18: the program behind its top; a law's end -/
namespace PD
open PySem PySem.Spec L2
/-- classes: names by index, numbers of classes, of exceptions' classes -/
structure CN where
  names : List Str
  cs : List Nat
  xs : List Nat
abbrev CN.nm (cn : CN) (c : Nat) : Str := cn.names.getD c.log2 Str.empty
/-! ### constants of the module -/
mutual
/-- a value of the written part is this -/
def repV (K : PySem.W.Frag) (cn : CN) : D → Value → Bool
  | .non, u => (match u with
    | .none => true
    | _ => false)
  | .bl b, u => (match u with
    | .bool c => b == c
    | _ => false)
  | .int i, u => (match u with
    | .int j _ => decide (i = j)
    | _ => false)
  | .str x, u => (match u with
    | .str y _ => decide (x = y) && Nat.ble x.length 100000
    | _ => false)
  | .tup ds, u => (match u with
    | .ref a => (match K.lookup a with
      | some ⟨.type c, _, .seq its _, _⟩ => decide (c = "tuple") && (Nat.ble its.size 100000 && repVs K cn ds its.toList)
      | _ => false)
    | _ => false)
  | .lst ds, u => (match u with
    | .ref a => (match K.lookup a with
      | some ⟨.type c, none, .seq its _, _⟩ => decide (c = "list") && (Nat.ble its.size 100000 && repVs K cn ds its.toList)
      | _ => false)
    | _ => false)
  | .cls c, u => (match u with
    | .ref a => decide (c ∈ cn.cs) && decide (a = He.ga K (cn.nm c))
    | _ => false)
  | .ty n, u => (match u with
    | .type m => decide (n = m)
    | _ => false)
  | .dic _, _ => false
  | .dct, _ => false
  | .fnv, _ => false
  | .ins _ _, _ => false
  | .exc _ _, _ => false
  | .ref _, _ => false
def repVs (K : PySem.W.Frag) (cn : CN) : List D → List Value → Bool
  | [], us => (match us with
    | [] => true
    | _ => false)
  | d :: ds, us => (match us with
    | u :: us => repV K cn d u && repVs K cn ds us
    | _ => false)
end
/-- the fixed part of a program -/
def gOf (K : PySem.W.Frag) (cn : CN) (T : List (Addr × Str)) : PC := ⟨K, fun c => He.ga K (cn.nm c), fun c => c ∈ cn.cs, fun c => c ∈ cn.xs, T, none, fun _ => True, fun _ _ _ _ => trivial⟩
theorem line_of {n : Nat} (h : Nat.ble n 100000 = true) : n ≤ sizeLine := by
  have := Nat.le_of_ble_eq_true h
  rw [sizeLine_eq]; omega
mutual
theorem repV_ok {K : PySem.W.Frag} {cn : CN} {T : List (Addr × Str)} : ∀ {d : D} {u : Value}, repV K cn d u = true → ∃ v, RelV v u ∧ ∀ w, Rep (gOf K cn T) w d v
  | .non, u, h => by
    unfold repV at h
    split at h
    · exact ⟨.non, rfl, fun _ => rfl⟩
    · cases h
  | .bl b, u, h => by
    unfold repV at h
    split at h
    · exact ⟨.bl b, by rw [eq_of_beq h]; rfl, fun _ => rfl⟩
    · cases h
  | .int i, u, h => by
    unfold repV at h
    split at h
    · exact ⟨.int i, ⟨_, by rw [of_decide_eq_true h]⟩, fun _ => rfl⟩
    · cases h
  | .str x, u, h => by
    unfold repV at h
    split at h
    · obtain ⟨h1, h2⟩ := ba h
      exact ⟨.str x, ⟨_, by rw [of_decide_eq_true h1]⟩, fun _ => ⟨rfl, line_of h2⟩⟩
    · cases h
  | .tup ds, u, h => by
    unfold repV at h
    split at h
    · rename_i a
      split at h
      · rename_i c od its n sl q
        obtain ⟨h1, h⟩ := ba h
        obtain ⟨h2, h3⟩ := ba h
        obtain ⟨vs, r, k⟩ := repVs_ok h3
        exact ⟨.ref a, rfl, fun w => ⟨a, vs, rfl, .inr ⟨_, its, n, q, congrArg Value.type (of_decide_eq_true h1), rfl, line_of h2, r⟩, k w⟩⟩
      · cases h
    · cases h
  | .lst ds, u, h => by
    unfold repV at h
    split at h
    · rename_i a
      split at h
      · rename_i c its n sl q
        obtain ⟨h1, h⟩ := ba h
        obtain ⟨h2, h3⟩ := ba h
        obtain ⟨vs, r, k⟩ := repVs_ok h3
        exact ⟨.ref a, rfl, fun w => ⟨a, vs, rfl, .inr ⟨_, its, n, q, congrArg Value.type (of_decide_eq_true h1), rfl, rfl, line_of h2, r⟩, k w⟩⟩
      · cases h
    · cases h
  | .cls c, u, h => by
    unfold repV at h
    split at h
    · rename_i a
      obtain ⟨h1, h2⟩ := ba h
      exact ⟨.ref a, rfl, fun w => ⟨by rw [of_decide_eq_true h2]; rfl, (show c ∈ cn.cs from of_decide_eq_true h1)⟩⟩
    · cases h
  | .ty n, u, h => by
    unfold repV at h
    split at h
    · exact ⟨.ty n, by rw [of_decide_eq_true h]; rfl, fun _ => rfl⟩
    · cases h
  | .dic _, u, h => by unfold repV at h; cases h
  | .dct, u, h => by unfold repV at h; cases h
  | .fnv, u, h => by unfold repV at h; cases h
  | .ins _ _, u, h => by unfold repV at h; cases h
  | .exc _ _, u, h => by unfold repV at h; cases h
  | .ref _, u, h => by unfold repV at h; cases h
theorem repVs_ok {K : PySem.W.Frag} {cn : CN} {T : List (Addr × Str)} : ∀ {d : List D} {u : List Value}, repVs K cn d u = true → ∃ v, Vals v u ∧ ∀ w, RepL (gOf K cn T) w d v
  | [], u, h => by
    unfold repVs at h
    split at h
    · exact ⟨[], .nil, fun _ => rfl⟩
    · cases h
  | d :: ds, u, h => by
    unfold repVs at h
    split at h
    · obtain ⟨h1, h2⟩ := ba h
      obtain ⟨v, r, k⟩ := repV_ok h1
      obtain ⟨vs, r2, k2⟩ := repVs_ok h2
      exact ⟨v :: vs, .cons r r2, fun w => ⟨v, vs, rfl, k w, k2 w⟩⟩
    · cases h
end
/-! ### the Hook -/
def dOf (fd : FD) : He.DefD := ⟨fd.at_, fd.name, fd.qual, fd.params, fd.stmts, fd.scope, fd.dvs, []⟩
def faOf (p : PS') : List He.Fa := p.free.map .free ++ (p.fnm.map (fun q => .glo q.2) ++ (p.cls.map (fun q => .glo q.1) ++ (p.xcl.map (fun q => .glo q.1) ++ p.exs.map fun q => .glo q.1)))
/-- what the head shows of exceptions -/
def exX (p : PS') (cn : CN) (K : PySem.W.Frag) : Bool := cn.xs.all fun x => (cn.cs.all fun c => decide (PySem.W.kitOne K (.ref (He.ga K (cn.nm x))) (.ref (He.ga K (cn.nm c))) = some (subC x c))) && ((cn.xs.all fun c => decide (PySem.W.exmOne K (.ref (He.ga K (cn.nm x))) (.ref (He.ga K (cn.nm c))) = some (subC x c))) &&
  ((xTy.all fun t => decide (PySem.W.kitOne K (.ref (He.ga K (cn.nm x))) (.type t.1) = some t.2)) && (excKB K (He.ga K (cn.nm x)) && p.flds.all fun f => decide (PySem.W.findIn K (.ref (He.ga K (cn.nm x))) f = some none))))
def exI' (p : PS') (cn : CN) (K : PySem.W.Frag) : Bool := p.exs.all fun e => iniB K p.file (He.ga K (cn.nm e.2.1)) e.2.2.1 e.2.2.2
def exC' (cn : CN) (K : PySem.W.Frag) : Bool := cn.cs.all fun x => tyNames.all fun t => decide (PySem.W.kitOne K (.type t) (.ref (He.ga K (cn.nm x))) = some false)
def exN (p : PS') (cn : CN) (K : PySem.W.Frag) : Bool := p.con.all fun q => match PySem.W.nsIn K mainGlobals q.1 with
    | some (some u) => repV K cn q.2 u
    | _ => false
def smB (K : PySem.W.Frag) : Bool := match K.lookup sysModules with
  | some ⟨_, _, .dict _ _, _⟩ => true
  | _ => false
theorem smB_ok {K : PySem.W.Frag} (h : smB K = true) : SmK K := by
  unfold smB at h
  split at h
  · rename_i oc od es n sl e
    exact ⟨_, es, n, e, rfl⟩
  · cases h
def exOf (p : PS') (cn : CN) (K : PySem.W.Frag) : Bool := exN p cn K && (exC' cn K && (exX p cn K && (exI' p cn K && smB K)))
/-- the defs that hand a lambda on, their code objects and tables -/
def mksOf (p : PS') : List FD := p.P.filter (·.mkr)
def csOf (p : PS') (K : PySem.W.Frag) : List (Addr × Addr) := (mksOf p).map fun fd => He.cT K fd.at_
def tabsOf (p : PS') (K : PySem.W.Frag) : List (Addr × Str) := (mksOf p).map fun fd => ((He.cT K fd.at_).2, (fd.qual ++ ".<locals>.") ++ "<lambda>")
def apartB (T : List (Addr × Str)) : Bool := T.all fun a => T.all fun b => !(a.1 == b.1) || decide (a.2 = b.2)
structure SaysP (p : PS') (cn : CN) (h : Heap) (K : PySem.W.Frag) : Prop where
  d : He.SaysD (faOf p) (p.P.map dOf) K
  ex : exOf p cn K = true
  ap : apartB (tabsOf p K) = true
  hd : ∀ q ∈ csOf p K, PySem.W.codeHdIn K q.1 q.2 = true
  out : ∀ q ∈ csOf p K, K.lookup q.2 = none
  empty : ∀ q ∈ csOf p K, h.get? q.2 = some { cls := .none, data := .fields #[] }
def asP (g : Addr → Option Obj) (n : Nat) : List Addr := He.asD g n ++ [cStatics, sysModules]
abbrev AlP : Type := He.AlD × Bool
def obsP (n : Nat) (p : PS') (cn : CN) (g : Addr → Option Obj) : AlP := (He.obsD (faOf p) (p.P.map dOf) (He.frT g (asP g n)), exOf p cn (He.frT g (asP g n)) && (apartB (tabsOf p (He.frT g (asP g n))) && He.tabsB g ((mksOf p).map (·.at_)) (He.frT g (asP g n))))
theorem saysP_of {n : Nat} {p : PS'} {cn : CN} {h : Heap} (e : obsP n p cn h.get? = (He.valD (p.P.map dOf), true)) : SaysP p cn h (He.frT h.get? (asP h.get? n)) := by
  have e2 := congrArg (fun z : AlP => z.2) e
  obtain ⟨h1, h2⟩ := ba (show (exOf p cn (He.frT h.get? (asP h.get? n)) && (apartB (tabsOf p (He.frT h.get? (asP h.get? n))) && He.tabsB h.get? ((mksOf p).map (·.at_)) (He.frT h.get? (asP h.get? n)))) = true from e2)
  obtain ⟨h2, h3⟩ := ba h2
  have key : ∀ q ∈ csOf p (He.frT h.get? (asP h.get? n)), PySem.W.codeHdIn (He.frT h.get? (asP h.get? n)) q.1 q.2 = true ∧ ∃ o, h.get? q.2 = some o ∧ He.emptyTab o = true := fun q hq => by
    obtain ⟨fd, hfd, rfl⟩ := List.mem_map.mp hq
    obtain ⟨h4, h5⟩ := ba (List.all_eq_true.mp h3 fd.at_ (List.mem_map.mpr ⟨fd, hfd, rfl⟩))
    refine ⟨h4, ?_⟩
    cases z : h.get? (He.cT (He.frT h.get? (asP h.get? n)) fd.at_).2 with
    | none => rw [z] at h5; cases h5
    | some o => rw [z] at h5; exact ⟨o, rfl, h5⟩
  exact ⟨congrArg (fun z : AlP => z.1) e, h1, h2, fun q hq => (key q hq).1, fun q hq => let ⟨_, o, z, t⟩ := key q hq; He.frT_none z t, fun q hq => let ⟨_, o, z, t⟩ := key q hq; by rw [z, He.emptyTab_eq t]⟩
def hookP (n : Nat) (p : PS') (cn : CN) : PySem.W.Hook where
  α := AlP
  obs := fun s => obsP n p cn s.heap.get?
  val := fun _ => (He.valD (p.P.map dOf), true)
  says := fun _ h => ∃ K : PySem.W.Frag, K.In h ∧ SaysP p cn h K
  of := fun _ _ e => ⟨_, He.frT_in, saysP_of e⟩
  keeps := fun _ _ _ ⟨K, hK, c⟩ k => ⟨K, PySem.W.Frag.In.keeps hK k, ⟨c.d, c.ex, c.ap, c.hd, c.out, fun q hq => k _ _ (c.empty q hq)⟩⟩
theorem obsP_eq {n : Nat} {p : PS'} {cn : CN} {g : Addr → Option Obj} {s : Shared} (h : ∀ a, g a = s.heap.get? a) : obsP n p cn g = (hookP n p cn).obs s := by
  have e : g = s.heap.get? := funext h
  rw [e] <;> rfl
/-- what is seen of the text alone -/
def pgB (p : PS') (cn : CN) : Bool :=
  (p.P.all (FD.chk p)) && ((p.fnm.all fun q => match p.P[q.1]? with
    | some fd => decide (fd.at_ = (q.2, none))
    | none => false) && ((p.cls.all fun q => decide (cn.names[q.2.log2]? = some q.1) && decide (q.2 ∈ cn.cs)) && ((p.xcl.all fun q => decide (cn.names[q.2.log2]? = some q.1) && decide (q.2 ∈ cn.xs)) &&
    ((p.exs.all fun q => decide (cn.names[q.2.1.log2]? = some q.1) && (decide (q.2.1 ∈ cn.xs) && p.free.contains "super")) && (p.lms.all fun q => (match p.P[q.1]? with
    | some fd => decide (fd.name = q.2) && fd.dvs.isEmpty && (fd.ask && (!fd.mkr && (fd.np == 1 && (match fd.N with
      | a :: _ => okName a
      | [] => false))))
    | none => false) && (p.sigs.any (CSig.same ⟨q.1, 1, [], [.arg 0]⟩) && p.fnm.any (fun r => r.1 == q.1 && decide (r.2 = q.2))))))))
theorem pg_of {K : PySem.W.Frag} {h : Heap} {mg : Str → Option Value} {p : PS'} {cn : CN} (X : K.In h) (N : h.Ns mainGlobals mg) (c : SaysP p cn h K) (hb : pgB p cn = true)
    (sig : ∀ c ∈ p.sigs, ∀ fd, p.P[c.f]? = some fd → SigO fd c) : PgOk (gOf K cn (tabsOf p K)) p mg := by
  have c1 := c.d
  have c2 := c.ex
  obtain ⟨e1, c2⟩ := ba c2
  obtain ⟨e2, c2⟩ := ba c2
  obtain ⟨e3, c2⟩ := ba c2
  obtain ⟨e4, e5⟩ := ba c2
  obtain ⟨b1, b2⟩ := ba hb
  obtain ⟨b2, b3⟩ := ba b2
  obtain ⟨b3, b4⟩ := ba b3
  obtain ⟨b4, b5⟩ := ba b4
  obtain ⟨b5, b6⟩ := ba b5
  have glo : ∀ {x : Str} {k : Nat}, He.Fa.glo x ∈ faOf p → cn.names[k.log2]? = some x → mg x = some (.ref (He.ga K (cn.nm k))) := fun {x k} hf h3 => by
    rw [He.glo_ok X N (c1.facts hf)]
    show _ = some (Value.ref (He.ga K (cn.names.getD k.log2 Str.empty)))
    rw [List.getD_eq_getElem?_getD, h3]
    rfl
  have xk : ∀ x ∈ cn.xs, _ := fun x hx => List.all_eq_true.mp e3 x hx
  have free : ∀ x ∈ p.free, mg x = none := fun x hx => He.free_ok X N (c1.facts (f := .free x) (List.mem_append_left _ (List.mem_map.mpr ⟨x, hx, rfl⟩)))
  refine ⟨⟨fun k hk t ht => ?_, fun x hx k hk => ?_, fun x hx k hk => ?_, fun x hx t ht => ?_, fun x hx => ?_, smB_ok e5⟩, fun f fd hf => ?_, fun f fd hf => List.all_eq_true.mp b1 fd (List.mem_of_getElem? hf), free, fun x d hd => ?_, fun x k hk => ?_, fun f n hn => ?_, sig, fun e he => ?_, fun x k hk => ?_, fun f hf x hx => ?_, fun h n hm => ?_⟩
  · exact of_decide_eq_true (List.all_eq_true.mp (List.all_eq_true.mp e2 k hk) t ht)
  · exact of_decide_eq_true (List.all_eq_true.mp (ba (xk x hx)).1 k hk)
  · exact of_decide_eq_true (List.all_eq_true.mp (ba (ba (xk x hx)).2).1 k hk)
  · exact of_decide_eq_true (List.all_eq_true.mp (ba (ba (ba (xk x hx)).2).2).1 t ht)
  · exact excKB_ok (ba (ba (ba (ba (xk x hx)).2).2).2).1
  · exact c1.defs (d := dOf fd) (List.mem_map.mpr ⟨fd, List.mem_of_getElem? hf, rfl⟩)
  · have h1 := List.all_eq_true.mp e1 (x, d) hd
    dsimp only at h1
    split at h1
    · rename_i u hu
      obtain ⟨v, r, k⟩ := repV_ok h1
      exact ⟨v, u, PySem.W.mg_of X N hu, r, fun w _ => k w⟩
    · cases h1
  · obtain ⟨h1, h2⟩ := ba (List.all_eq_true.mp b3 (x, k) hk)
    exact ⟨glo (List.mem_append_right _ (List.mem_append_right _ (List.mem_append_left _ (List.mem_map.mpr ⟨(x, k), hk, rfl⟩)))) (of_decide_eq_true h1), (show k ∈ cn.cs from of_decide_eq_true h2)⟩
  · have h1 := He.glo_ok X N (c1.facts (f := .glo n) (List.mem_append_right _ (List.mem_append_left _ (List.mem_map.mpr ⟨(f, n), hn, rfl⟩))))
    have h2 := List.all_eq_true.mp b2 (f, n) hn
    dsimp only at h2
    split at h2
    · rename_i fd hf
      refine ⟨fd, hf, ?_⟩
      rw [of_decide_eq_true h2, h1]
      rfl
    · cases h2
  · obtain ⟨h1, h2⟩ := ba (List.all_eq_true.mp b5 e he)
    obtain ⟨h2, h3⟩ := ba h2
    exact ⟨glo (List.mem_append_right _ (List.mem_append_right _ (List.mem_append_right _ (List.mem_append_right _ (List.mem_map.mpr ⟨e, he, rfl⟩))))) (of_decide_eq_true h1), (show e.2.1 ∈ cn.xs from of_decide_eq_true h2), List.all_eq_true.mp e4 e he, free _ (List.contains_iff_mem.mp h3)⟩
  · obtain ⟨h1, h2⟩ := ba (List.all_eq_true.mp b4 (x, k) hk)
    exact ⟨glo (List.mem_append_right _ (List.mem_append_right _ (List.mem_append_right _ (List.mem_append_left _ (List.mem_map.mpr ⟨(x, k), hk, rfl⟩))))) (of_decide_eq_true h1), (show k ∈ cn.xs from of_decide_eq_true h2)⟩
  · exact of_decide_eq_true (List.all_eq_true.mp (ba (ba (ba (ba (xk x hx)).2).2).2).2 f hf)
  · obtain ⟨h1, h2⟩ := ba (List.all_eq_true.mp b6 (h, n) hm)
    obtain ⟨h2, h3⟩ := ba h2
    obtain ⟨r, hr, h3⟩ := List.any_eq_true.mp h3
    obtain ⟨h3, h4⟩ := ba h3
    have er : r = (h, n) := Prod.ext (eq_of_beq h3) (of_decide_eq_true h4)
    subst er
    obtain ⟨sg, hsg, e⟩ := List.any_eq_true.mp h2
    have e := csig_ok e
    subst e
    have g1 := He.glo_ok X N (c1.facts (f := .glo n) (List.mem_append_right _ (List.mem_append_left _ (List.mem_map.mpr ⟨(h, n), hr, rfl⟩))))
    have g2 := List.all_eq_true.mp b2 (h, n) hr
    dsimp only at g2 h1
    split at h1
    · rename_i fd hf
      rw [hf] at g2
      have g2 := of_decide_eq_true g2
      obtain ⟨a1, a⟩ := ba h1
      obtain ⟨a1, a0v⟩ := ba a1
      obtain ⟨a2, a⟩ := ba a
      obtain ⟨a3, a⟩ := ba a
      obtain ⟨a4, a⟩ := ba a
      split at a
      · rename_i a0 r0 hN
        refine ⟨fd, a0, r0, hf, ?_, of_decide_eq_true a1, a2, by simpa using a3, eq_of_beq a4, hN, a, hsg, List.isEmpty_iff.mp a0v⟩
        rw [g2, g1]
        rfl
      · cases a
    · cases h1
theorem mak_of {K : PySem.W.Frag} {h : Heap} {mg : Str → Option Value} {p : PS'} {cn : CN} {base : Heap} (c : SaysP p cn h K) (TB : ∀ q ∈ csOf p K, LamX.TabB base mg q.1 q.2) : MakOk (gOf K cn (tabsOf p K)) p mg base := by
  intro f fd hf hm
  have hmem : fd ∈ mksOf p := List.mem_filter.mpr ⟨List.mem_of_getElem? hf, hm⟩
  obtain ⟨fdt, D⟩ := c.d.defs (d := dOf fd) (List.mem_map.mpr ⟨fd, List.mem_of_getElem? hf, rfl⟩)
  obtain ⟨oc, od, dV, kV, doc, pm, an, cdv, ct, osl, rfl, lk, hcd, _, _⟩ := D.ex
  obtain ⟨cc, rfl⟩ := He.codeIn_ref hcd
  have e1 : He.codeOf K fd.at_ = cc := He.codeOf_eq lk rfl
  have hq : He.cT K fd.at_ ∈ csOf p K := List.mem_map.mpr ⟨fd, hmem, rfl⟩
  refine ⟨(He.cT K fd.at_).1, (He.cT K fd.at_).2, ?_, TB _ hq, List.mem_map.mpr ⟨fd, hmem, rfl⟩, fun q hq2 hP => ?_⟩
  · show cdOf K (He.fAd K fd.at_) = .ref (He.codeOf K fd.at_)
    rw [e1]
    unfold cdOf
    rw [show K.lookup (He.fAd K fd.at_) = _ from lk]
  · have := List.all_eq_true.mp (List.all_eq_true.mp c.ap q hq2) ((He.cT K fd.at_).2, (fd.qual ++ ".<locals>.") ++ "<lambda>") (List.mem_map.mpr ⟨fd, hmem, rfl⟩)
    rcases Bool.or_eq_true_iff.mp this with z | z
    · simp [hP] at z
    · exact of_decide_eq_true z
/-- the script, the law's answer -/
theorem law_sp {K : PySem.W.Frag} {cn : CN} {T : List (Addr × Str)} {f : List D → Store → EOut} {H : Hp} {a : Addr} {ns : List Int} (hT : ∀ q ∈ T, H q.1 = some (.tbl #[])) (hS : SqL K H a (ns.map V.int)) (h : ∃ S', f [.lst (ns.map .int)] [] = .ok (.bl true) S') :
    spOf (gOf K cn T) 1 f [.ref a] H (fun v _ => v = .bl true) fun _ _ _ => False := by
  obtain ⟨S', e⟩ := h
  have nm : ∀ b, ¬ Mu (⟨H, [], [], []⟩ : Wd) b := fun b m => by
    rcases m with ⟨i, mo, e1, _⟩ | m
    · cases e1
    · cases m
  refine ⟨rfl, ⟨H, [], [], []⟩, [.lst (ns.map .int)], rfl, ⟨rfl, List.nodup_nil, fun i a mo e1 => (by cases e1), fun a ha => (by cases ha), fun q hq => .nil (hT q hq)⟩, ⟨.ref a, [], rfl, ⟨a, ns.map V.int, rfl, hS.imp (fun z => ⟨nm a, z⟩) id, repL_ints ns⟩, rfl⟩, ?_⟩
  show PostC _ _ (f [.lst (ns.map .int)] []) _ _
  rw [e]
  exact fun w' _ _ _ v r => r
end PD
set_option maxHeartbeats 4000000
namespace LW
open PySem PySem.Spec L2 PD
abbrev R : PySem.W.OpenRow := PySem.W.OpenLaw.row PySem.Challenge.rw_meettrees_k10_heads_that_hold
def top (i : Nat) : Stmt := PySem.Challenge.pw_meettrees_k10_heads_that_hold.main.body.getD i (.Pass ⟨0, 0, 0, 0⟩)
def c_MOST_NUMBER : D := (.int (65535))
def c_WIDTH : D := (.int (16))
def c_MARK : D := (.int (7))
def c_HALVES : D := (.int (2))
def c_NO_HEAD : D := (.tup [(.int (0)), (.int (0)), (.int (1))])
abbrev i_is_integer : Nat := 0
abbrev i_is_within : Nat := 1
abbrev i_are_integers : Nat := 2
abbrev i_is_numbers : Nat := 3
abbrev i_need_number : Nat := 4
abbrev i_is_block : Nat := 5
abbrev i_need_block : Nat := 6
abbrev i_head_of : Nat := 7
abbrev i_told_by : Nat := 8
abbrev i_holding : Nat := 9
abbrev i_head_block : Nat := 10
abbrev i_read_heads : Nat := 11
abbrev i__law_prow : Nat := 12
abbrev i__law_steer : Nat := 13
abbrev i__law_pick : Nat := 14
abbrev i__law_head : Nat := 15
abbrev i__law_told : Nat := 16
abbrev i__law_block : Nat := 17
abbrev i__law_due : Nat := 18
abbrev i__law_heard : Nat := 19
abbrev i__law_refused_right : Nat := 20
abbrev i_law : Nat := 21
abbrev x_MeetError : Nat := 1
abbrev x_BadNumber : Nat := 3
abbrev x_BadBlock : Nat := 5
def g_is_integer : CSig := ⟨0, 1, [], [.arg 0]⟩
def g_are_integers : CSig := ⟨2, 1, [], [.arg 0]⟩
def g_is_within : CSig := ⟨1, 3, [], [.arg 0, .arg 1, .arg 2]⟩
def g_is_numbers : CSig := ⟨3, 3, [], [.arg 0, .arg 1, .arg 2]⟩
def g_is_block : CSig := ⟨5, 1, [], [.arg 0]⟩
def g_head_of : CSig := ⟨7, 3, [], [.arg 0, .arg 1, .arg 2]⟩
def g_told_by : CSig := ⟨8, 1, [], [.arg 0]⟩
def g_need_number : CSig := ⟨4, 4, [], [.arg 0, .arg 1, .arg 2, .arg 3]⟩
def g_need_block : CSig := ⟨6, 2, [], [.arg 0, .arg 1]⟩
def g_holding : CSig := ⟨9, 2, [], [.arg 0, .arg 1]⟩
def g__law_steer : CSig := ⟨13, 2, [], [.arg 0, .arg 1]⟩
def g__law_pick : CSig := ⟨14, 2, [], [.arg 0, .arg 1]⟩
def g__law_told : CSig := ⟨16, 1, [], [.arg 0]⟩
def g__law_head : CSig := ⟨15, 1, [], [.arg 0]⟩
def g__law_heard : CSig := ⟨19, 1, [], [.arg 0]⟩
def g_head_block : CSig := ⟨10, 3, [], [.arg 0, .arg 1, .arg 2]⟩
def g_read_heads : CSig := ⟨11, 2, [], [.arg 0, .arg 1]⟩
def g__law_prow : CSig := ⟨12, 1, [], [.arg 0]⟩
def g_head_block_0_first_half_epoch : CSig := ⟨10, 0, ["first", "half", "epoch"], [.arg 2, .arg 1, .arg 0]⟩
def g__law_block : CSig := ⟨17, 1, [], [.arg 0]⟩
def g__law_due : CSig := ⟨18, 2, [], [.arg 0, .arg 1]⟩
def g_read_heads_0_other_one : CSig := ⟨11, 0, ["other", "one"], [.arg 1, .arg 0]⟩
def g__law_refused_right : CSig := ⟨20, 1, [], [.arg 0]⟩
def b_is_integer : Cms := (.cons (.ret (.and (.blt .isi false (.cons (.var 0) (.cons (.tyv .int) .nil))) (.not (.blt .isi false (.cons (.var 0) (.cons (.tyv .bool) .nil)))))) .nil)
abbrev d_is_integer : FD := ⟨("is_integer", none), "is_integer", "is_integer", defArgs (top 6), defBody (top 6), defScope (top 6), ["value"], 1, b_is_integer, false, false, []⟩
def b_is_within_0t : Cms := (.cons (.ret (.lit (.bl false))) .nil)
def b_is_within_1 : Cms := (.cons (.ret (.and (.or (.cmp .Is (.var 1) (.lit .non)) (.cmp .GtE (.var 0) (.var 1))) (.or (.cmp .Is (.var 2) (.lit .non)) (.cmp .LtE (.var 0) (.var 2))))) .nil)
def b_is_within : Cms := (.cons (.ite (.not (.call g_is_integer (.cons (.var 0) .nil) .nil)) b_is_within_0t .nil) b_is_within_1)
abbrev d_is_within : FD := ⟨("is_within", none), "is_within", "is_within", defArgs (top 7), defBody (top 7), defScope (top 7), ["value", "least", "most"], 3, b_is_within, false, false, []⟩
def b_are_integers : Cms := (.cons (.ret (.and (.blt .isi false (.cons (.var 0) (.cons (.tup (.cons (.tyv .list) (.cons (.tyv .tuple) .nil))) .nil))) (.blt .all false (.cons (.comp false [("each", 1)] (.name 1) (.val (.var 0)) .nil (.call g_is_integer (.cons (.var 1) .nil) .nil)) .nil)))) .nil)
abbrev d_are_integers : FD := ⟨("are_integers", none), "are_integers", "are_integers", defArgs (top 8), defBody (top 8), defScope (top 8), ["value", "each"], 1, b_are_integers, false, false, []⟩
def b_is_numbers : Cms := (.cons (.ret (.and (.call g_are_integers (.cons (.var 0) .nil) .nil) (.and (.cmp .Eq (.blt .len false (.cons (.var 0) .nil)) (.var 1)) (.blt .all false (.cons (.comp false [("each", 3)] (.name 3) (.val (.var 0)) .nil (.chn .LtE .LtE (.lit (.int (0))) (.var 3) (.var 2))) .nil))))) .nil)
abbrev d_is_numbers : FD := ⟨("is_numbers", none), "is_numbers", "is_numbers", defArgs (top 9), defBody (top 9), defScope (top 9), ["value", "many", "most", "each"], 3, b_is_numbers, false, false, []⟩
def b_need_number_0t : Cms := (.cons (.raise "BadNumber" 3 1 [("part", 0)] (.cons (.var 1) .nil)) .nil)
def b_need_number : Cms := (.cons (.ite (.not (.call g_is_within (.cons (.var 0) (.cons (.var 2) (.cons (.var 3) .nil))) .nil)) b_need_number_0t .nil) .nil)
abbrev d_need_number : FD := ⟨("need_number", none), "need_number", "need_number", defArgs (top 10), defBody (top 10), defScope (top 10), ["value", "part", "least", "most"], 4, b_need_number, false, false, []⟩
def b_is_block : Cms := (.cons (.ret (.call g_is_numbers (.cons (.var 0) (.cons (.glo "WIDTH" c_WIDTH) (.cons (.glo "MOST_NUMBER" c_MOST_NUMBER) .nil))) .nil)) .nil)
abbrev d_is_block : FD := ⟨("is_block", none), "is_block", "is_block", defArgs (top 13), defBody (top 13), defScope (top 13), ["value"], 1, b_is_block, false, false, []⟩
def b_need_block_0t : Cms := (.cons (.raise "BadBlock" 5 1 [("part", 0)] (.cons (.var 1) .nil)) .nil)
def b_need_block_1 : Cms := (.cons (.ret (.blt .tuple false (.cons (.var 0) .nil))) .nil)
def b_need_block : Cms := (.cons (.ite (.not (.call g_is_block (.cons (.var 0) .nil) .nil)) b_need_block_0t .nil) b_need_block_1)
abbrev d_need_block : FD := ⟨("need_block", none), "need_block", "need_block", defArgs (top 14), defBody (top 14), defScope (top 14), ["value", "part"], 2, b_need_block, false, false, [.str (T [98, 108, 111, 99, 107])]⟩
def b_head_of : Cms := (.cons (.ret (.tup (.cons (.glo "MARK" c_MARK) (.cons (.var 0) (.cons (.var 1) (.cons (.var 2) (.star (.rep false (.lst false (.cons (.lit (.int (0))) .nil)) (.bin .Sub (.glo "WIDTH" c_WIDTH) (.lit (.int (4))))) .nil))))))) .nil)
abbrev d_head_of : FD := ⟨("head_of", none), "head_of", "head_of", defArgs (top 19), defBody (top 19), defScope (top 19), ["epoch", "half", "first"], 3, b_head_of, false, false, []⟩
def b_told_by_1t : Cms := (.cons (.ret (.lit .non)) .nil)
def b_told_by_2 : Cms := (.cons (.ret (.tup (.cons (.var 1) (.cons (.var 2) (.cons (.var 3) .nil))))) .nil)
def b_told_by_1 : Cms := (.cons (.ite (.or (.cmp .Eq (.var 1) (.lit (.int (0)))) (.or (.cmp .GtE (.var 2) (.glo "HALVES" c_HALVES)) (.or (.cmp .Eq (.var 3) (.lit (.int (0)))) (.cmp .NotEq (.var 0) (.call g_head_of (.cons (.var 1) (.cons (.var 2) (.cons (.var 3) .nil))) .nil))))) b_told_by_1t .nil) b_told_by_2)
def b_told_by : Cms := (.cons (.asg (.tup [1, 2, 3]) (.slc false (.var 0) (.some (.lit (.int (1)))) (.some (.lit (.int (4)))))) b_told_by_1)
abbrev d_told_by : FD := ⟨("told_by", none), "told_by", "told_by", defArgs (top 20), defBody (top 20), defScope (top 20), ["block", "epoch", "half", "first"], 1, b_told_by, false, false, []⟩
def b_holding_1t : Cms := (.cons (.ret (.glo "NO_HEAD" c_NO_HEAD)) .nil)
def b_holding_2 : Cms := (.cons (.ret (.ite (.cmp .Gt (.idx (.idx (.var 2) (.neg (.lit (.int (1))))) (.lit (.int (0)))) (.idx (.idx (.var 2) (.lit (.int (0)))) (.lit (.int (0))))) (.idx (.var 2) (.neg (.lit (.int (1))))) (.idx (.var 2) (.lit (.int (0)))))) .nil)
def b_holding_1 : Cms := (.cons (.ite (.cmp .Eq (.var 2) (.lst false .nil)) b_holding_1t .nil) b_holding_2)
def b_holding : Cms := (.cons (.asg (.name 2) (.comp false [("row", 3)] (.name 3) (.val (.tup (.cons (.call g_told_by (.cons (.var 0) .nil) .nil) (.cons (.call g_told_by (.cons (.var 1) .nil) .nil) .nil)))) (.cons (.cmp .IsNot (.var 3) (.lit .non)) .nil) (.var 3))) b_holding_1)
abbrev d_holding : FD := ⟨("holding", none), "holding", "holding", defArgs (top 21), defBody (top 21), defScope (top 21), ["one", "other", "told", "row"], 2, b_holding, false, false, []⟩
def b_head_block_3 : Cms := (.cons (.ret (.call g_head_of (.cons (.var 0) (.cons (.var 1) (.cons (.var 2) .nil))) .nil)) .nil)
def b_head_block_2 : Cms := (.cons (.exp (.call g_need_number (.cons (.var 2) (.cons (.lit (.str (T [102, 105, 114, 115, 116]))) (.cons (.lit (.int (1))) (.cons (.glo "MOST_NUMBER" c_MOST_NUMBER) .nil)))) .nil)) b_head_block_3)
def b_head_block_1 : Cms := (.cons (.exp (.call g_need_number (.cons (.var 1) (.cons (.lit (.str (T [104, 97, 108, 102]))) (.cons (.lit (.int (0))) (.cons (.bin .Sub (.glo "HALVES" c_HALVES) (.lit (.int (1)))) .nil)))) .nil)) b_head_block_2)
def b_head_block : Cms := (.cons (.exp (.call g_need_number (.cons (.var 0) (.cons (.lit (.str (T [101, 112, 111, 99, 104]))) (.cons (.lit (.int (1))) (.cons (.glo "MOST_NUMBER" c_MOST_NUMBER) .nil)))) .nil)) b_head_block_1)
abbrev d_head_block : FD := ⟨("head_block", none), "head_block", "head_block", defArgs (top 22), defBody (top 22), defScope (top 22), ["epoch", "half", "first"], 3, b_head_block, false, false, []⟩
def b_read_heads_1 : Cms := (.cons (.ret (.call g_holding (.cons (.var 2) (.cons (.call g_need_block (.cons (.var 1) (.cons (.lit (.str (T [111, 116, 104, 101, 114]))) .nil)) .nil) .nil)) .nil)) .nil)
def b_read_heads : Cms := (.cons (.asg (.name 2) (.call g_need_block (.cons (.var 0) (.cons (.lit (.str (T [111, 110, 101]))) .nil)) .nil)) b_read_heads_1)
abbrev d_read_heads : FD := ⟨("read_heads", none), "read_heads", "read_heads", defArgs (top 23), defBody (top 23), defScope (top 23), ["one", "other", "row"], 2, b_read_heads, false, false, []⟩
def b__law_prow : Cms := (.cons (.ret (.lst true (.cons (.comp false [("_law_cell", 1)] (.name 1) (.val (.slc false (.var 0) .no (.some (.lit (.int (57)))))) .nil (.blt .int false (.cons (.var 1) .nil))) (.cons (.lit (.int (0))) (.cons (.lit (.int (0))) .nil))))) .nil)
abbrev d__law_prow : FD := ⟨("_law_prow", none), "_law_prow", "_law_prow", defArgs (top 25), defBody (top 25), defScope (top 25), ["_law_script", "_law_cell"], 1, b__law_prow, false, false, []⟩
def b__law_steer_0t_2 : Cms := (.cons (.ret (.bin .Mod (.blt .int false (.cons (.var 5) .nil)) (.var 1))) .nil)
def b__law_steer_0t_1 : Cms := (.cons (.iset (.var 0) (.lit (.int (2))) (.bin .FloorDiv (.var 5) (.var 1))) b__law_steer_0t_2)
def b__law_steer_0t : Cms := (.cons (.asg (.name 5) (.blt .int false (.cons (.idx (.var 0) (.lit (.int (2)))) .nil))) b__law_steer_0t_1)
def b__law_steer_3t : Cms := (.cons (.ret (.lit (.int (0)))) .nil)
def b__law_steer_5t_2 : Cms := (.cons (.ret (.bin .Mod (.blt .int false (.cons (.var 5) .nil)) (.var 1))) .nil)
def b__law_steer_5t_1 : Cms := (.cons (.iset (.var 0) (.lit (.int (2))) (.bin .FloorDiv (.var 5) (.var 1))) b__law_steer_5t_2)
def b__law_steer_5t : Cms := (.cons (.asg (.name 5) (.bin .Add (.bin .Mult (.lit (.int (2))) (.bin .Sub (.blt .abs false (.cons (.blt .int false (.cons (.var 3) .nil)) .nil)) (.bin .Pow (.lit (.int (10))) (.lit (.int (18)))))) (.blt .int false (.cons (.cmp .Lt (.var 3) (.lit (.int (0)))) .nil)))) b__law_steer_5t_1)
def b__law_steer_8 : Cms := (.cons (.ret (.bin .Mod (.blt .int false (.cons (.bin .FloorDiv (.var 4) (.lit (.int (64)))) .nil)) (.var 1))) .nil)
def b__law_steer_7 : Cms := (.cons (.asg (.name 4) (.bin .Mod (.blt .int false (.cons (.bin .Pow (.bin .Add (.cat false (.rep false (.var 4) (.bin .Add (.bin .Mult (.lit (.int (2))) (.var 2)) (.lit (.int (6427))))) (.rep false (.bin .Mult (.lit (.int (33013))) (.var 2)) (.var 2))) (.lit (.int (51407)))) (.lit (.int (3)))) .nil)) (.lit (.int (2147483399))))) b__law_steer_8)
def b__law_steer_6 : Cms := (.cons (.asg (.name 4) (.bin .Mod (.blt .int false (.cons (.bin .Pow (.bin .Add (.bin .Add (.bin .Mod (.blt .int false (.cons (.var 3) .nil)) (.lit (.int (2147483477)))) (.bin .Mult (.lit (.int (51361))) (.var 2))) (.lit (.int (6421)))) (.lit (.int (5)))) .nil)) (.lit (.int (2147483423))))) b__law_steer_7)
def b__law_steer_5 : Cms := (.cons (.ite (.and (.cmp .Lt (.var 2) (.blt .len false (.cons (.idx (.var 0) (.lit (.int (0)))) .nil))) (.cmp .GtE (.blt .abs false (.cons (.var 3) .nil)) (.bin .Pow (.lit (.int (10))) (.lit (.int (18)))))) b__law_steer_5t .nil) b__law_steer_6)
def b__law_steer_4 : Cms := (.cons (.asg (.name 3) (.idx (.idx (.var 0) (.lit (.int (0)))) (.bin .Mod (.blt .int false (.cons (.var 2) .nil)) (.blt .len false (.cons (.idx (.var 0) (.lit (.int (0)))) .nil))))) b__law_steer_5)
def b__law_steer_3 : Cms := (.cons (.ite (.cmp .Eq (.idx (.var 0) (.lit (.int (0)))) (.lst false .nil)) b__law_steer_3t .nil) b__law_steer_4)
def b__law_steer_2 : Cms := (.cons (.iset (.var 0) (.lit (.int (1))) (.bin .Add (.var 2) (.lit (.int (1))))) b__law_steer_3)
def b__law_steer_1 : Cms := (.cons (.asg (.name 2) (.idx (.var 0) (.lit (.int (1))))) b__law_steer_2)
def b__law_steer : Cms := (.cons (.ite (.cmp .Gt (.idx (.var 0) (.lit (.int (2)))) (.lit (.int (0)))) b__law_steer_0t .nil) b__law_steer_1)
abbrev d__law_steer : FD := ⟨("_law_steer", none), "_law_steer", "_law_steer", defArgs (top 26), defBody (top 26), defScope (top 26), ["_law_prow_here", "_law_many", "_law_turn", "_law_cell", "_law_mixed", "_law_rest"], 2, b__law_steer, false, false, []⟩
def b__law_pick : Cms := (.cons (.ret (.idx (.var 1) (.call g__law_steer (.cons (.var 0) (.cons (.blt .len false (.cons (.var 1) .nil)) .nil)) .nil))) .nil)
abbrev d__law_pick : FD := ⟨("_law_pick", none), "_law_pick", "_law_pick", defArgs (top 27), defBody (top 27), defScope (top 27), ["_law_prow_here", "_law_some"], 2, b__law_pick, false, false, []⟩
def b__law_head_0t : Cms := (.cons (.ret (.lit .non)) .nil)
def b__law_head_1 : Cms := (.cons (.ret (.blt .tuple false (.cons (.slc false (.var 0) (.some (.lit (.int (1)))) (.some (.lit (.int (4))))) .nil))) .nil)
def b__law_head : Cms := (.cons (.ite (.or (.cmp .NotEq (.idx (.var 0) (.lit (.int (0)))) (.lit (.int (7)))) (.or (.cmp .Lt (.idx (.var 0) (.lit (.int (1)))) (.lit (.int (1)))) (.or (.cmp .Gt (.idx (.var 0) (.lit (.int (2)))) (.lit (.int (1)))) (.or (.cmp .Lt (.idx (.var 0) (.lit (.int (3)))) (.lit (.int (1)))) (.cmp .NotEq (.blt .list false (.cons (.slc false (.var 0) (.some (.lit (.int (4)))) .no) .nil)) (.rep false (.lst false (.cons (.lit (.int (0))) .nil)) (.lit (.int (12))))))))) b__law_head_0t .nil) b__law_head_1)
abbrev d__law_head : FD := ⟨("_law_head", none), "_law_head", "_law_head", defArgs (top 28), defBody (top 28), defScope (top 28), ["_law_block_here"], 1, b__law_head, false, false, []⟩
def b__law_told_1 : Cms := (.cons (.ret (.tup (.cons (.var 1) (.cons (.call g__law_steer (.cons (.var 0) (.cons (.lit (.int (2))) .nil)) .nil) (.cons (.call g__law_pick (.cons (.var 0) (.cons (.lst false (.cons (.lit (.int (1))) (.cons (.lit (.int (65535))) (.cons (.bin .Add (.lit (.int (1))) (.call g__law_steer (.cons (.var 0) (.cons (.lit (.int (65535))) .nil)) .nil)) .nil)))) .nil)) .nil) .nil))))) .nil)
def b__law_told : Cms := (.cons (.asg (.name 1) (.call g__law_pick (.cons (.var 0) (.cons (.lst false (.cons (.lit (.int (1))) (.cons (.lit (.int (2))) (.cons (.lit (.int (65535))) (.cons (.bin .Add (.lit (.int (1))) (.call g__law_steer (.cons (.var 0) (.cons (.lit (.int (65535))) .nil)) .nil)) .nil))))) .nil)) .nil)) b__law_told_1)
abbrev d__law_told : FD := ⟨("_law_told", none), "_law_told", "_law_told", defArgs (top 29), defBody (top 29), defScope (top 29), ["_law_prow_here", "_law_epoch"], 1, b__law_told, false, false, []⟩
def b__law_block_2t : Cms := (.cons (.iset (.var 4) (.var 6) (.call g__law_pick (.cons (.var 0) (.cons (.lst false (.cons (.lit (.int (0))) (.cons (.lit (.int (1))) (.cons (.lit (.int (2))) (.cons (.lit (.int (7))) (.cons (.lit (.int (65535))) (.cons (.bin .Add (.idx (.var 4) (.var 6)) (.blt .int false (.cons (.cmp .Lt (.idx (.var 4) (.var 6)) (.lit (.int (65535)))) .nil))) .nil))))))) .nil)) .nil)) .nil)
def b__law_block_3t : Cms := (.cons (.asg (.name 4) (.call g__law_pick (.cons (.var 0) (.cons (.lst false (.cons (.rep true (.lst false (.cons (.lit (.int (0))) .nil)) (.lit (.int (16)))) (.cons (.rep true (.lst false (.cons (.lit (.int (7))) .nil)) (.lit (.int (16)))) (.cons (.rep true (.lst false (.cons (.var 1) .nil)) (.lit (.int (16)))) .nil)))) .nil)) .nil)) .nil)
def b__law_block_4 : Cms := (.cons (.ret (.var 4)) .nil)
def b__law_block_3 : Cms := (.cons (.ite (.cmp .Eq (.var 5) (.lit (.int (2)))) b__law_block_3t .nil) b__law_block_4)
def b__law_block_2 : Cms := (.cons (.ite (.cmp .Eq (.var 5) (.lit (.int (1)))) b__law_block_2t .nil) b__law_block_3)
def b__law_block_1 : Cms := (.cons (.asg (.tup [4, 5, 6]) (.tup (.cons (.cat true (.lst false (.cons (.lit (.int (7))) (.cons (.var 1) (.cons (.var 2) (.cons (.var 3) .nil))))) (.rep false (.lst false (.cons (.lit (.int (0))) .nil)) (.lit (.int (12))))) (.cons (.call g__law_steer (.cons (.var 0) (.cons (.lit (.int (4))) .nil)) .nil) (.cons (.call g__law_steer (.cons (.var 0) (.cons (.lit (.int (16))) .nil)) .nil) .nil))))) b__law_block_2)
def b__law_block : Cms := (.cons (.asg (.tup [1, 2, 3]) (.call g__law_told (.cons (.var 0) .nil) .nil)) b__law_block_1)
abbrev d__law_block : FD := ⟨("_law_block", none), "_law_block", "_law_block", defArgs (top 30), defBody (top 30), defScope (top 30), ["_law_prow_here", "_law_epoch", "_law_half", "_law_first", "_law_block_here", "_law_way", "_law_spot"], 1, b__law_block, false, false, []⟩
def b__law_due_1f_0t : Cms := (.cons (.asg (.name 2) (.var 3)) .nil)
def b__law_due_1f : Cms := (.cons (.ite (.and (.cmp .IsNot (.var 3) (.lit .non)) (.cmp .Gt (.idx (.var 3) (.lit (.int (0)))) (.idx (.var 2) (.lit (.int (0)))))) b__law_due_1f_0t .nil) .nil)
def b__law_due_2 : Cms := (.cons (.ret (.var 2)) .nil)
def b__law_due_1 : Cms := (.cons (.forS (.name 3) (.val (.tup (.cons (.call g__law_head (.cons (.var 0) .nil) .nil) (.cons (.call g__law_head (.cons (.var 1) .nil) .nil) .nil)))) b__law_due_1f) b__law_due_2)
def b__law_due : Cms := (.cons (.asg (.name 2) (.tup (.cons (.lit (.int (0))) (.cons (.lit (.int (0))) (.cons (.lit (.int (1))) .nil))))) b__law_due_1)
abbrev d__law_due : FD := ⟨("_law_due", none), "_law_due", "_law_due", defArgs (top 31), defBody (top 31), defScope (top 31), ["_law_one", "_law_other", "_law_found", "_law_told_here"], 2, b__law_due, false, false, []⟩
def b__law_heard_1b : Cms := (.cons (.exp .ask) .nil)
def b__law_heard_1x_1t : Cms := (.cons (.asg (.name 1) (.tup (.cons (.ite (.blt .isi false (.cons (.var 2) (.cons (.clsv "BadNumber" 3) .nil))) (.lit (.str (T [110, 117, 109, 98, 101, 114]))) (.lit (.str (T [98, 108, 111, 99, 107])))) (.cons (.att (.var 2) "part") .nil)))) .nil)
def b__law_heard_1x_1 : Cms := (.cons (.ite (.blt .isi false (.cons (.var 2) (.cons (.tup (.cons (.clsv "BadNumber" 3) (.cons (.clsv "BadBlock" 5) .nil))) .nil))) b__law_heard_1x_1t .nil) .nil)
def b__law_heard_1x : Cms := (.cons (.asg (.name 1) (.tup (.cons (.lit (.str (T [111, 116, 104, 101, 114]))) (.cons (.lit .non) .nil)))) b__law_heard_1x_1)
def b__law_heard_2 : Cms := (.cons (.ret (.var 1)) .nil)
def b__law_heard_1 : Cms := (.cons (.tryE "MeetError" 1 (some 2) b__law_heard_1b b__law_heard_1x) b__law_heard_2)
def b__law_heard : Cms := (.cons (.asg (.name 1) (.lit .non)) b__law_heard_1)
abbrev d__law_heard : FD := ⟨("_law_heard", none), "_law_heard", "_law_heard", defArgs (top 32), defBody (top 32), defScope (top 32), ["_law_ask", "_law_heard_here", "error"], 1, b__law_heard, false, true, []⟩
def b__law_refused_right_4 : Cms := (.cons (.ret (.cmp .Eq (.var 1) (.lst false (.cons (.tup (.cons (.lit (.str (T [110, 117, 109, 98, 101, 114]))) (.cons (.lit (.str (T [101, 112, 111, 99, 104]))) .nil))) (.cons (.tup (.cons (.lit (.str (T [110, 117, 109, 98, 101, 114]))) (.cons (.lit (.str (T [104, 97, 108, 102]))) .nil))) (.cons (.tup (.cons (.lit (.str (T [110, 117, 109, 98, 101, 114]))) (.cons (.lit (.str (T [102, 105, 114, 115, 116]))) .nil))) (.cons (.tup (.cons (.lit (.str (T [98, 108, 111, 99, 107]))) (.cons (.lit (.str (T [111, 110, 101]))) .nil))) (.cons (.tup (.cons (.lit (.str (T [98, 108, 111, 99, 107]))) (.cons (.lit (.str (T [111, 116, 104, 101, 114]))) .nil))) (.cons (.lit .non) .nil))))))))) .nil)
def b__law_refused_right_3 : Cms := (.cons (.asg (.name 1) (.cat false (.var 1) (.lst false (.cons (.lam 19 (.call g_read_heads (.cons (.var 5) (.cons (.var 5) .nil)) .nil)) (.cons (.lam 19 (.call g_read_heads (.cons (.var 6) (.cons (.var 5) .nil)) .nil)) (.cons (.lam 19 (.call g_read_heads (.cons (.var 6) (.cons (.var 6) .nil)) .nil)) .nil)))))) b__law_refused_right_4)
def b__law_refused_right_2 : Cms := (.cons (.asg (.name 1) (.lst false (.cons (.lam 19 (.call g_head_block (.cons (.var 2) (.cons (.var 3) (.cons (.var 4) .nil))) .nil)) (.cons (.lam 19 (.call g_head_block (.cons (.lit (.int (1))) (.cons (.var 3) (.cons (.var 4) .nil))) .nil)) (.cons (.lam 19 (.call g_head_block (.cons (.lit (.int (1))) (.cons (.lit (.int (0))) (.cons (.var 4) .nil))) .nil)) .nil))))) b__law_refused_right_3)
def b__law_refused_right_1 : Cms := (.cons (.asg (.tup [5, 6]) (.tup (.cons (.call g__law_pick (.cons (.var 0) (.cons (.lst false (.cons (.lit .non) (.cons (.lit (.int (5))) (.cons (.rep false (.lst false (.cons (.lit (.int (0))) .nil)) (.lit (.int (15)))) (.cons (.rep false (.lst false (.cons (.lit (.int (0))) .nil)) (.lit (.int (17)))) (.cons (.cat false (.lst false (.cons (.lit (.int (65536))) .nil)) (.rep false (.lst false (.cons (.lit (.int (0))) .nil)) (.lit (.int (15))))) (.cons (.cat false (.lst false (.cons (.lit (.bl true)) .nil)) (.rep false (.lst false (.cons (.lit (.int (0))) .nil)) (.lit (.int (15))))) (.cons (.rep false (.lit (.str (T [48]))) (.lit (.int (16)))) .nil)))))))) .nil)) .nil) (.cons (.rep false (.lst false (.cons (.lit (.int (0))) .nil)) (.lit (.int (16)))) .nil)))) b__law_refused_right_2)
def b__law_refused_right : Cms := (.cons (.asg (.tup [2, 3, 4]) (.tup (.cons (.call g__law_pick (.cons (.var 0) (.cons (.lst false (.cons (.lit (.int (0))) (.cons (.lit (.int (65536))) (.cons (.lit .non) (.cons (.lit (.bl true)) (.cons (.lit (.str (T [49]))) .nil)))))) .nil)) .nil) (.cons (.call g__law_pick (.cons (.var 0) (.cons (.lst false (.cons (.lit (.int (2))) (.cons (.neg (.lit (.int (1)))) (.cons (.lit .non) (.cons (.lit (.bl true)) (.cons (.lit (.bl false)) (.cons (.lit (.str (T [48]))) .nil))))))) .nil)) .nil) (.cons (.call g__law_pick (.cons (.var 0) (.cons (.lst false (.cons (.lit (.int (0))) (.cons (.lit (.int (65536))) (.cons (.lit .non) (.cons (.lit (.bl true)) (.cons (.lst false (.cons (.lit (.int (1))) .nil)) .nil)))))) .nil)) .nil) .nil))))) b__law_refused_right_1)
abbrev d__law_refused_right : FD := ⟨("_law_refused_right", none), "_law_refused_right", "_law_refused_right", defArgs (top 33), defBody (top 33), defScope (top 33), ["_law_prow_here", "_law_heard_here", "_law_epoch", "_law_half", "_law_first", "_law_odd", "_law_good"], 1, b__law_refused_right, true, false, []⟩
def b_law_1f_2t : Cms := (.cons (.ret (.lit (.bl false))) .nil)
def b_law_1f_4t : Cms := (.cons (.iset (.var 9) (.lit (.int (1))) (.idx (.var 8) (.lit (.int (1))))) .nil)
def b_law_1f_6t : Cms := (.cons (.ret (.lit (.bl false))) .nil)
def b_law_1f_7t : Cms := (.cons (.ret (.lit (.bl false))) .nil)
def b_law_1f_7 : Cms := (.cons (.ite (.cmp .NotEq (.call g_read_heads_0_other_one .nil (.cons (.var 9) (.cons (.var 8) .nil))) (.call g__law_due (.cons (.var 8) (.cons (.var 9) .nil)) .nil)) b_law_1f_7t .nil) .nil)
def b_law_1f_6 : Cms := (.cons (.ite (.or (.cmp .NotEq (.blt .repr false (.cons (.call g_read_heads (.cons (.idx (.var 4) (.lit (.int (0)))) (.cons (.idx (.var 4) (.lit (.int (1)))) .nil)) .nil) .nil)) (.blt .repr false (.cons (.call g__law_due (.cons (.var 8) (.cons (.var 9) .nil)) .nil) .nil))) (.cmp .NotEq (.var 4) (.lst false (.cons (.var 8) (.cons (.blt .tuple false (.cons (.var 9) .nil)) .nil))))) b_law_1f_6t .nil) b_law_1f_7)
def b_law_1f_5 : Cms := (.cons (.asg (.name 4) (.lst false (.cons (.blt .list false (.cons (.var 8) .nil)) (.cons (.blt .tuple false (.cons (.var 9) .nil)) .nil)))) b_law_1f_6)
def b_law_1f_4 : Cms := (.cons (.ite (.cmp .Eq (.call g__law_steer (.cons (.var 1) (.cons (.lit (.int (3))) .nil)) .nil) (.lit (.int (1)))) b_law_1f_4t .nil) (.fix 9 (.fix 8 b_law_1f_5)))
def b_law_1f_3 : Cms := (.cons (.asg (.tup [8, 9]) (.tup (.cons (.call g__law_block (.cons (.var 1) .nil) .nil) (.cons (.call g__law_block (.cons (.var 1) .nil) .nil) .nil)))) b_law_1f_4)
def b_law_1f_2 : Cms := (.cons (.ite (.or (.cmp .NotEq (.blt .repr false (.cons (.var 3) .nil)) (.blt .repr false (.cons (.cat false (.tup (.cons (.lit (.int (7))) (.cons (.var 5) (.cons (.var 6) (.cons (.var 7) .nil))))) (.rep false (.tup (.cons (.lit (.int (0))) .nil)) (.lit (.int (12))))) .nil))) (.cmp .NotEq (.call g_head_block_0_first_half_epoch .nil (.cons (.var 7) (.cons (.var 6) (.cons (.var 5) .nil)))) (.var 3))) b_law_1f_2t .nil) b_law_1f_3)
def b_law_1f_1 : Cms := (.cons (.asg (.name 3) (.call g_head_block (.cons (.var 5) (.cons (.var 6) (.cons (.var 7) .nil))) .nil)) b_law_1f_2)
def b_law_1f : Cms := (.cons (.asg (.tup [5, 6, 7]) (.call g__law_told (.cons (.var 1) .nil) .nil)) b_law_1f_1)
def b_law_2 : Cms := (.cons (.ret (.call g__law_refused_right (.cons (.var 1) .nil) .nil)) .nil)
def b_law_1 : Cms := (.cons (.forS (.name 2) (.rng (.lit (.int (8)))) b_law_1f) b_law_2)
def b_law : Cms := (.cons (.asg (.name 1) (.call g__law_prow (.cons (.var 0) .nil) .nil)) b_law_1)
abbrev d_law : FD := ⟨("law", none), "law", "law", defArgs (top 34), defBody (top 34), defScope (top 34), ["_law_script", "_law_prow_here", "_law_turn", "_law_told_here", "_law_passed", "_law_epoch", "_law_half", "_law_first", "_law_one", "_law_other"], 1, b_law, false, false, []⟩
def P : Pg := [d_is_integer, d_is_within, d_are_integers, d_is_numbers, d_need_number, d_is_block, d_need_block, d_head_of, d_told_by, d_holding, d_head_block, d_read_heads, d__law_prow, d__law_steer, d__law_pick, d__law_head, d__law_told, d__law_block, d__law_due, d__law_heard, d__law_refused_right, d_law]
def ps : PS' := ⟨P, ["abs", "all", "bool", "int", "isinstance", "len", "list", "range", "repr", "super", "tuple"], [("MOST_NUMBER", c_MOST_NUMBER), ("WIDTH", c_WIDTH), ("MARK", c_MARK), ("HALVES", c_HALVES), ("NO_HEAD", c_NO_HEAD)], [("BadNumber", 3), ("BadBlock", 5)], [(0, "is_integer"), (1, "is_within"), (2, "are_integers"), (3, "is_numbers"), (4, "need_number"), (5, "is_block"), (6, "need_block"), (7, "head_of"), (8, "told_by"), (9, "holding"), (10, "head_block"), (11, "read_heads"), (12, "_law_prow"), (13, "_law_steer"), (14, "_law_pick"), (15, "_law_head"), (16, "_law_told"), (17, "_law_block"), (18, "_law_due"), (19, "_law_heard"), (20, "_law_refused_right"), (21, "law")], [g_is_integer, g_are_integers, g_is_within, g_is_numbers, g_is_block, g_head_of, g_told_by, g_need_number, g_need_block, g_holding, g__law_steer, g__law_pick, g__law_told, g__law_head, g__law_heard, g_head_block, g_read_heads, g__law_prow, g_head_block_0_first_half_epoch, g__law_block, g__law_due, g_read_heads_0_other_one, g__law_refused_right], [("BadNumber", 3, 1, [("part", 0)]), ("BadBlock", 5, 1, [("part", 0)])], ["part"], [("MeetError", 1)], PySem.Challenge.pw_meettrees_k10_heads_that_hold.main.file, [(19, "_law_heard")]⟩
def cn : CN := ⟨["MeetError", "BadNumber", "BadBlock"], [3, 5], [1, 3, 5]⟩
theorem sb_0 : SigB d_is_integer g_is_integer := fun kV doc pm an cdv ct us ws h1 h2 => match us, ws, h1, h2 with
  | [u0], [], _, _ => ⟨fun _ => ⟨_, rfl, rfl⟩, fun h => absurd rfl h⟩
theorem sb_1 : SigB d_are_integers g_are_integers := fun kV doc pm an cdv ct us ws h1 h2 => match us, ws, h1, h2 with
  | [u0], [], _, _ => ⟨fun _ => ⟨_, rfl, rfl⟩, fun h => absurd rfl h⟩
theorem sb_2 : SigB d_is_within g_is_within := fun kV doc pm an cdv ct us ws h1 h2 => match us, ws, h1, h2 with
  | [u0, u1, u2], [], _, _ => ⟨fun _ => ⟨_, rfl, rfl⟩, fun h => absurd rfl h⟩
theorem sb_3 : SigB d_is_numbers g_is_numbers := fun kV doc pm an cdv ct us ws h1 h2 => match us, ws, h1, h2 with
  | [u0, u1, u2], [], _, _ => ⟨fun _ => ⟨_, rfl, rfl⟩, fun h => absurd rfl h⟩
theorem sb_4 : SigB d_is_block g_is_block := fun kV doc pm an cdv ct us ws h1 h2 => match us, ws, h1, h2 with
  | [u0], [], _, _ => ⟨fun _ => ⟨_, rfl, rfl⟩, fun h => absurd rfl h⟩
theorem sb_5 : SigB d_head_of g_head_of := fun kV doc pm an cdv ct us ws h1 h2 => match us, ws, h1, h2 with
  | [u0, u1, u2], [], _, _ => ⟨fun _ => ⟨_, rfl, rfl⟩, fun h => absurd rfl h⟩
theorem sb_6 : SigB d_told_by g_told_by := fun kV doc pm an cdv ct us ws h1 h2 => match us, ws, h1, h2 with
  | [u0], [], _, _ => ⟨fun _ => ⟨_, rfl, rfl⟩, fun h => absurd rfl h⟩
theorem sb_7 : SigB d_need_number g_need_number := fun kV doc pm an cdv ct us ws h1 h2 => match us, ws, h1, h2 with
  | [u0, u1, u2, u3], [], _, _ => ⟨fun _ => ⟨_, rfl, rfl⟩, fun h => absurd rfl h⟩
theorem sb_8 : SigB d_need_block g_need_block := fun kV doc pm an cdv ct us ws h1 h2 => match us, ws, h1, h2 with
  | [u0, u1], [], _, _ => ⟨(fun h => by cases h), fun _ t its hl => match its, hl with | [t0], _ => ⟨_, _, rfl, rfl, rfl⟩⟩
theorem sb_9 : SigB d_holding g_holding := fun kV doc pm an cdv ct us ws h1 h2 => match us, ws, h1, h2 with
  | [u0, u1], [], _, _ => ⟨fun _ => ⟨_, rfl, rfl⟩, fun h => absurd rfl h⟩
theorem sb_10 : SigB d__law_steer g__law_steer := fun kV doc pm an cdv ct us ws h1 h2 => match us, ws, h1, h2 with
  | [u0, u1], [], _, _ => ⟨fun _ => ⟨_, rfl, rfl⟩, fun h => absurd rfl h⟩
theorem sb_11 : SigB d__law_pick g__law_pick := fun kV doc pm an cdv ct us ws h1 h2 => match us, ws, h1, h2 with
  | [u0, u1], [], _, _ => ⟨fun _ => ⟨_, rfl, rfl⟩, fun h => absurd rfl h⟩
theorem sb_12 : SigB d__law_told g__law_told := fun kV doc pm an cdv ct us ws h1 h2 => match us, ws, h1, h2 with
  | [u0], [], _, _ => ⟨fun _ => ⟨_, rfl, rfl⟩, fun h => absurd rfl h⟩
theorem sb_13 : SigB d__law_head g__law_head := fun kV doc pm an cdv ct us ws h1 h2 => match us, ws, h1, h2 with
  | [u0], [], _, _ => ⟨fun _ => ⟨_, rfl, rfl⟩, fun h => absurd rfl h⟩
theorem sb_14 : SigB d__law_heard g__law_heard := fun kV doc pm an cdv ct us ws h1 h2 => match us, ws, h1, h2 with
  | [u0], [], _, _ => ⟨fun _ => ⟨_, rfl, rfl⟩, fun h => absurd rfl h⟩
theorem sb_15 : SigB d_head_block g_head_block := fun kV doc pm an cdv ct us ws h1 h2 => match us, ws, h1, h2 with
  | [u0, u1, u2], [], _, _ => ⟨fun _ => ⟨_, rfl, rfl⟩, fun h => absurd rfl h⟩
theorem sb_16 : SigB d_read_heads g_read_heads := fun kV doc pm an cdv ct us ws h1 h2 => match us, ws, h1, h2 with
  | [u0, u1], [], _, _ => ⟨fun _ => ⟨_, rfl, rfl⟩, fun h => absurd rfl h⟩
theorem sb_17 : SigB d__law_prow g__law_prow := fun kV doc pm an cdv ct us ws h1 h2 => match us, ws, h1, h2 with
  | [u0], [], _, _ => ⟨fun _ => ⟨_, rfl, rfl⟩, fun h => absurd rfl h⟩
theorem sb_18 : SigB d_head_block g_head_block_0_first_half_epoch := fun kV doc pm an cdv ct us ws h1 h2 => match us, ws, h1, h2 with
  | [], [w0, w1, w2], _, _ => ⟨fun _ => ⟨_, rfl, rfl⟩, fun h => absurd rfl h⟩
theorem sb_19 : SigB d__law_block g__law_block := fun kV doc pm an cdv ct us ws h1 h2 => match us, ws, h1, h2 with
  | [u0], [], _, _ => ⟨fun _ => ⟨_, rfl, rfl⟩, fun h => absurd rfl h⟩
theorem sb_20 : SigB d__law_due g__law_due := fun kV doc pm an cdv ct us ws h1 h2 => match us, ws, h1, h2 with
  | [u0, u1], [], _, _ => ⟨fun _ => ⟨_, rfl, rfl⟩, fun h => absurd rfl h⟩
theorem sb_21 : SigB d_read_heads g_read_heads_0_other_one := fun kV doc pm an cdv ct us ws h1 h2 => match us, ws, h1, h2 with
  | [], [w0, w1], _, _ => ⟨fun _ => ⟨_, rfl, rfl⟩, fun h => absurd rfl h⟩
theorem sb_22 : SigB d__law_refused_right g__law_refused_right := fun kV doc pm an cdv ct us ws h1 h2 => match us, ws, h1, h2 with
  | [u0], [], _, _ => ⟨fun _ => ⟨_, rfl, rfl⟩, fun h => absurd rfl h⟩
theorem sigs_ok : ∀ c ∈ ps.sigs, ∀ fd, ps.P[c.f]? = some fd → SigO fd c := by
  intro c hc fd hf
  have hc : c ∈ [g_is_integer, g_are_integers, g_is_within, g_is_numbers, g_is_block, g_head_of, g_told_by, g_need_number, g_need_block, g_holding, g__law_steer, g__law_pick, g__law_told, g__law_head, g__law_heard, g_head_block, g_read_heads, g__law_prow, g_head_block_0_first_half_epoch, g__law_block, g__law_due, g_read_heads_0_other_one, g__law_refused_right] := hc
  simp only [List.mem_cons, List.not_mem_nil, or_false] at hc
  rcases hc with rfl | rfl | rfl | rfl | rfl | rfl | rfl | rfl | rfl | rfl | rfl | rfl | rfl | rfl | rfl | rfl | rfl | rfl | rfl | rfl | rfl | rfl | rfl
  · cases hf; exact ⟨sb_0, rfl, by decide +kernel⟩
  · cases hf; exact ⟨sb_1, rfl, by decide +kernel⟩
  · cases hf; exact ⟨sb_2, rfl, by decide +kernel⟩
  · cases hf; exact ⟨sb_3, rfl, by decide +kernel⟩
  · cases hf; exact ⟨sb_4, rfl, by decide +kernel⟩
  · cases hf; exact ⟨sb_5, rfl, by decide +kernel⟩
  · cases hf; exact ⟨sb_6, rfl, by decide +kernel⟩
  · cases hf; exact ⟨sb_7, rfl, by decide +kernel⟩
  · cases hf; exact ⟨sb_8, rfl, by decide +kernel⟩
  · cases hf; exact ⟨sb_9, rfl, by decide +kernel⟩
  · cases hf; exact ⟨sb_10, rfl, by decide +kernel⟩
  · cases hf; exact ⟨sb_11, rfl, by decide +kernel⟩
  · cases hf; exact ⟨sb_12, rfl, by decide +kernel⟩
  · cases hf; exact ⟨sb_13, rfl, by decide +kernel⟩
  · cases hf; exact ⟨sb_14, rfl, by decide +kernel⟩
  · cases hf; exact ⟨sb_15, rfl, by decide +kernel⟩
  · cases hf; exact ⟨sb_16, rfl, by decide +kernel⟩
  · cases hf; exact ⟨sb_17, rfl, by decide +kernel⟩
  · cases hf; exact ⟨sb_18, rfl, by decide +kernel⟩
  · cases hf; exact ⟨sb_19, rfl, by decide +kernel⟩
  · cases hf; exact ⟨sb_20, rfl, by decide +kernel⟩
  · cases hf; exact ⟨sb_21, rfl, by decide +kernel⟩
  · cases hf; exact ⟨sb_22, rfl, by decide +kernel⟩
theorem text_ok : pgB ps cn = true := by decide +kernel
end LW
set_option maxHeartbeats 2000000
/-! PD19: plain words about what runs -/
namespace PD
open PySem PySem.Spec L2
abbrev QD := D → Store → Prop
abbrev XD := Exn → Store → Prop
def Wp (o : EOut) (Q : QD) (E : XD) : Prop := match o with
  | .ok d S => Q d S
  | .exc x S => E x S
  | .stuck => False
def Wps (o : LOut) (Q : List D → Store → Prop) (E : XD) : Prop := match o with
  | .ok d S => Q d S
  | .exc x S => E x S
  | .stuck => False
/-- the ends of statements -/
structure En where
  nx : Env' → Store → Prop := fun _ _ => False
  rt : QD := fun _ _ => False
  bk : Env' → Store → Prop := fun _ _ => False
  ct : Env' → Store → Prop := fun _ _ => False
  ex : Exn → Env' → Store → Prop := fun _ _ _ => False
def Ws (o : SOut) (N : En) : Prop := match o with
  | .nx ρ S => N.nx ρ S
  | .rt d _ S => N.rt d S
  | .bk ρ S => N.bk ρ S
  | .ct ρ S => N.ct ρ S
  | .exc x ρ S => N.ex x ρ S
  | .stuck => False
def noX : XD := fun _ _ => False
section
variable {o : EOut} {Q Q' : QD} {E E' : XD} {d x y : D} {S : Store} {cf : CallF} {ρ : Env'} {N : En}
theorem Wp.mono (h : Wp o Q E) (k : ∀ d S, Q d S → Q' d S) (k' : ∀ x S, E x S → E' x S) : Wp o Q' E' := by
  cases o with
  | ok d S => exact k _ _ h
  | exc x S => exact k' _ _ h
  | stuck => exact h
theorem Wp.imp (h : Wp o Q noX) (k : ∀ d S, Q d S → Q' d S) : Wp o Q' E := h.mono k fun _ _ z => z.elim
theorem Ws.mono {o : SOut} {M : En} (h : Ws o N) (k1 : ∀ ρ S, N.nx ρ S → M.nx ρ S) (k2 : ∀ d S, N.rt d S → M.rt d S) (k3 : ∀ ρ S, N.bk ρ S → M.bk ρ S) (k4 : ∀ ρ S, N.ct ρ S → M.ct ρ S) (k5 : ∀ x ρ S, N.ex x ρ S → M.ex x ρ S) : Ws o M := by
  cases o with
  | nx ρ S => exact k1 _ _ h
  | rt d ρ S => exact k2 _ _ h
  | bk ρ S => exact k3 _ _ h
  | ct ρ S => exact k4 _ _ h
  | exc x ρ S => exact k5 _ _ _ h
  | stuck => exact h
theorem wp_ok : Wp (.ok d S) Q E = Q d S := id rfl
theorem wp_exc {x : Exn} : Wp (.exc x S) Q E = E x S := id rfl
theorem wp_stuck : Wp .stuck Q E = False := id rfl
theorem wps_ok {ds : List D} {Q : List D → Store → Prop} : Wps (.ok ds S) Q E = Q ds S := id rfl
theorem wps_stuck {Q : List D → Store → Prop} : Wps .stuck Q E = False := id rfl
theorem wps_exc {x : Exn} {Q : List D → Store → Prop} : Wps (.exc x S) Q E = E x S := id rfl
theorem wp_bind {f : D → Store → EOut} : Wp (o.bind f) Q E = Wp o (fun d S => Wp (f d S) Q E) E := by cases o <;> rfl
theorem wp_bindl {o : LOut} {f : List D → Store → EOut} : Wp (o.bind f) Q E = Wps o (fun d S => Wp (f d S) Q E) E := by cases o <;> rfl
theorem wps_bind {Q : List D → Store → Prop} {f : D → Store → LOut} : Wps (o.bindL f) Q E = Wp o (fun d S => Wps (f d S) Q E) E := by cases o <;> rfl
theorem wps_bindl {Q : List D → Store → Prop} {o : LOut} {f : List D → Store → LOut} : Wps (o.bindL f) Q E = Wps o (fun d S => Wps (f d S) Q E) E := by cases o <;> rfl
theorem ws_bind {f : D → Store → SOut} : Ws (o.bindS ρ f) N = Wp o (fun d S => Ws (f d S) N) (fun x S => N.ex x ρ S) := by cases o <;> rfl
theorem ws_bindl {o : LOut} {f : List D → Store → SOut} : Ws (o.bindS ρ f) N = Wps o (fun d S => Ws (f d S) N) (fun x S => N.ex x ρ S) := by cases o <;> rfl
theorem ws_seq {o : SOut} {f : Env' → Store → SOut} : Ws (o.seq f) N = Ws o { N with nx := fun ρ S => Ws (f ρ S) N } := by cases o <;> rfl
theorem ws_nx : Ws (.nx ρ S) N = N.nx ρ S := id rfl
theorem ws_rt : Ws (.rt d ρ S) N = N.rt d S := id rfl
theorem ws_bk : Ws (.bk ρ S) N = N.bk ρ S := id rfl
theorem ws_ct : Ws (.ct ρ S) N = N.ct ρ S := id rfl
theorem ws_stuck : Ws .stuck N = False := id rfl
/-! ### a call -/
theorem gc_one {n : Nat} : Wp (gc n o) Q E ↔ Wp o (fun d S => if (d.lows n && (S.take n).all (MO.lows n)) = true then Q d (S.take n) else Q d S) (fun x S => if (lowsF n x.fs && (S.take n).all (MO.lows n)) = true then E x (S.take n) else E x S) := by
  cases o with
  | ok d S =>
    show Wp (if (d.lows n && (S.take n).all (MO.lows n)) = true then EOut.ok d (S.take n) else .ok d S) Q E ↔ _
    split <;> (rename_i h; show _ ↔ (if _ then _ else _)) <;> simp only [h] <;> rfl
  | exc x S =>
    show Wp (if (lowsF n x.fs && (S.take n).all (MO.lows n)) = true then EOut.exc x (S.take n) else .exc x S) Q E ↔ _
    split <;> (rename_i h; show _ ↔ (if _ then _ else _)) <;> simp only [h] <;> rfl
  | stuck => exact Iff.rfl
/-- a def's body -/
theorem wp_run {fd : FD} {xs : List D} (h : xs.length = fd.np) (k : Ws (sts cf fd.body (xs.map some ++ List.replicate (fd.N.length - fd.np) none) S) { nx := fun _ S => Q .non S, rt := Q, ex := fun x _ S => E x S }) : Wp (run cf fd xs S) Q E := by
  unfold run
  rw [if_pos h]
  cases q : sts cf fd.body (xs.map some ++ List.replicate (fd.N.length - fd.np) none) S with
  | nx ρ S => rw [q] at k; exact k
  | rt d ρ S => rw [q] at k; exact k
  | bk ρ S => rw [q] at k; exact k.elim
  | ct ρ S => rw [q] at k; exact k.elim
  | exc x ρ S => rw [q] at k; exact k
  | stuck => rw [q] at k; exact k.elim
theorem wp_call {P : Pg} {k f : Nat} {fd : FD} {xs : List D} (hf : P[f]? = some fd) (h : xs.length = fd.np)
    (hk : Ws (sts (callK P k) fd.body (xs.map some ++ List.replicate (fd.N.length - fd.np) none) S)
      { nx := fun _ S' => if (S'.take S.length).all (MO.lows S.length) = true then Q .non (S'.take S.length) else Q .non S',
        rt := fun d S' => if (d.lows S.length && (S'.take S.length).all (MO.lows S.length)) = true then Q d (S'.take S.length) else Q d S',
        ex := fun x _ S' => if (lowsF S.length x.fs && (S'.take S.length).all (MO.lows S.length)) = true then E x (S'.take S.length) else E x S' }) : Wp (callK P (k + 1) f xs S) Q E := by
  have e : callK P (k + 1) f xs S = gc S.length (run (callK P k) fd xs S) := by
    show (match P[f]? with | some fd => gc S.length (run (callK P k) fd xs S) | none => .stuck) = _
    rw [hf]
  rw [e, gc_one]
  refine wp_run h (hk.mono (fun ρ S h => ?_) (fun d S h => h) (fun _ _ h => h) (fun _ _ h => h) fun _ _ _ h => h)
  have e : D.lows (List.length (‹Store›)) .non = true := id rfl
  simp only [show ∀ n, D.lows n .non = true from fun _ => rfl, Bool.true_and]
  exact h
/-! ### expressions -/
theorem ev_lit : ev cf (.lit d) ρ S = .ok d S := by unfold ev; exact id rfl
theorem ev_var {i : Nat} : ev cf (.var i) ρ S = match ρ[i]? with
    | some (some d) => .ok d S
    | _ => .stuck := by unfold ev; rfl
theorem ev_glo {x : Str} : ev cf (.glo x d) ρ S = .ok d S := by unfold ev; exact id rfl
theorem wp_bin {op : Operator} {a b : PD.E} : Wp (ev cf (.bin op a b) ρ S) Q E = Wp (ev cf a ρ S) (fun x S => Wp (ev cf b ρ S) (fun y S => Wp (binD op x y S) Q E) E) E := by
  conv => lhs; unfold ev
  simp only [wp_bind]
theorem wp_neg {a : PD.E} : Wp (ev cf (.neg a) ρ S) Q E = Wp (ev cf a ρ S) (fun x S => Wp (match x with
    | .int i => .ok (.int (-i)) S
    | _ => .stuck) Q E) E := by
  conv => lhs; unfold ev
  rw [wp_bind]
  all_goals congr 1
def Nt (S : Store) (x : D) (K : D → Prop) : Prop := match truD S x with
  | some b => K (.bl (!b))
  | none => False
theorem wp_not {a : PD.E} : Wp (ev cf (.not a) ρ S) Q E = Wp (ev cf a ρ S) (fun x S => Nt S x fun y => Q y S) E := by
  conv => lhs; unfold ev
  rw [wp_bind]
  all_goals congr 1
  all_goals funext x S
  all_goals unfold Nt
  all_goals cases truD S x <;> rfl
/-- by truth -/
def Tr (S : Store) (x : D) (T F : Prop) : Prop := match truD S x with
  | some true => T
  | some false => F
  | none => False
theorem tr_match {a b : EOut} : Wp (match truD S x with | some true => a | some false => b | none => .stuck) Q E = Tr S x (Wp a Q E) (Wp b Q E) := by
  unfold Tr
  cases truD S x with
  | none => rfl
  | some k => cases k <;> rfl
theorem wp_and {a b : PD.E} : Wp (ev cf (.and a b) ρ S) Q E = Wp (ev cf a ρ S) (fun x S => Tr S x (Wp (ev cf b ρ S) Q E) (Q x S)) E := by
  conv => lhs; unfold ev
  rw [wp_bind]
  all_goals congr 1
  all_goals funext x S
  all_goals unfold Tr
  all_goals cases truD S x with
  | none => rfl
  | some k => cases k <;> rfl
theorem wp_or {a b : PD.E} : Wp (ev cf (.or a b) ρ S) Q E = Wp (ev cf a ρ S) (fun x S => Tr S x (Q x S) (Wp (ev cf b ρ S) Q E)) E := by
  conv => lhs; unfold ev
  rw [wp_bind]
  all_goals congr 1
  all_goals funext x S
  all_goals unfold Tr
  all_goals cases truD S x with
  | none => rfl
  | some k => cases k <;> rfl
theorem wp_ite {c a b : PD.E} : Wp (ev cf (.ite c a b) ρ S) Q E = Wp (ev cf c ρ S) (fun x S => Tr S x (Wp (ev cf a ρ S) Q E) (Wp (ev cf b ρ S) Q E)) E := by
  conv => lhs; unfold ev
  rw [wp_bind]
  all_goals congr 1
  all_goals funext x S
  all_goals unfold Tr
  all_goals cases truD S x with
  | none => rfl
  | some k => cases k <;> rfl
theorem wp_cmp {op : CmpOp} {a b : PD.E} : Wp (ev cf (.cmp op a b) ρ S) Q E = Wp (ev cf a ρ S) (fun x S => Wp (ev cf b ρ S) (fun y S => Wp (cmpD op x y S) Q E) E) E := by
  conv => lhs; unfold ev
  simp only [wp_bind]
def Chn (k : D) (T F : Prop) : Prop := match k with
  | .bl true => T
  | .bl false => F
  | _ => False
theorem wp_chn {op op' : CmpOp} {a b c : PD.E} : Wp (ev cf (.chn op op' a b c) ρ S) Q E = Wp (ev cf a ρ S) (fun x S => Wp (ev cf b ρ S) (fun y S => Wp (cmpD op x y S) (fun k S => Chn k (Wp (ev cf c ρ S) (fun z S => Wp (cmpD op' y z S) Q E) E) (Q (.bl false) S)) E) E) E := by
  conv => lhs; unfold ev
  simp only [wp_bind]
  all_goals congr 1
  all_goals funext x S
  all_goals congr 1
  all_goals funext y S
  all_goals congr 1
  all_goals funext k S
  all_goals cases k with
  | bl b =>
    cases b
    · rfl
    · show Wp ((ev cf c ρ S).bind fun z S => cmpD op' y z S) Q E = _
      rw [wp_bind]; rfl
  | _ => rfl
theorem chn_bl {b : Bool} {T F : Prop} : Chn (.bl b) T F = ((b = true → T) ∧ (b = false → F)) := by
  cases b
  · show F = _; simp
  · show T = _; simp
theorem wp_tup {es : Es} : Wp (ev cf (.tup es) ρ S) Q E = Wps (evs cf es ρ S) (fun xs S => Wp (newT xs S) Q E) E := by
  conv => lhs; unfold ev
  simp only [wp_bindl]
theorem wp_lst {m : Bool} {es : Es} : Wp (ev cf (.lst m es) ρ S) Q E = Wps (evs cf es ρ S) (fun xs S => Wp (newL m xs S) Q E) E := by
  conv => lhs; unfold ev
  simp only [wp_bindl]
theorem wp_dic {es : Es} : Wp (ev cf (.dic es) ρ S) Q E = Wps (evs cf es ρ S) (fun xs S => Wp (dicD xs S) Q E) E := by
  conv => lhs; unfold ev
  rw [wp_bindl]
theorem wp_callE {c : CSig} {es zs : Es} : Wp (ev cf (.call c es zs) ρ S) Q E = Wps (evs cf es ρ S) (fun xs S => Wps (evs cf zs ρ S) (fun ys S => Wp (match srcs (xs ++ ys) c.src with
    | some ys => cf c.f ys S
    | none => .stuck) Q E) E) E := by
  conv => lhs; unfold ev
  simp only [wp_bindl]
  all_goals congr 1
theorem wp_blt {b : Bn} {m : Bool} {es : Es} : Wp (ev cf (.blt b m es) ρ S) Q E = Wps (evs cf es ρ S) (fun xs S => Wp (bltD b m xs S) Q E) E := by
  conv => lhs; unfold ev
  simp only [wp_bindl]
theorem wp_meth {t : Mt} {a : PD.E} {es : Es} : Wp (ev cf (.meth t a es) ρ S) Q E = Wp (ev cf a ρ S) (fun x S => if t.self S x = true then Wps (evs cf es ρ S) (fun xs S => Wp (methD t x xs S) Q E) E else False) E := by
  conv => lhs; unfold ev
  simp only [wp_bind]
  all_goals congr 1
  all_goals funext x S
  all_goals split
  · simp only [wp_bindl]
  · rfl
theorem ev_tyv {t : BT} : ev cf (.tyv t) ρ S = .ok (.ty t.nm) S := by unfold ev; exact id rfl
theorem ev_clsv {x : Str} {c : Nat} : ev cf (.clsv x c) ρ S = .ok (.cls c) S := by unfold ev; exact id rfl
theorem wp_idx {a b : PD.E} : Wp (ev cf (.idx a b) ρ S) Q E = Wp (ev cf a ρ S) (fun x S => Wp (ev cf b ρ S) (fun y S => Wp (idxD x y S) Q E) E) E := by
  conv => lhs; unfold ev
  simp only [wp_bind]
theorem wp_slc {m : Bool} {a : PD.E} {lo hi : Oe} : Wp (ev cf (.slc m a lo hi) ρ S) Q E = Wp (ev cf a ρ S) (fun x S => Wp (evo cf lo ρ S fun l S => evo cf hi ρ S fun u S => slcD m x l u S) Q E) E := by
  conv => lhs; unfold ev
  simp only [wp_bind]
theorem evo_no {k : Option Int → Store → EOut} : evo cf .no ρ S k = k none S := by unfold evo; exact id rfl
theorem wp_osome {e : PD.E} {k : Option Int → Store → EOut} : Wp (evo cf (.some e) ρ S k) Q E = Wp (ev cf e ρ S) (fun x S => Wp (match x with
    | .int i => k (some i) S
    | _ => .stuck) Q E) E := by
  conv => lhs; unfold evo
  rw [wp_bind]
  all_goals congr 1
theorem wp_comp {m : Bool} {own : List (Str × Nat)} {tg : Tg} {it : PD.It} {conds : Es} {elt : PD.E} : Wp (ev cf (.comp m own tg it conds elt) ρ S) Q E = Wps (evI cf it ρ S) (fun xs S => Wps (compGo (turnD tg (own.map (·.2)) (evC cf conds) (ev cf elt) ρ) xs S) (fun ys S => Wp (newL m ys S) Q E) E) E := by
  conv => lhs; unfold ev
  simp only [wp_bindl]
  rfl
theorem wp_frz {a : PD.E} : Wp (ev cf (.frz a) ρ S) Q E = Wp (ev cf a ρ S) (fun x S => Wp (match x with
    | .ref n => match S[n]? with
      | some (.lst xs) => EOut.ok (.lst xs) (S.set n .dead)
      | some (.ins c fs) => .ok (.ins c fs) (S.set n .dead)
      | _ => .stuck
    | _ => .stuck) Q E) E := by
  conv => lhs; unfold ev
  rw [wp_bind]
  all_goals congr 1
theorem wp_cat {m : Bool} {a b : PD.E} : Wp (ev cf (.cat m a b) ρ S) Q E = Wp (ev cf a ρ S) (fun x S => Wp (ev cf b ρ S) (fun y S => Wp (catD m x y S) Q E) E) E := by
  conv => lhs; unfold ev
  simp only [wp_bind]
theorem wp_rep {m : Bool} {a b : PD.E} : Wp (ev cf (.rep m a b) ρ S) Q E = Wp (ev cf a ρ S) (fun x S => Wp (ev cf b ρ S) (fun y S => Wp (repD m x y S) Q E) E) E := by
  conv => lhs; unfold ev
  simp only [wp_bind]
theorem evs_nil : evs cf .nil ρ S = .ok [] S := by unfold evs; exact id rfl
theorem wps_cons {e : PD.E} {r : Es} {Q : List D → Store → Prop} : Wps (evs cf (.cons e r) ρ S) Q E = Wp (ev cf e ρ S) (fun x S => Wps (evs cf r ρ S) (fun xs S => Q (x :: xs) S) E) E := by
  conv => lhs; unfold evs
  simp only [wps_bind, wps_bindl]
  rfl
/-- what is walked -/
def Wk (x : D) (K : List D → Prop) : Prop := match x with
  | .str z => K (z.cps.toList.map fun c => .str (T [c]))
  | .tup xs => K xs
  | .lst xs => K xs
  | _ => False
theorem wps_val {e : PD.E} {Q : List D → Store → Prop} : Wps (evI cf (.val e) ρ S) Q E = Wp (ev cf e ρ S) (fun x S => Wk x fun xs => Q xs S) E := by
  conv => lhs; unfold evI
  rw [wps_bind]
  all_goals congr 1
  all_goals funext x S
  all_goals cases x <;> rfl
theorem wps_rng {a : PD.E} {Q : List D → Store → Prop} : Wps (evI cf (.rng a) ρ S) Q E = Wp (ev cf a ρ S) (fun x S => Wps (match x with
    | .int j => if -(2 ^ 62) ≤ j ∧ j < 2 ^ 62 then .ok ((List.range j.toNat).map fun i => .int (i : Nat)) S else .stuck
    | _ => .stuck) Q E) E := by
  conv => lhs; unfold evI
  rw [wps_bind]
  all_goals congr 1
def Zp (x y : D) (K : List D → Prop) : Prop := match x, y with
  | .lst xs, .lst ys => K ((xs.zip ys).map fun p => .tup [p.1, p.2])
  | .tup xs, .tup ys => K ((xs.zip ys).map fun p => .tup [p.1, p.2])
  | _, _ => False
theorem wps_zip {a b : PD.E} {Q : List D → Store → Prop} : Wps (evI cf (.zip a b) ρ S) Q E = Wp (ev cf a ρ S) (fun x S => Wp (ev cf b ρ S) (fun y S => Zp x y fun xs => Q xs S) E) E := by
  conv => lhs; unfold evI
  simp only [wps_bind]
  all_goals congr 1
  all_goals funext x S
  all_goals congr 1
  all_goals funext y S
  all_goals cases x <;> cases y <;> rfl
/-! ### statements -/
theorem sts_nil : sts cf .nil ρ S = .nx ρ S := by unfold sts; exact id rfl
theorem ws_cons {s : Cm} {r : Cms} : Ws (sts cf (.cons s r) ρ S) N = Ws (st cf s ρ S) { N with nx := fun ρ S => Ws (sts cf r ρ S) N } := by
  conv => lhs; unfold sts
  simp only [ws_seq]
theorem ws_exp {e : PD.E} : Ws (st cf (.exp e) ρ S) N = Wp (ev cf e ρ S) (fun _ S => N.nx ρ S) (fun x S => N.ex x ρ S) := by
  conv => lhs; unfold st
  simp only [ws_bind]
  rfl
theorem ws_asg {t : Tg} {e : PD.E} : Ws (st cf (.asg t e) ρ S) N = Wp (ev cf e ρ S) (fun x S => match bindT t x ρ with | some ρ' => N.nx ρ' S | none => False) (fun x S => N.ex x ρ S) := by
  conv => lhs; unfold st
  simp only [ws_bind]
  all_goals congr 1
  all_goals funext x S
  all_goals cases bindT t x ρ <;> rfl
theorem ws_iset {a i e : PD.E} : Ws (st cf (.iset a i e) ρ S) N = Wp (ev cf e ρ S) (fun v S => Wp (ev cf a ρ S) (fun x S => Wp (ev cf i ρ S) (fun k S => match setL x k v S with | some S' => N.nx ρ S' | none => False) (fun x S => N.ex x ρ S)) (fun x S => N.ex x ρ S)) (fun x S => N.ex x ρ S) := by
  conv => lhs; unfold st
  simp only [ws_bind]
  all_goals congr 1
  all_goals funext v S
  all_goals congr 1
  all_goals funext x S
  all_goals congr 1
  all_goals funext k S
  all_goals cases setL x k v S <;> rfl
theorem ws_ret {e : PD.E} : Ws (st cf (.ret e) ρ S) N = Wp (ev cf e ρ S) (fun x S => N.rt x S) (fun x S => N.ex x ρ S) := by
  conv => lhs; unfold st
  simp only [ws_bind]
  rfl
theorem ws_retN : Ws (st cf .retN ρ S) N = N.rt .non S := by unfold st; exact id rfl
theorem ws_pass : Ws (st cf .pass ρ S) N = N.nx ρ S := by unfold st; exact id rfl
theorem ws_brk : Ws (st cf .brk ρ S) N = N.bk ρ S := by unfold st; exact id rfl
theorem ws_cont : Ws (st cf .cont ρ S) N = N.ct ρ S := by unfold st; exact id rfl
theorem ws_ite {c : PD.E} {a b : Cms} : Ws (st cf (.ite c a b) ρ S) N = Wp (ev cf c ρ S) (fun x S => Tr S x (Ws (sts cf a ρ S) N) (Ws (sts cf b ρ S) N)) (fun x S => N.ex x ρ S) := by
  conv => lhs; unfold st
  simp only [ws_bind]
  all_goals congr 1
  all_goals funext x S
  all_goals unfold Tr
  all_goals cases truD S x with
  | none => rfl
  | some k => cases k <;> rfl
/-- a turn of a for -/
def turnS (cf : CallF) (t : Tg) (b : Cms) (x : D) (ρ : Env') (S : Store) : SOut := match bindT t x ρ with
  | some ρ' => sts cf b ρ' S
  | none => .stuck
theorem ws_for {t : Tg} {it : PD.It} {b : Cms} : Ws (st cf (.forS t it b) ρ S) N = Wps (evI cf it ρ S) (fun xs S => Ws (forGo (turnS cf t b) xs ρ S) N) (fun x S => N.ex x ρ S) := by
  conv => lhs; unfold st
  simp only [ws_bindl]
  rfl
theorem ws_whl {c : PD.E} {b : Cms} : Ws (st cf (.whl c b) ρ S) N = Ws (whlGo (ev cf c) (sts cf b) whlMost ρ S) N := by
  conv => lhs; unfold st
theorem ws_turn {t : Tg} {b : Cms} : Ws (turnS cf t b x ρ S) N = (match bindT t x ρ with | some ρ' => Ws (sts cf b ρ' S) N | none => False) := by
  unfold turnS
  cases bindT t x ρ <;> rfl
/-- a for by a word of what is left -/
theorem ws_forGo {g : D → Env' → Store → SOut} (I : List D → Env' → Store → Prop) (step : ∀ x r ρ S, I (x :: r) ρ S → Ws (g x ρ S) { N with nx := I r, ct := I r, bk := N.nx }) (fin : ∀ ρ S, I [] ρ S → N.nx ρ S) :
    ∀ (xs : List D) (ρ : Env') (S : Store), I xs ρ S → Ws (forGo g xs ρ S) N
  | [], ρ, S, h => fin ρ S h
  | x :: r, ρ, S, h => by
    have s := step x r ρ S h
    unfold forGo
    cases q : g x ρ S with
    | nx ρ' S' => rw [q] at s; exact ws_forGo I step fin r ρ' S' s
    | ct ρ' S' => rw [q] at s; exact ws_forGo I step fin r ρ' S' s
    | bk ρ' S' => rw [q] at s; exact s
    | rt d ρ' S' => rw [q] at s; exact s
    | exc d ρ' S' => rw [q] at s; exact s
    | stuck => rw [q] at s; exact s
/-! ### comprehensions -/
/-- a turn -/
theorem turn_wp {tg : Tg} {vs : List Nat} {mc : Env' → Store → Option (Bool × Store)} {me : Env' → Store → EOut} {ρ' : Env'} {R : Option D → Store → Prop} (hb : bindT tg x (wipeD ρ vs) = some ρ')
    (h : ∃ b S1, mc ρ' S = some (b, S1) ∧ (if b = true then Wp (me ρ' S1) (fun d S2 => R (some d) S2) noX else R none S1)) : ∃ y S2, turnD tg vs mc me ρ x S = some (y, S2) ∧ R y S2 := by
  obtain ⟨b, S1, h1, h2⟩ := h
  unfold turnD
  rw [hb]
  dsimp only
  rw [h1]
  cases b with
  | false => exact ⟨none, S1, rfl, h2⟩
  | true =>
    dsimp only
    rw [if_pos rfl] at h2
    cases q : me ρ' S1 with
    | ok d S2 => rw [q] at h2; exact ⟨some d, S2, rfl, h2⟩
    | exc x S2 => rw [q] at h2; exact h2.elim
    | stuck => rw [q] at h2; exact h2.elim
/-- a comprehension, turn by turn -/
theorem wps_compGo {g : D → Store → Option (Option D × Store)} {Q : List D → Store → Prop} (I : List D → List D → Store → Prop) (step : ∀ x r acc S, I (x :: r) acc S → ∃ y S2, g x S = some (y, S2) ∧ I r (match y with | some d => acc ++ [d] | none => acc) S2)
    (fin : ∀ acc S, I [] acc S → Q acc S) : ∀ (xs acc : List D) (S : Store), I xs acc S → Wps (compGo g xs S) (fun ys S => Q (acc ++ ys) S) E
  | [], acc, S, h => by
    unfold compGo
    rw [wps_ok, List.append_nil]
    exact fin acc S h
  | x :: r, acc, S, h => by
    obtain ⟨y, S2, e, h2⟩ := step x r acc S h
    unfold compGo
    rw [e]
    dsimp only
    rw [wps_bindl]
    have ih := wps_compGo I step fin r _ S2 h2
    cases q : compGo g r S2 with
    | ok ds S3 =>
      rw [q] at ih
      cases y with
      | none => exact ih
      | some d =>
        have ih : Q (acc ++ [d] ++ ds) S3 := ih
        show Q (acc ++ d :: ds) S3
        rw [List.append_assoc] at ih
        exact ih
    | exc x S3 => rw [q] at ih; exact ih
    | stuck => rw [q] at ih; exact ih
/-- what keeps the store, by a plain function -/
theorem compGo_plain {g : D → Store → Option (Option D × Store)} {f : D → Option D} : ∀ {xs : List D}, (∀ x ∈ xs, g x S = some (f x, S)) → compGo g xs S = .ok (xs.filterMap f) S
  | [], _ => rfl
  | x :: r, h => by
    unfold compGo
    rw [h x List.mem_cons_self]
    dsimp only
    rw [compGo_plain (fun y hy => h y (List.mem_cons_of_mem _ hy))]
    rw [List.filterMap_cons]
    cases f x <;> rfl
end
end PD
set_option maxHeartbeats 2000000
/-! PD20: operations on data, plainly -/
namespace PD
open PySem PySem.Spec L2
mutual
/-- as plain data -/
def pd : D → PyData
  | .bl b => .bool b
  | .int i => .int i
  | .str x => .str x
  | .tup xs => .tuple (pdL xs)
  | .lst xs => .list (pdL xs)
  | .non => .none
  | .dic kvs => .dict (pdK kvs)
  | .dct => .none
  | .fnv => .none
  | .ins _ _ => .none
  | .exc _ _ => .none
  | .ref _ => .none
  | .cls _ => .none
  | .ty _ => .none
def pdL : List D → List PyData
  | [] => []
  | d :: r => pd d :: pdL r
def pdK : List (Key × D) → List (PyData × PyData)
  | [] => []
  | d :: r => (encK d.1, pd d.2) :: pdK r
end
mutual
/-- plain data, not deep -/
def dat : D → Nat → Bool
  | .non, _ => true
  | .bl _, _ => true
  | .int _, _ => true
  | .str x, _ => x.cps.all (· < 0x110000)
  | .tup xs, n => (match n with
    | 0 => false
    | n + 1 => datL xs n)
  | .lst xs, n => (match n with
    | 0 => false
    | n + 1 => datL xs n)
  | .dic _, _ => false
  | .dct, _ => false
  | .fnv, _ => false
  | .ins _ _, _ => false
  | .exc _ _, _ => false
  | .ref _, _ => false
  | .cls _, _ => false
  | .ty _, _ => false
def datL : List D → Nat → Bool
  | [], _ => true
  | d :: r, n => dat d n && datL r n
end
mutual
theorem dat_ok {S : Store} {k : Nat} : ∀ {d : D} {n : Nat}, dat d n = true → toP S k d = some (pd d) ∧ (pd d).canLay0 = true ∧ (pd d).depth ≤ n
  | .non, n, _ => ⟨rfl, rfl, Nat.zero_le _⟩
  | .bl _, n, _ => ⟨rfl, rfl, Nat.zero_le _⟩
  | .int _, n, _ => ⟨rfl, rfl, Nat.zero_le _⟩
  | .str x, n, h => ⟨rfl, h, Nat.zero_le _⟩
  | .tup xs, 0, h => by cases h
  | .lst xs, 0, h => by cases h
  | .tup xs, n + 1, h => by
    obtain ⟨h1, h2, h3⟩ := datL_ok (S := S) (k := k) (show datL xs n = true from h)
    refine ⟨?_, h2, Nat.succ_le_succ h3⟩
    unfold toP
    rw [h1]; rfl
  | .lst xs, n + 1, h => by
    obtain ⟨h1, h2, h3⟩ := datL_ok (S := S) (k := k) (show datL xs n = true from h)
    refine ⟨?_, h2, Nat.succ_le_succ h3⟩
    unfold toP
    rw [h1]; rfl
  | .dic _, _, h => by cases h
  | .dct, _, h => by cases h
  | .fnv, _, h => by cases h
  | .ins _ _, _, h => by cases h
  | .exc _ _, _, h => by cases h
  | .ref _, _, h => by cases h
  | .cls _, _, h => by cases h
  | .ty _, _, h => by cases h
theorem datL_ok {S : Store} {k : Nat} : ∀ {d : List D} {n : Nat}, datL d n = true → toPL S k d = some (pdL d) ∧ PyData.canLayAll0 (pdL d) = true ∧ PyData.depthAll (pdL d) ≤ n
  | [], n, _ => ⟨rfl, rfl, Nat.zero_le _⟩
  | d :: r, n, h => by
    obtain ⟨h1, h2⟩ := PD.ba (show (dat d n && datL r n) = true from h)
    obtain ⟨a1, a2, a3⟩ := dat_ok (S := S) (k := k) h1
    obtain ⟨b1, b2, b3⟩ := datL_ok (S := S) (k := k) h2
    refine ⟨?_, ?_, ?_⟩
    · unfold toPL
      rw [a1, b1]; rfl
    · show ((pd d).canLay0 && PyData.canLayAll0 (pdL r)) = true
      rw [a2, b2]; rfl
    · show max (pd d).depth (PyData.depthAll (pdL r)) ≤ n
      omega
end
theorem shaped_of {p : PyData} (h1 : p.canLay0 = true) (h2 : p.depth ≤ 64) : SeqAt.shaped p = true := by
  unfold SeqAt.shaped
  rw [h1, Bool.true_and]
  exact decide_eq_true h2
theorem toPR_dat {S : Store} {d : D} {n : Nat} (h : dat d n = true) : toPR S d = some (pd d) := by
  unfold toPR
  split
  · cases h
  · exact (dat_ok h).1
theorem toPR_ref {S : Store} {i n : Nat} {xs : List D} (e : S[i]? = some (.lst xs)) (h : datL xs n = true) : toPR S (.ref i) = some (pd (.lst xs)) := by
  unfold toPR
  dsimp only
  rw [e]
  dsimp only
  rw [(datL_ok h).1]
  rfl
section
variable {S : Store} {x y : D}
theorem eqD_dat {n m : Nat} (h1 : dat x n = true) (h2 : dat y m = true) (hn : n ≤ 64) (hm : m ≤ 64) : eqD S x y = some (PyData.eqv (pd x) (pd y)) := by
  unfold eqD
  split
  · rename_i a b
    show some (decide (a = b)) = some (PyData.eqv (.str a) (.str b))
    rw [PyData.eqv]
    congr 1
    try rw [Bool.eq_iff_iff, beq_iff_eq, decide_eq_true_iff]
  split
  · rename_i c
    -- lists, not of one length
    have key : ∀ {xs ys : List D}, xs.length ≠ ys.length → PyData.eqv (.list (pdL xs)) (.list (pdL ys)) = false := fun {xs ys} hne => by
      rw [PyData.eqv]
      induction xs generalizing ys with
      | nil =>
        cases ys with
        | nil => exact (hne rfl).elim
        | cons y ys => show PyData.eqvAll [] (_ :: _) = false; rw [PyData.eqvAll] <;> simp
      | cons x xs ih =>
        cases ys with
        | nil => show PyData.eqvAll (_ :: _) [] = false; rw [PyData.eqvAll] <;> simp
        | cons y ys =>
          show PyData.eqvAll (pd x :: pdL xs) (pd y :: pdL ys) = false
          rw [PyData.eqvAll, ih fun z => hne (by rw [List.length_cons, List.length_cons, z]), Bool.and_false]
    congr 1
    symm
    unfold lenNe at c
    split at c
    · rename_i xs ys e1 e2
      cases x with
      | lst xs' =>
        cases y with
        | lst ys' => cases e1; cases e2; exact key (by simpa using c)
        | ref n => cases h2
        | _ => cases e2
      | ref n => cases h1
      | _ => cases e1
    · cases c
  unfold eqP
  rw [toPR_dat h1, toPR_dat h2]
  dsimp only
  rw [shaped_of (dat_ok (S := S) (k := 0) h1).2.1 (Nat.le_trans (dat_ok (S := S) (k := 0) h1).2.2 hn), shaped_of (dat_ok (S := S) (k := 0) h2).2.1 (Nat.le_trans (dat_ok (S := S) (k := 0) h2).2.2 hm)]
  rfl
theorem cmp_eq {n m : Nat} (h1 : dat x n = true) (h2 : dat y m = true) (hn : n ≤ 64) (hm : m ≤ 64) : cmpD .Eq x y S = .ok (.bl (PyData.eqv (pd x) (pd y))) S := by
  unfold cmpD
  simp only [eqD_dat h1 h2 hn hm]
theorem cmp_ne {n m : Nat} (h1 : dat x n = true) (h2 : dat y m = true) (hn : n ≤ 64) (hm : m ≤ 64) : cmpD .NotEq x y S = .ok (.bl (!PyData.eqv (pd x) (pd y))) S := by
  unfold cmpD
  simp only [eqD_dat h1 h2 hn hm, Option.map_some]
theorem cmp_in_lst {xs : List D} {n m : Nat} (h1 : dat x n = true) (h2 : datL xs m = true) (hn : n ≤ 64) (hm : m ≤ 63) : cmpD .In x (.lst xs) S = .ok (.bl ((pdL xs).any fun z => PyData.eqv z (pd x))) S := by
  have d2 : dat (.lst xs) (m + 1) = true := h2
  have e : inD S x (.lst xs) = some ((pdL xs).any fun z => PyData.eqv z (pd x)) := by
    have e0 : inD S x (.lst xs) = (match toPR S x, toPR S (.lst xs) with
      | some p, some (.list ps) => if SeqAt.shaped p && SeqAt.shaped (.list ps) then some (ps.any fun z => PyData.eqv z p) else none
      | some p, some (.tuple ps) => if SeqAt.shaped p && SeqAt.shaped (.tuple ps) then some (ps.any fun z => PyData.eqv z p) else none
      | _, _ => none) := by cases x <;> rfl
    rw [e0, toPR_dat h1, toPR_dat d2]
    show (if (SeqAt.shaped (pd x) && SeqAt.shaped (.list (pdL xs))) = true then _ else _) = _
    rw [shaped_of (dat_ok (S := S) (k := 0) h1).2.1 (Nat.le_trans (dat_ok (S := S) (k := 0) h1).2.2 hn), shaped_of (p := .list (pdL xs)) (dat_ok (S := S) (k := 0) d2).2.1 (Nat.le_trans (dat_ok (S := S) (k := 0) d2).2.2 (Nat.succ_le_succ hm))]
    rfl
  unfold cmpD
  simp only [e]
theorem cmp_in_tup {xs : List D} {n m : Nat} (h1 : dat x n = true) (h2 : datL xs m = true) (hn : n ≤ 64) (hm : m ≤ 63) : cmpD .In x (.tup xs) S = .ok (.bl ((pdL xs).any fun z => PyData.eqv z (pd x))) S := by
  have d2 : dat (.tup xs) (m + 1) = true := h2
  have e : inD S x (.tup xs) = some ((pdL xs).any fun z => PyData.eqv z (pd x)) := by
    have e0 : inD S x (.tup xs) = (match toPR S x, toPR S (.tup xs) with
      | some p, some (.list ps) => if SeqAt.shaped p && SeqAt.shaped (.list ps) then some (ps.any fun z => PyData.eqv z p) else none
      | some p, some (.tuple ps) => if SeqAt.shaped p && SeqAt.shaped (.tuple ps) then some (ps.any fun z => PyData.eqv z p) else none
      | _, _ => none) := by cases x <;> rfl
    rw [e0, toPR_dat h1, toPR_dat d2]
    show (if (SeqAt.shaped (pd x) && SeqAt.shaped (.tuple (pdL xs))) = true then _ else _) = _
    rw [shaped_of (dat_ok (S := S) (k := 0) h1).2.1 (Nat.le_trans (dat_ok (S := S) (k := 0) h1).2.2 hn), shaped_of (p := .tuple (pdL xs)) (dat_ok (S := S) (k := 0) d2).2.1 (Nat.le_trans (dat_ok (S := S) (k := 0) d2).2.2 (Nat.succ_le_succ hm))]
    rfl
  unfold cmpD
  simp only [e]
theorem cmp_is : cmpD .Is x .non S = .ok (.bl (isNon x)) S := by cases x <;> rfl
theorem cmp_isnot : cmpD .IsNot x .non S = .ok (.bl (!isNon x)) S := by cases x <;> rfl
variable {i j : Int}
theorem cmp_lt : cmpD .Lt (.int i) (.int j) S = .ok (.bl (decide (i < j))) S := id rfl
theorem cmp_le : cmpD .LtE (.int i) (.int j) S = .ok (.bl (decide (i ≤ j))) S := id rfl
theorem cmp_gt : cmpD .Gt (.int i) (.int j) S = .ok (.bl (decide (j < i))) S := id rfl
theorem cmp_ge : cmpD .GtE (.int i) (.int j) S = .ok (.bl (decide (j ≤ i))) S := id rfl
theorem cmp_eq_int : cmpD .Eq (.int i) (.int j) S = .ok (.bl (i == j)) S := cmp_eq (n := 0) (m := 0) rfl rfl (by decide) (by decide)
theorem cmp_ne_int : cmpD .NotEq (.int i) (.int j) S = .ok (.bl (!(i == j))) S := cmp_ne (n := 0) (m := 0) rfl rfl (by decide) (by decide)
theorem bin_add : binD .Add (.int i) (.int j) S = .ok (.int (i + j)) S := id rfl
theorem bin_sub : binD .Sub (.int i) (.int j) S = .ok (.int (i - j)) S := id rfl
theorem bin_mulL (h : i.natAbs < 2 ^ 64) : binD .Mult (.int i) (.int j) S = .ok (.int (i * j)) S := if_pos (.inl h)
theorem bin_mulR (h : j.natAbs < 2 ^ 64) : binD .Mult (.int i) (.int j) S = .ok (.int (i * j)) S := if_pos (.inr (.inl h))
theorem bin_div (h : 0 < j) (h2 : j.natAbs.log2 < 9000) : binD .FloorDiv (.int i) (.int j) S = .ok (.int (i / j)) S := if_pos ⟨h, h2⟩
theorem bin_mod (h : 0 < j) : binD .Mod (.int i) (.int j) S = .ok (.int (i % j)) S := if_pos h
theorem bin_pow (h : 0 ≤ j ∧ j ≤ 1000000 ∧ i.natAbs < 2 ^ 64) : binD .Pow (.int i) (.int j) S = .ok (.int (i ^ j.toNat)) S := if_pos h
theorem log2_small {j : Int} (h : 0 < j) (h2 : j < 2 ^ 40) : j.natAbs.log2 < 9000 := by
  have : j.natAbs < 2 ^ 40 := by omega
  have := PySem.Flt.log2_lt_of (by decide) this
  omega
/-! ### truth -/
variable {T F : Prop} {b : Bool}
theorem tr_bl : Tr S (.bl b) T F = ((b = true → T) ∧ (b = false → F)) := by
  cases b
  · show F = _; simp
  · show T = _; simp
theorem tr_true (h : T) : Tr S (.bl true) T F := h
theorem tr_false (h : F) : Tr S (.bl false) T F := h
theorem tr_lst {xs : List D} : Tr S (.lst xs) T F = ((xs ≠ [] → T) ∧ (xs = [] → F)) := by
  cases xs
  · show F = _; simp
  · show T = _; simp
theorem tr_tup {xs : List D} : Tr S (.tup xs) T F = ((xs ≠ [] → T) ∧ (xs = [] → F)) := by
  cases xs
  · show F = _; simp
  · show T = _; simp
theorem nt_bl {K : D → Prop} : Nt S (.bl b) K = K (.bl (!b)) := id rfl
theorem nt_lst {K : D → Prop} {xs : List D} : Nt S (.lst xs) K = K (.bl xs.isEmpty) := by cases xs <;> rfl
/-! ### subscripts -/
theorem idx_lst {xs : List D} {v : D} (h : L2.atI xs i = some v) : idxD (.lst xs) (.int i) S = .ok v S := by
  show (match L2.atI xs i with | some v => EOut.ok v S | none => .stuck) = _
  rw [h]
theorem idx_tup {xs : List D} {v : D} (h : L2.atI xs i = some v) : idxD (.tup xs) (.int i) S = .ok v S := by
  show (match L2.atI xs i with | some v => EOut.ok v S | none => .stuck) = _
  rw [h]
theorem idx_ref {n : Nat} {xs : List D} {v : D} (e : S[n]? = some (.lst xs)) (h : L2.atI xs i = some v) : idxD (.ref n) (.int i) S = .ok v S := by
  show (match (match S[n]? with | some (.lst xs) => some xs | _ => none) with | some xs => (match L2.atI xs i with | some v => EOut.ok v S | none => .stuck) | none => .stuck) = _
  rw [e]
  dsimp only
  rw [h]
theorem idx_str {z : Str} {c : Nat} (h : L2.atI z.cps.toList i = some c) : idxD (.str z) (.int i) S = .ok (.str (PD.T [c])) S := by
  show (match L2.atI z.cps.toList i with | some c => EOut.ok (.str (PD.T [c])) S | none => .stuck) = _
  rw [h]
theorem newL_f {xs : List D} (h : xs.length ≤ sizeLine) : newL false xs S = .ok (.lst xs) S := by
  unfold newL; rw [if_pos h]; rfl
theorem newL_t {xs : List D} (h : xs.length ≤ sizeLine) : newL true xs S = .ok (.ref S.length) (S ++ [.lst xs]) := by
  unfold newL; rw [if_pos h]; rfl
theorem newT_ok {xs : List D} (h : xs.length ≤ sizeLine) : newT xs S = .ok (.tup xs) S := by
  unfold newT; rw [if_pos h]
theorem setL_ref {n m : Nat} {xs : List D} {v : D} (e : S[n]? = some (.lst xs)) (h : L2.ixN xs.length i = some m) : setL (.ref n) (.int i) v S = some (S.set n (.lst (xs.set m v))) := by
  show (match S[n]? with | some (.lst xs) => (match L2.ixN xs.length i with | some j => some (S.set n (.lst (xs.set j v))) | none => none) | _ => none) = _
  rw [e]
  dsimp only
  rw [h]
end
end PD
namespace PD
open PySem PySem.Spec L2
section
variable {S : Store} {cf : CallF} {ρ ρ' : Env'} {x y : D} {E : XD}
theorem evC_nil : evC cf .nil ρ S = some (true, S) := by unfold evC; exact id rfl
theorem evC_one {c : PD.E} {q : Bool} (h : Wp (ev cf c ρ S) (fun d S' => d = .bl q ∧ S' = S) noX) : evC cf (.cons c .nil) ρ S = some (q, S) := by
  unfold evC
  cases e : ev cf c ρ S with
  | ok d S' =>
    rw [e] at h
    obtain ⟨rfl, rfl⟩ := h
    cases q
    · exact id rfl
    · show evC cf .nil ρ S' = _
      rw [evC_nil]
  | exc x S' => rw [e] at h; exact h.elim
  | stuck => rw [e] at h; exact h.elim
theorem turn_pure {tg : Tg} {vs : List Nat} {conds : Es} {elt : PD.E} (hb : bindT tg x (wipeD ρ vs) = some ρ') {q : Bool} (hc : evC cf conds ρ' S = some (q, S)) {y : D} (he : q = true → Wp (ev cf elt ρ' S) (fun d S' => d = y ∧ S' = S) noX) :
    turnD tg vs (evC cf conds) (ev cf elt) ρ x S = some (if q = true then some y else none, S) := by
  obtain ⟨z, S2, e, r⟩ := turn_wp (ρ := ρ) (x := x) (S := S) (R := fun z S' => z = (if q = true then some y else none) ∧ S' = S) (mc := evC cf conds) (me := ev cf elt) hb ⟨q, S, hc, by
    cases q with
    | true => rw [if_pos rfl]; exact (he rfl).mono (fun d S' z => ⟨by rw [z.1]; rfl, z.2⟩) fun _ _ z => z
    | false => rw [if_neg Bool.false_ne_true]; exact ⟨rfl, rfl⟩⟩
  rw [e, r.1, r.2]
theorem comp_all {tg : Tg} {vs : List Nat} {elt : PD.E} {xs : List D} {f : D → D} {Q : List D → Store → Prop} (h : ∀ x ∈ xs, ∃ ρ', bindT tg x (wipeD ρ vs) = some ρ' ∧ Wp (ev cf elt ρ' S) (fun d S' => d = f x ∧ S' = S) noX)
    (k : Q (xs.map f) S) : Wps (compGo (turnD tg vs (evC cf .nil) (ev cf elt) ρ) xs S) Q E := by
  rw [compGo_plain (f := fun x => some (f x)) fun x hx => by
    obtain ⟨ρ', hb, hw⟩ := h x hx
    exact turn_pure hb evC_nil fun _ => hw]
  rw [wps_ok]
  have e : xs.filterMap (fun x => some (f x)) = xs.map f := by
    show xs.filterMap (some ∘ f) = _
    rw [List.filterMap_eq_map]
  rw [e]; exact k
/-- with a test -/
theorem comp_if {tg : Tg} {vs : List Nat} {c elt : PD.E} {xs : List D} {f : D → D} {p : D → Bool} {Q : List D → Store → Prop} (h : ∀ x ∈ xs, ∃ ρ', bindT tg x (wipeD ρ vs) = some ρ' ∧ Wp (ev cf c ρ' S) (fun d S' => d = .bl (p x) ∧ S' = S) noX ∧ (p x = true → Wp (ev cf elt ρ' S) (fun d S' => d = f x ∧ S' = S) noX))
    (k : Q ((xs.filter p).map f) S) : Wps (compGo (turnD tg vs (evC cf (.cons c .nil)) (ev cf elt) ρ) xs S) Q E := by
  rw [compGo_plain (f := fun x => if p x = true then some (f x) else none) fun x hx => by
    obtain ⟨ρ', hb, hw, he⟩ := h x hx
    exact turn_pure hb (evC_one hw) he]
  rw [wps_ok]
  have e : ∀ xs : List D, xs.filterMap (fun x => if p x = true then some (f x) else none) = (xs.filter p).map f := by
    intro xs
    induction xs with
    | nil => rfl
    | cons x r ih =>
      rw [List.filterMap_cons, List.filter_cons]
      by_cases hp : p x = true
      · rw [if_pos hp, if_pos hp, List.map_cons, ih]
      · rw [if_neg hp, if_neg hp, ih]
  rw [e]; exact k
theorem boolsOf_map : ∀ bs : List Bool, boolsOf (bs.map .bl) = some bs
  | [] => rfl
  | b :: r => by
    show (boolsOf (r.map .bl)).map (b :: ·) = _
    rw [boolsOf_map r]; rfl
theorem blt_all {bs : List Bool} {m : Bool} : bltD .all m [.lst (bs.map .bl)] S = .ok (.bl (bs.all id)) S := by
  show gvB S (((some (bs.map .bl)).bind boolsOf).map fun bs => bs.all id) = _
  rw [Option.bind_some, boolsOf_map]; rfl
theorem blt_any {bs : List Bool} {m : Bool} : bltD .any m [.lst (bs.map .bl)] S = .ok (.bl (bs.any id)) S := by
  show gvB S (((some (bs.map .bl)).bind boolsOf).map fun bs => bs.any id) = _
  rw [Option.bind_some, boolsOf_map]; rfl
end
end PD
namespace PD
open PySem PySem.Spec L2
section
variable {S : Store} {x y : D}
/-- repr of a truth -/
def rb (b : Bool) : D := .str (txt (if b then "True" else "False"))
theorem blt_repr_b {b m : Bool} : bltD .repr m [.bl b] S = .ok (rb b) S := id rfl
theorem dat_rb {b : Bool} : dat (rb b) 0 = true := by cases b <;> decide +kernel
theorem eqv_rb {a b : Bool} : PyData.eqv (pd (rb a)) (pd (rb b)) = (a == b) := by cases a <;> cases b <;> decide +kernel
theorem cmp_ne_rb {a b : Bool} : cmpD .NotEq (rb a) (rb b) S = .ok (.bl (!(a == b))) S := by rw [cmp_ne dat_rb dat_rb (by decide) (by decide), eqv_rb]
theorem cmp_eq_rb {a b : Bool} : cmpD .Eq (rb a) (rb b) S = .ok (.bl (a == b)) S := by rw [cmp_eq dat_rb dat_rb (by decide) (by decide), eqv_rb]
theorem eqv_list {a b : List PyData} : PyData.eqv (.list a) (.list b) = PyData.eqvAll a b := by rw [PyData.eqv]
theorem eqv_tuple {a b : List PyData} : PyData.eqv (.tuple a) (.tuple b) = PyData.eqvAll a b := by rw [PyData.eqv]
theorem eqv_int {i j : Int} : PyData.eqv (.int i) (.int j) = (i == j) := by rw [PyData.eqv]
theorem eqv_str {i j : Str} : PyData.eqv (.str i) (.str j) = (i == j) := by rw [PyData.eqv]
theorem eqvAll_nil {a : List PyData} : PyData.eqvAll a [] = a.isEmpty := by cases a <;> rw [PyData.eqvAll] <;> rfl
theorem eqvAll_cons {x y : PyData} {a b : List PyData} : PyData.eqvAll (x :: a) (y :: b) = (PyData.eqv x y && PyData.eqvAll a b) := by rw [PyData.eqvAll]
theorem pdL_map : ∀ {l : List D}, pdL l = l.map pd
  | [] => rfl
  | _ :: r => by show pd _ :: pdL r = _; rw [pdL_map]; rfl
theorem datL_all {n : Nat} : ∀ {l : List D}, datL l n = l.all fun d => dat d n
  | [] => rfl
  | d :: r => by show (dat d n && datL r n) = _; rw [datL_all]; rfl
theorem eqvAll_ints : ∀ {a b : List Int}, PyData.eqvAll (pdL (a.map D.int)) (pdL (b.map D.int)) = decide (a = b)
  | [], [] => by show PyData.eqvAll [] [] = _; rw [eqvAll_nil]; rfl
  | [], y :: b => by
    show PyData.eqvAll [] (_ :: _) = _
    rw [PyData.eqvAll]; simp
  | x :: a, [] => by
    show PyData.eqvAll (_ :: _) [] = _
    rw [PyData.eqvAll]; simp
  | x :: a, y :: b => by
    show PyData.eqvAll (.int x :: pdL (a.map D.int)) (.int y :: pdL (b.map D.int)) = _
    rw [eqvAll_cons, eqv_int, eqvAll_ints]
    by_cases h1 : x = y <;> by_cases h2 : a = b <;> simp [h1, h2]
theorem any_ints {i : Int} : ∀ {a : List Int}, ((pdL (a.map D.int)).any fun z => PyData.eqv z (.int i)) = decide (i ∈ a)
  | [] => rfl
  | x :: a => by
    show (PyData.eqv (.int x) (.int i) || (pdL (a.map D.int)).any fun z => PyData.eqv z (.int i)) = _
    rw [eqv_int, any_ints]
    by_cases h1 : x = i
    · subst h1; simp
    · have : ¬ i = x := fun z => h1 z.symm
      simp [h1, this]
/-- a[1:] -/
theorem cut_1 {xs : List D} : cutD xs (some 1) none = xs.drop 1 := by
  unfold cutD HT.sIx
  cases xs with
  | nil => rfl
  | cons x r => simp
def itemsD : D → Option (List D)
  | .lst xs => some xs
  | .tup xs => some xs
  | _ => none
variable {xs : List D} {K : List D → Prop}
theorem wk_seq (h : itemsD x = some xs) : Wk x K = K xs := by
  cases x with
  | lst ys => cases h; rfl
  | tup ys => cases h; rfl
  | _ => cases h
theorem wk_lst : Wk (.lst xs) K = K xs := id rfl
theorem wk_tup : Wk (.tup xs) K = K xs := id rfl
theorem wk_str {z : Str} : Wk (.str z) K = K (z.cps.toList.map fun c => .str (T [c])) := id rfl
theorem blt_len_seq {m : Bool} (h : itemsD x = some xs) : bltD .len m [x] S = .ok (.int xs.length) S := by
  cases x with
  | lst ys => cases h; rfl
  | tup ys => cases h; rfl
  | _ => cases h
/-- x[1:] beside x -/
theorem zip_tail {m : Bool} {Q : QD} {E : XD} (h : itemsD x = some xs) (hl : xs.length ≤ sizeLine) : ∃ y, slcD false x (some 1) none S = .ok y S ∧ ∀ K, Zp x y K = K ((xs.zip (xs.drop 1)).map fun p => .tup [p.1, p.2]) := by
  have hl2 : (xs.drop 1).length ≤ sizeLine := by rw [List.length_drop]; omega
  cases x with
  | lst ys =>
    cases h
    refine ⟨.lst (xs.drop 1), ?_, fun K => rfl⟩
    show (match (some xs : Option (List D)) with | some xs => newL false (cutD xs (some 1) none) S | none => .stuck) = _
    dsimp only
    rw [cut_1]
    unfold newL
    rw [if_pos hl2]; rfl
  | tup ys =>
    cases h
    refine ⟨.tup (xs.drop 1), ?_, fun K => rfl⟩
    show EOut.ok (.tup (cutD xs (some 1) none)) S = _
    rw [cut_1]
  | _ => cases h
end
end PD
namespace PD
open PySem PySem.Spec L2
section
variable {ρ : Env'} {i j k : Nat} {a b c : D}
theorem bindT_name : bindT (.name i) a ρ = some (ρ.set i (some a)) := id rfl
theorem bindT_2 : bindT (.tup [i, j]) (.tup [a, b]) ρ = some ((ρ.set i (some a)).set j (some b)) := id rfl
theorem bindT_3 : bindT (.tup [i, j, k]) (.tup [a, b, c]) ρ = some (((ρ.set i (some a)).set j (some b)).set k (some c)) := id rfl
theorem bindT_nest {ts : List Tg} {ds : List D} : bindT (.nest ts) (.tup ds) ρ = bindTs ts ds ρ := id rfl
theorem bindTs_nil : bindTs [] [] ρ = some ρ := id rfl
theorem bindTs_cons {t : Tg} {ts : List Tg} {d : D} {ds : List D} : bindTs (t :: ts) (d :: ds) ρ = (match bindT t d ρ with
  | some ρ => bindTs ts ds ρ
  | none => none) := id rfl
theorem newT_2 {S : Store} : newT [a, b] S = .ok (.tup [a, b]) S := newT_ok (by rw [sizeLine_eq]; show 2 ≤ 16777216; omega)
theorem newT_3 {S : Store} : newT [a, b, c] S = .ok (.tup [a, b, c]) S := newT_ok (by rw [sizeLine_eq]; show 3 ≤ 16777216; omega)
theorem small {n : Nat} (h : n ≤ 100000) : n ≤ sizeLine := by rw [sizeLine_eq]; omega
end
end PD
namespace PD
open PySem PySem.Spec L2
section
variable {S : Store}
theorem newLf0 : newL false [] S = .ok (.lst []) S := newL_f (by rw [sizeLine_eq]; show 0 ≤ 16777216; omega)
theorem newLt0 : newL true [] S = .ok (.ref S.length) (S ++ [.lst []]) := newL_t (by rw [sizeLine_eq]; show 0 ≤ 16777216; omega)
theorem newT0 : newT [] S = .ok (.tup []) S := newT_ok (by rw [sizeLine_eq]; show 0 ≤ 16777216; omega)
theorem newLf1 {a0 : D} : newL false [a0] S = .ok (.lst [a0]) S := newL_f (by rw [sizeLine_eq]; show 1 ≤ 16777216; omega)
theorem newLt1 {a0 : D} : newL true [a0] S = .ok (.ref S.length) (S ++ [.lst [a0]]) := newL_t (by rw [sizeLine_eq]; show 1 ≤ 16777216; omega)
theorem newT1 {a0 : D} : newT [a0] S = .ok (.tup [a0]) S := newT_ok (by rw [sizeLine_eq]; show 1 ≤ 16777216; omega)
theorem newLf2 {a0 a1 : D} : newL false [a0, a1] S = .ok (.lst [a0, a1]) S := newL_f (by rw [sizeLine_eq]; show 2 ≤ 16777216; omega)
theorem newLt2 {a0 a1 : D} : newL true [a0, a1] S = .ok (.ref S.length) (S ++ [.lst [a0, a1]]) := newL_t (by rw [sizeLine_eq]; show 2 ≤ 16777216; omega)
theorem newT2 {a0 a1 : D} : newT [a0, a1] S = .ok (.tup [a0, a1]) S := newT_ok (by rw [sizeLine_eq]; show 2 ≤ 16777216; omega)
theorem newLf3 {a0 a1 a2 : D} : newL false [a0, a1, a2] S = .ok (.lst [a0, a1, a2]) S := newL_f (by rw [sizeLine_eq]; show 3 ≤ 16777216; omega)
theorem newLt3 {a0 a1 a2 : D} : newL true [a0, a1, a2] S = .ok (.ref S.length) (S ++ [.lst [a0, a1, a2]]) := newL_t (by rw [sizeLine_eq]; show 3 ≤ 16777216; omega)
theorem newT3 {a0 a1 a2 : D} : newT [a0, a1, a2] S = .ok (.tup [a0, a1, a2]) S := newT_ok (by rw [sizeLine_eq]; show 3 ≤ 16777216; omega)
theorem newLf4 {a0 a1 a2 a3 : D} : newL false [a0, a1, a2, a3] S = .ok (.lst [a0, a1, a2, a3]) S := newL_f (by rw [sizeLine_eq]; show 4 ≤ 16777216; omega)
theorem newLt4 {a0 a1 a2 a3 : D} : newL true [a0, a1, a2, a3] S = .ok (.ref S.length) (S ++ [.lst [a0, a1, a2, a3]]) := newL_t (by rw [sizeLine_eq]; show 4 ≤ 16777216; omega)
theorem newT4 {a0 a1 a2 a3 : D} : newT [a0, a1, a2, a3] S = .ok (.tup [a0, a1, a2, a3]) S := newT_ok (by rw [sizeLine_eq]; show 4 ≤ 16777216; omega)
theorem newLf5 {a0 a1 a2 a3 a4 : D} : newL false [a0, a1, a2, a3, a4] S = .ok (.lst [a0, a1, a2, a3, a4]) S := newL_f (by rw [sizeLine_eq]; show 5 ≤ 16777216; omega)
theorem newLt5 {a0 a1 a2 a3 a4 : D} : newL true [a0, a1, a2, a3, a4] S = .ok (.ref S.length) (S ++ [.lst [a0, a1, a2, a3, a4]]) := newL_t (by rw [sizeLine_eq]; show 5 ≤ 16777216; omega)
theorem newT5 {a0 a1 a2 a3 a4 : D} : newT [a0, a1, a2, a3, a4] S = .ok (.tup [a0, a1, a2, a3, a4]) S := newT_ok (by rw [sizeLine_eq]; show 5 ≤ 16777216; omega)
theorem newLf6 {a0 a1 a2 a3 a4 a5 : D} : newL false [a0, a1, a2, a3, a4, a5] S = .ok (.lst [a0, a1, a2, a3, a4, a5]) S := newL_f (by rw [sizeLine_eq]; show 6 ≤ 16777216; omega)
theorem newLt6 {a0 a1 a2 a3 a4 a5 : D} : newL true [a0, a1, a2, a3, a4, a5] S = .ok (.ref S.length) (S ++ [.lst [a0, a1, a2, a3, a4, a5]]) := newL_t (by rw [sizeLine_eq]; show 6 ≤ 16777216; omega)
theorem newT6 {a0 a1 a2 a3 a4 a5 : D} : newT [a0, a1, a2, a3, a4, a5] S = .ok (.tup [a0, a1, a2, a3, a4, a5]) S := newT_ok (by rw [sizeLine_eq]; show 6 ≤ 16777216; omega)
theorem newLf7 {a0 a1 a2 a3 a4 a5 a6 : D} : newL false [a0, a1, a2, a3, a4, a5, a6] S = .ok (.lst [a0, a1, a2, a3, a4, a5, a6]) S := newL_f (by rw [sizeLine_eq]; show 7 ≤ 16777216; omega)
theorem newLt7 {a0 a1 a2 a3 a4 a5 a6 : D} : newL true [a0, a1, a2, a3, a4, a5, a6] S = .ok (.ref S.length) (S ++ [.lst [a0, a1, a2, a3, a4, a5, a6]]) := newL_t (by rw [sizeLine_eq]; show 7 ≤ 16777216; omega)
theorem newT7 {a0 a1 a2 a3 a4 a5 a6 : D} : newT [a0, a1, a2, a3, a4, a5, a6] S = .ok (.tup [a0, a1, a2, a3, a4, a5, a6]) S := newT_ok (by rw [sizeLine_eq]; show 7 ≤ 16777216; omega)
theorem newLf8 {a0 a1 a2 a3 a4 a5 a6 a7 : D} : newL false [a0, a1, a2, a3, a4, a5, a6, a7] S = .ok (.lst [a0, a1, a2, a3, a4, a5, a6, a7]) S := newL_f (by rw [sizeLine_eq]; show 8 ≤ 16777216; omega)
theorem newT8 {a0 a1 a2 a3 a4 a5 a6 a7 : D} : newT [a0, a1, a2, a3, a4, a5, a6, a7] S = .ok (.tup [a0, a1, a2, a3, a4, a5, a6, a7]) S := newT_ok (by rw [sizeLine_eq]; show 8 ≤ 16777216; omega)
theorem newLf9 {a0 a1 a2 a3 a4 a5 a6 a7 a8 : D} : newL false [a0, a1, a2, a3, a4, a5, a6, a7, a8] S = .ok (.lst [a0, a1, a2, a3, a4, a5, a6, a7, a8]) S := newL_f (by rw [sizeLine_eq]; show 9 ≤ 16777216; omega)
theorem newT9 {a0 a1 a2 a3 a4 a5 a6 a7 a8 : D} : newT [a0, a1, a2, a3, a4, a5, a6, a7, a8] S = .ok (.tup [a0, a1, a2, a3, a4, a5, a6, a7, a8]) S := newT_ok (by rw [sizeLine_eq]; show 9 ≤ 16777216; omega)
theorem newLf10 {a0 a1 a2 a3 a4 a5 a6 a7 a8 a9 : D} : newL false [a0, a1, a2, a3, a4, a5, a6, a7, a8, a9] S = .ok (.lst [a0, a1, a2, a3, a4, a5, a6, a7, a8, a9]) S := newL_f (by rw [sizeLine_eq]; show 10 ≤ 16777216; omega)
theorem newT10 {a0 a1 a2 a3 a4 a5 a6 a7 a8 a9 : D} : newT [a0, a1, a2, a3, a4, a5, a6, a7, a8, a9] S = .ok (.tup [a0, a1, a2, a3, a4, a5, a6, a7, a8, a9]) S := newT_ok (by rw [sizeLine_eq]; show 10 ≤ 16777216; omega)
theorem newLf11 {a0 a1 a2 a3 a4 a5 a6 a7 a8 a9 a10 : D} : newL false [a0, a1, a2, a3, a4, a5, a6, a7, a8, a9, a10] S = .ok (.lst [a0, a1, a2, a3, a4, a5, a6, a7, a8, a9, a10]) S := newL_f (by rw [sizeLine_eq]; show 11 ≤ 16777216; omega)
theorem newT11 {a0 a1 a2 a3 a4 a5 a6 a7 a8 a9 a10 : D} : newT [a0, a1, a2, a3, a4, a5, a6, a7, a8, a9, a10] S = .ok (.tup [a0, a1, a2, a3, a4, a5, a6, a7, a8, a9, a10]) S := newT_ok (by rw [sizeLine_eq]; show 11 ≤ 16777216; omega)
theorem newLf12 {a0 a1 a2 a3 a4 a5 a6 a7 a8 a9 a10 a11 : D} : newL false [a0, a1, a2, a3, a4, a5, a6, a7, a8, a9, a10, a11] S = .ok (.lst [a0, a1, a2, a3, a4, a5, a6, a7, a8, a9, a10, a11]) S := newL_f (by rw [sizeLine_eq]; show 12 ≤ 16777216; omega)
theorem newLf13 {a0 a1 a2 a3 a4 a5 a6 a7 a8 a9 a10 a11 a12 : D} : newL false [a0, a1, a2, a3, a4, a5, a6, a7, a8, a9, a10, a11, a12] S = .ok (.lst [a0, a1, a2, a3, a4, a5, a6, a7, a8, a9, a10, a11, a12]) S := newL_f (by rw [sizeLine_eq]; show 13 ≤ 16777216; omega)
theorem newLf14 {a0 a1 a2 a3 a4 a5 a6 a7 a8 a9 a10 a11 a12 a13 : D} : newL false [a0, a1, a2, a3, a4, a5, a6, a7, a8, a9, a10, a11, a12, a13] S = .ok (.lst [a0, a1, a2, a3, a4, a5, a6, a7, a8, a9, a10, a11, a12, a13]) S := newL_f (by rw [sizeLine_eq]; show 14 ≤ 16777216; omega)
theorem newLf15 {a0 a1 a2 a3 a4 a5 a6 a7 a8 a9 a10 a11 a12 a13 a14 : D} : newL false [a0, a1, a2, a3, a4, a5, a6, a7, a8, a9, a10, a11, a12, a13, a14] S = .ok (.lst [a0, a1, a2, a3, a4, a5, a6, a7, a8, a9, a10, a11, a12, a13, a14]) S := newL_f (by rw [sizeLine_eq]; show 15 ≤ 16777216; omega)
theorem newLf16 {a0 a1 a2 a3 a4 a5 a6 a7 a8 a9 a10 a11 a12 a13 a14 a15 : D} : newL false [a0, a1, a2, a3, a4, a5, a6, a7, a8, a9, a10, a11, a12, a13, a14, a15] S = .ok (.lst [a0, a1, a2, a3, a4, a5, a6, a7, a8, a9, a10, a11, a12, a13, a14, a15]) S := newL_f (by rw [sizeLine_eq]; show 16 ≤ 16777216; omega)
end
end PD
set_option maxHeartbeats 2000000
/-! PD21: a law's end over the head's facts -/
namespace PD
open PySem PySem.Spec L2
/-- the law's def stands at index f; what it gives on data is told -/
theorem law_walk {l : PySem.W.OpenLaw} {n k f h0 : Nat} {q : Program} {loose : List Str} {XP : (Str → Option Value) → Heap → Prop} {d : DefRec} {x : Str} {p : PS'} {cn : CN} {fd : FD}
    (hn : l.most = some n) (hn2 : n ≤ sizeLine) (hdf : d.params.defaults = []) (hr : Room k PySem.callerA) (hb : pgB p cn = true) (sig : ∀ c ∈ p.sigs, ∀ fd, p.P[c.f]? = some fd → SigO fd c)
    (hfile : (l.prog.main.file : Str) = p.file) (htop : (l.prog.main.scope.names.lookup ("super" : Str)).isSome = false) (hf : p.P[f]? = some fd) (hfn : p.fnm[f]? = some (f, d.name)) (hps : fd.ps = [x]) (hdv : fd.dvs = [] := by rfl)
    (bind : ∀ (kV doc pm : Value) (an : Option Addr) (cdv ct : Value) (us : List Value), us.length = fd.ps.length → bindArgs (PySem.W.fnOf fd.name fd.qual fd.params fd.stmts fd.scope .none kV doc pm an cdv ct) ⟨us, []⟩ = pure (fd.ps.zip us))
    (law : ∀ ns : List Int, ns.length ≤ n → ∃ S', callK p.P k f [.lst (ns.map .int)] [] = .ok (.bl true) S') :
    PySem.W.WalkO q loose XP (fun w h => (hookP h0 p cn).says w h) l.row.toRowW d [] (fun f vs => PySem.call f vs) := by
  refine Att.attach_call hn hdf fun w s₀ s₁ mg mb fa o pm cd doc a vs ns G Y ho hd hcd hmg hobj hints hlen hg => ?_
  obtain ⟨K, KX, c⟩ := Y
  have F := pg_of KX G.T.g c hb sig
  obtain ⟨fdt, D⟩ := F.fn f fd hf
  obtain ⟨fd2, hf2, hm2⟩ := F.fnm f d.name (List.mem_of_getElem? hfn)
  rw [hf] at hf2
  cases hf2
  have e := hmg.symm.trans hm2
  cases e
  rw [hdv] at D
  have D : FunD (gOf K cn (tabsOf p K)).K fd.name fd.qual fd.params fd.stmts fd.scope [] [] (He.fAd (gOf K cn (tabsOf p K)).K fd.at_) fdt := D
  have bA := FunD.bindsA (ps := fd.ps) D bind
  refine law_callT (k := k) (fa := He.fAd K fd.at_) (cs := csOf p K) (fd := fdt) (x := x) (sp := spOf (gOf K cn (tabsOf p K)) 1 ((callK p.P k).fn f)) (CX := L2.CX l.prog w) KX G.T.g G.T.b G.T.builtins G.T.nolimit hg c.empty c.out (fun q hq => PySem.W.codeHd_of_K KX (c.hd q hq)) G.T.bmain hobj hints (Nat.le_trans hlen hn2) hr (fun base _ _ TB => ?_) (fun s v => ?_) (fun H hT hS => law_sp (fun q hq => ?_) hS (law ns hlen)) fun H e s' hx => ?_
  · have := fn_ok (prog := l.prog) (W0 := w) (mg := mg) (base := base) F (mak_of c TB) rfl (fun _ => trivial) hfile htop k f fd hf fdt (by rw [hdv]; exact D)
    rw [hps] at this
    exact this
  · have := bA s [v] (by rw [hps]; rfl)
    rw [hps] at this
    exact this
  · obtain ⟨fd', hfd', e⟩ := List.mem_map.mp hq
    rw [← e]
    exact hT _ (List.mem_map.mpr ⟨fd', hfd', rfl⟩)
  · obtain ⟨_, _, _, _, _, _, _, _, _, _, _, _, z⟩ := hx
    exact z
end PD
set_option maxHeartbeats 4000000
/-! PD22: words for laws: draws, plain calls -/
namespace PD
open PySem PySem.Spec L2
section
variable {o : SOut} {cf : CallF} {ρ : Env'} {S : Store} {N : En}
theorem ws_raise {x : Str} {c np : Nat} {fs : List (Str × Nat)} {es : Es} : Ws (st cf (.raise x c np fs es) ρ S) N = Wps (evs cf es ρ S) (fun xs S => if xs.length = np then N.ex ⟨c, fldD xs fs⟩ ρ S else False) (fun x S => N.ex x ρ S) := by
  conv => lhs; unfold st
  rw [ws_bindl]
  congr 1
  funext xs S
  split <;> rfl
theorem ws_fin {i : Option Nat} : Ws (o.fin i) N = Ws o { nx := fun ρ S => N.nx (wipe1 i ρ) S, rt := N.rt, bk := fun ρ S => N.bk (wipe1 i ρ) S, ct := fun ρ S => N.ct (wipe1 i ρ) S } := by cases o <;> rfl
theorem ws_try {x : Str} {c : Nat} {i : Option Nat} {b s : Cms} : Ws (st cf (.tryE x c i b s) ρ S) N = Ws (sts cf b ρ S) { N with ex := fun x ρ S => if subC x.c c = true then Ws (sts cf s (set1 i (.exc x.c x.fs) ρ) S) { nx := fun ρ S => N.nx (wipe1 i ρ) S, rt := N.rt, bk := fun ρ S => N.bk (wipe1 i ρ) S, ct := fun ρ S => N.ct (wipe1 i ρ) S } else N.ex x ρ S } := by
  conv => lhs; unfold st
  unfold tryGo
  cases sts cf b ρ S with
  | exc x ρ S =>
    show Ws (if _ then _ else _) N = (if _ then _ else _)
    split
    · exact ws_fin
    · rfl
  | _ => rfl
theorem wp_att {E : XD} {Q : QD} {a : PD.E} {f : Str} : Wp (ev cf (.att a f) ρ S) Q E = Wp (ev cf a ρ S) (fun x S => Wp (attD x f S) Q E) E := by
  conv => lhs; unfold ev
  rw [wp_bind]
theorem cat_int {m : Bool} {i j : Int} : catD m (.int i) (.int j) S = binD .Add (.int i) (.int j) S := id rfl
theorem rep_int {m : Bool} {i j : Int} : repD m (.int i) (.int j) S = binD .Mult (.int i) (.int j) S := id rfl
theorem cat_tup {m : Bool} {a b : List D} : catD m (.tup a) (.tup b) S = newT (a ++ b) S := id rfl
theorem cat_lst {m : Bool} {a b : List D} : catD m (.lst a) (.lst b) S = newL m (a ++ b) S := id rfl
theorem set1_some {i : Nat} {d : D} : set1 (some i) d ρ = ρ.set i (some d) := id rfl
theorem set1_none {d : D} : set1 none d ρ = ρ := id rfl
theorem wipe1_some {i : Nat} : wipe1 (some i) ρ = ρ.set i none := id rfl
theorem wipe1_none : wipe1 none ρ = ρ := id rfl
theorem att_exc {c : Nat} {fs : List (Str × D)} {f : Str} {d : D} (h : fs.lookup f = some d) : attD (.exc c fs) f S = .ok d S := by
  show (match fs.lookup f with | some d => EOut.ok d S | none => .stuck) = _
  rw [h]
end
variable {k B : Nat} {S R : Store} {d : D} {m : MO} {t : Nat} {many r : Int} {cells : List Int}
theorem gc_same {d : D} {S : Store} : gc S.length (.ok d S) = .ok d S := by
  show (if d.lows S.length && (S.take S.length).all (MO.lows S.length) then EOut.ok d (S.take S.length) else .ok d S) = _
  split
  · rw [List.take_length]
  · rfl
theorem call_same {P : Pg} {k f : Nat} {fd : FD} {xs : List D} {S : Store} {d : D} (hf : P[f]? = some fd) (h : run (callK P k) fd xs S = .ok d S) : callK P (k + 1) f xs S = .ok d S := by
  show (match P[f]? with | some fd => gc S.length (run (callK P k) fd xs S) | none => .stuck) = _
  rw [hf]
  show gc S.length (run (callK P k) fd xs S) = _
  rw [h, gc_same]
def isInt : D → Bool
  | .int _ => true
  | _ => false
def known : D → Bool
  | .non => true
  | .bl _ => true
  | .int _ => true
  | .str _ => true
  | .tup _ => true
  | .lst _ => true
  | .dic _ => true
  | .dct => true
  | _ => false
theorem wp_eq {o : EOut} {d : D} {S : Store} (h : Wp o (fun d' S' => d' = d ∧ S' = S) noX) : o = .ok d S := by
  cases o with
  | ok d' S' => obtain ⟨rfl, rfl⟩ := h; rfl
  | exc x S' => exact h.elim
  | stuck => exact h.elim
theorem call_pure {P : Pg} {k f : Nat} {fd : FD} {xs : List D} {S : Store} {d : D} (hf : P[f]? = some fd) (h : xs.length = fd.np)
    (hk : Ws (sts (callK P k) fd.body (xs.map some ++ List.replicate (fd.N.length - fd.np) none) S) { nx := fun _ S' => d = .non ∧ S' = S, rt := fun d' S' => d' = d ∧ S' = S }) : callK P (k + 1) f xs S = .ok d S :=
  call_same hf (wp_eq (wp_run h (hk.mono (fun _ _ z => ⟨z.1.symm, z.2⟩) (fun _ _ z => z) (fun _ _ z => z) (fun _ _ z => z) fun _ _ _ z => z.elim)))
def oD : Option Int → D
  | none => .non
  | some i => .int i
def Sat (B : Nat) (m : MO) : Prop := ∃ (cells : List Int) (t : Nat) (r : Int), m = .lst [.lst (cells.map D.int), .int t, .int r] ∧ t ≤ B
theorem sat_idx0 {a b c : D} {R : Store} : idxD (.ref 0) (.int 0) (.lst [a, b, c] :: R) = .ok a (.lst [a, b, c] :: R) := id rfl
theorem sat_idx1 {a b c : D} {R : Store} : idxD (.ref 0) (.int 1) (.lst [a, b, c] :: R) = .ok b (.lst [a, b, c] :: R) := id rfl
theorem sat_idx2 {a b c : D} {R : Store} : idxD (.ref 0) (.int 2) (.lst [a, b, c] :: R) = .ok c (.lst [a, b, c] :: R) := id rfl
theorem sat_set1 {a b c v : D} {R : Store} : setL (.ref 0) (.int 1) v (.lst [a, b, c] :: R) = some (.lst [a, v, c] :: R) := id rfl
theorem sat_set2 {a b c v : D} {R : Store} : setL (.ref 0) (.int 2) v (.lst [a, b, c] :: R) = some (.lst [a, b, v] :: R) := id rfl
theorem blt_int {i : Int} {m : Bool} : bltD .int m [.int i] S = .ok (.int i) S := id rfl
theorem blt_intb {b : Bool} {m : Bool} : bltD .int m [.bl b] S = .ok (.int (if b then 1 else 0)) S := id rfl
theorem blt_abs {i : Int} {m : Bool} : bltD .abs m [.int i] S = .ok (.int (if i < 0 then -i else i)) S := id rfl
theorem blt_lenL {xs : List D} {m : Bool} : bltD .len m [.lst xs] S = .ok (.int xs.length) S := id rfl
theorem blt_lenT {xs : List D} {m : Bool} : bltD .len m [.tup xs] S = .ok (.int xs.length) S := id rfl
theorem blt_lenS {x : Str} {m : Bool} : bltD .len m [.str x] S = .ok (.int x.length) S := id rfl
theorem datL_ints {n : Nat} : ∀ {l : List Int}, datL (l.map D.int) n = true
  | [] => rfl
  | _ :: _ => by rw [List.map_cons]; show (true && datL _ n) = true; rw [datL_ints]; rfl
theorem wp_callS {P : Pg} {k f : Nat} {fd : FD} {xs : List D} {Q : QD} {E : XD} (hf : P[f]? = some fd) (h : xs.length = fd.np)
    (hk : Ws (sts (callK P k) fd.body (xs.map some ++ List.replicate (fd.N.length - fd.np) none) S) { nx := fun _ S' => S'.length = S.length ∧ Q .non S', rt := fun d S' => S'.length = S.length ∧ Q d S', ex := fun x _ S' => S'.length = S.length ∧ E x S' }) : Wp (callK P (k + 1) f xs S) Q E := by
  refine wp_call hf h (hk.mono (fun _ S' z => ?_) (fun d S' z => ?_) (fun _ _ z => z) (fun _ _ z => z) fun x _ S' z => ?_)
  · obtain ⟨z1, z2⟩ := z
    show if _ then _ else _
    rw [← z1, List.take_length]; split <;> exact z2
  · obtain ⟨z1, z2⟩ := z
    show if _ then _ else _
    rw [← z1, List.take_length]; split <;> exact z2
  · obtain ⟨z1, z2⟩ := z
    show if _ then _ else _
    rw [← z1, List.take_length]; split <;> exact z2
theorem pow_le {a b : Int} (h0 : 0 ≤ a) (h : a < 2 ^ 63) : a.natAbs < 2 ^ 64 := by omega
theorem range_at {xs : List D} {i : Int} (h0 : 0 ≤ i) (h1 : i < xs.length) : ∃ v, L2.atI xs i = some v ∧ xs[i.toNat]? = some v := by
  have hlt : i.toNat < xs.length := by omega
  refine ⟨xs[i.toNat], ?_, List.getElem?_eq_getElem hlt⟩
  unfold L2.atI L2.ixN
  rw [if_pos h0, if_pos h1]
  exact List.getElem?_eq_getElem hlt
theorem emod_b {a b : Int} (h : 0 < b) : 0 ≤ a % b ∧ a % b < b := ⟨Int.emod_nonneg _ (by omega), Int.emod_lt_of_pos _ h⟩
def RQ (many : Int) (B : Nat) (R : Store) : QD := fun d S => ∃ (n : Int) (m' : MO), d = .int n ∧ 0 ≤ n ∧ n < many ∧ S = m' :: R ∧ Sat B m'
theorem rq_of {many a : Int} {B t : Nat} {cells : List Int} {r : Int} {R : Store} (h : 0 < many) (ht : t ≤ B) : RQ many B R (.int (a % many)) (.lst [.lst (cells.map D.int), .int t, .int r] :: R) :=
  ⟨_, _, rfl, (emod_b h).1, (emod_b h).2, rfl, cells, t, r, rfl, ht⟩
abbrev Nq (S : Store) (Q : QD) : En := { nx := fun _ S' => S'.length = S.length ∧ Q .non S', rt := fun d S' => S'.length = S.length ∧ Q d S', ex := fun x _ S' => S'.length = S.length ∧ noX x S' }
def okSeq (d : D) : Prop := known d = true ∧ ∀ xs, itemsD d = some xs → (∀ x ∈ xs, known x = true) ∧ xs.length ≤ sizeLine
def isSeq (d : D) : Bool := (itemsD d).isSome
theorem blt_isi_seq (h : known d = true) : bltD .isi false [d, .tup [.ty "list", .ty "tuple"]] S = .ok (.bl (isSeq d)) S := by
  cases d <;> first | rfl | cases h
theorem int_of {x : D} (h : isInt x = true) : ∃ i, x = .int i := by
  cases x with
  | int i => exact ⟨i, rfl⟩
  | _ => cases h
theorem all_bl {xs : List D} {f : D → Bool} : (xs.map fun x => D.bl (f x)) = (xs.map f).map D.bl := by simp
theorem len_dec {n : Nat} {m : Int} : ((n : Int) == m) = decide ((n : Int) = m) := rfl
def GQ (xs : List D) (B : Nat) (R : Store) : QD := fun d S => ∃ m', d ∈ xs ∧ S = m' :: R ∧ Sat B m'
theorem Sat.mono {B C : Nat} {m : MO} (h : Sat B m) (l : B ≤ C) : Sat C m := by
  obtain ⟨a, t, r, e, h⟩ := h
  exact ⟨a, t, r, e, by omega⟩
theorem lowsL_all {n : Nat} : ∀ {xs : List D}, (∀ x ∈ xs, x.lows n = true) → lowsL n xs = true
  | [], _ => rfl
  | x :: r, h => by
    show (x.lows n && lowsL n r) = true
    rw [h x List.mem_cons_self, lowsL_all fun y hy => h y (List.mem_cons_of_mem _ hy)]; rfl
theorem Sat.low {n : Nat} (h : Sat B m) : m.lows n = true := by
  obtain ⟨cells, t, r, rfl, _⟩ := h
  show ((lowsL n (cells.map D.int)) && true) = true
  rw [lowsL_all fun x hx => ?_]
  · rfl
  · obtain ⟨i, _, rfl⟩ := List.mem_map.mp hx; rfl
theorem comp_draws {tg : Tg} {vs : List Nat} {elt : PD.E} {cf : CallF} {ρ : Env'} {xs : List D} {Pz : D → Prop} {Q : List D → Store → Prop} {E : XD} {C : Nat} (hm : Sat B m) (hC : B + C * xs.length < 2 ^ 20)
    (h : ∀ x ∈ xs, ∃ ρ', bindT tg x (wipeD ρ vs) = some ρ' ∧ ∀ B m, Sat B m → B + C < 2 ^ 20 → Wp (ev cf elt ρ' (m :: R)) (fun d S => ∃ m', Pz d ∧ S = m' :: R ∧ Sat (B + C) m') noX)
    (k : ∀ ys m', ys.length = xs.length → (∀ y ∈ ys, Pz y) → Sat (B + C * xs.length) m' → Q ys (m' :: R)) : Wps (compGo (turnD tg vs (evC cf .nil) (ev cf elt) ρ) xs (m :: R)) Q E := by
  refine wps_compGo (Q := Q) (fun rest acc S => ∃ m', S = m' :: R ∧ (∀ x ∈ rest, x ∈ xs) ∧ (∀ y ∈ acc, Pz y) ∧ acc.length + rest.length = xs.length ∧ Sat (B + C * acc.length) m') (fun x r acc S hI => ?_) (fun acc S hI => ?_) xs [] (m :: R) ⟨m, rfl, fun _ h => h, fun y hy => (by cases hy), by simp, by simpa using hm⟩
  · obtain ⟨m1, rfl, h1, h2, h3, h4⟩ := hI
    obtain ⟨ρ', hb, hw⟩ := h x (h1 x List.mem_cons_self)
    have hle : B + C * acc.length + C < 2 ^ 20 := by
      have : C * (acc.length + 1) ≤ C * xs.length := Nat.mul_le_mul_left _ (by rw [List.length_cons] at h3; omega)
      rw [Nat.mul_add] at this
      omega
    obtain ⟨y, S2, e, r2⟩ := turn_wp (mc := evC cf .nil) (me := ev cf elt) (R := fun y S2 => ∃ d m2, y = some d ∧ Pz d ∧ S2 = m2 :: R ∧ Sat (B + C * acc.length + C) m2) hb ⟨true, _, evC_nil, by
      rw [if_pos rfl]
      exact (hw _ _ h4 hle).imp fun d S ⟨m2, p, e, s⟩ => ⟨d, m2, rfl, p, e, s⟩⟩
    obtain ⟨d, m2, rfl, hp, rfl, s2⟩ := r2
    refine ⟨_, _, e, m2, rfl, fun z hz => h1 z (List.mem_cons_of_mem _ hz), fun z hz => ?_, ?_, ?_⟩
    · rcases List.mem_append.mp hz with hz | hz
      · exact h2 z hz
      · rw [List.mem_singleton.mp hz]; exact hp
    · simp only [List.length_append, List.length_cons, List.length_nil] at h3 ⊢; omega
    · simp only [List.length_append, List.length_cons, List.length_nil]
      rw [Nat.mul_add, ← Nat.add_assoc]
      simpa using s2
  · obtain ⟨m1, rfl, h1, h2, h3, h4⟩ := hI
    have : acc.length = xs.length := by simpa using h3
    exact k acc m1 this h2 (by rw [← this]; exact h4)
theorem range_len {n : Int} : ((List.range n.toNat).map fun i => D.int (i : Nat)).length = n.toNat := by simp
theorem evC_wp {cf : CallF} {ρ : Env'} {c : PD.E} {K : Bool → Store → Prop} (h : Wp (ev cf c ρ S) (fun d S' => ∃ b, d = .bl b ∧ K b S') noX) : ∃ b S1, evC cf (.cons c .nil) ρ S = some (b, S1) ∧ K b S1 := by
  unfold evC
  cases e : ev cf c ρ S with
  | ok d S' =>
    rw [e] at h
    obtain ⟨b, rfl, hk⟩ := h
    cases b
    · exact ⟨false, S', rfl, hk⟩
    · exact ⟨true, S', (by show evC cf .nil ρ S' = _; rw [evC_nil]), hk⟩
  | exc x S' => rw [e] at h; exact h.elim
  | stuck => rw [e] at h; exact h.elim
theorem comp_drawsG {g : D → Store → Option (Option D × Store)} {xs : List D} {Pz : D → Prop} {Q : List D → Store → Prop} {E : XD} {C : Nat} (hm : Sat B m) (hC : B + C * xs.length < 2 ^ 20)
    (h : ∀ x ∈ xs, ∀ B m, Sat B m → B + C < 2 ^ 20 → ∃ y m', g x (m :: R) = some (y, m' :: R) ∧ Sat (B + C) m' ∧ ∀ d, y = some d → Pz d)
    (k : ∀ ys m', ys.length ≤ xs.length → (∀ y ∈ ys, Pz y) → Sat (B + C * xs.length) m' → Q ys (m' :: R)) : Wps (compGo g xs (m :: R)) Q E := by
  refine wps_compGo (Q := Q) (fun rest acc S => ∃ n m', S = m' :: R ∧ (∀ x ∈ rest, x ∈ xs) ∧ (∀ y ∈ acc, Pz y) ∧ n + rest.length = xs.length ∧ acc.length ≤ n ∧ Sat (B + C * n) m') (fun x r acc S hI => ?_) (fun acc S hI => ?_) xs [] (m :: R) ⟨0, m, rfl, fun _ h => h, fun y hy => (by cases hy), by simp, by simp, by simpa using hm⟩
  · obtain ⟨n, m1, rfl, h1, h2, h3, h5, h4⟩ := hI
    have hle : B + C * n + C < 2 ^ 20 := by
      have : C * (n + 1) ≤ C * xs.length := Nat.mul_le_mul_left _ (by rw [List.length_cons] at h3; omega)
      rw [Nat.mul_add] at this
      omega
    obtain ⟨y, m2, e, s2, hp⟩ := h x (h1 x List.mem_cons_self) _ _ h4 hle
    refine ⟨_, _, e, n + 1, m2, rfl, fun z hz => h1 z (List.mem_cons_of_mem _ hz), ?_, by rw [List.length_cons] at h3; omega, ?_, by rw [Nat.mul_add, ← Nat.add_assoc]; simpa using s2⟩
    · cases y with
      | none => exact h2
      | some d =>
        intro z hz
        rcases List.mem_append.mp hz with hz | hz
        · exact h2 z hz
        · rw [List.mem_singleton.mp hz]; exact hp d rfl
    · cases y with
      | none => show acc.length ≤ n + 1; omega
      | some d => show (acc ++ [d]).length ≤ n + 1; rw [List.length_append]; show acc.length + 1 ≤ _; omega
  · obtain ⟨n, m1, rfl, h1, h2, h3, h5, h4⟩ := hI
    have h3 : n = xs.length := by simpa using h3
    subst h3
    exact k acc m1 h5 h2 h4
def upto (n : Int) : List Int := (List.range n.toNat).map fun i => ((i : Nat) : Int)
theorem upto_mem {n i : Int} : i ∈ upto n ↔ 0 ≤ i ∧ i < n := by
  unfold upto
  rw [List.mem_map]
  constructor
  · rintro ⟨j, hj, rfl⟩
    have := List.mem_range.mp hj
    omega
  · rintro ⟨h1, h2⟩
    exact ⟨i.toNat, List.mem_range.mpr (by omega), by omega⟩
theorem upto_sorted {n : Int} : (upto n).Pairwise (· < ·) := by
  unfold upto
  rw [List.pairwise_map]
  exact (List.pairwise_lt_range (n := n.toNat)).imp fun h => by omega
theorem not_all {xs : List D} {p : D → Bool} : (xs.filter fun x => !p x).isEmpty = xs.all p := by
  induction xs with
  | nil => rfl
  | cons x r ih =>
    rw [List.filter_cons, List.all_cons]
    cases p x
    · rfl
    · exact ih
theorem all_ints : ∀ {xs : List D}, xs.all isInt = true → ∃ l : List Int, xs = l.map D.int
  | [], _ => ⟨[], rfl⟩
  | x :: r, h => by
    rw [List.all_cons, Bool.and_eq_true] at h
    obtain ⟨i, rfl⟩ := int_of h.1
    obtain ⟨l, rfl⟩ := all_ints h.2
    exact ⟨i :: l, rfl⟩
theorem filter_datL {xs : List D} {n : Nat} {p : D → Bool} (h : ∀ x ∈ xs, dat x n = true) : datL ((xs.filter p).map id) n = true := by
  rw [datL_all, List.all_eq_true]
  intro x hx
  rw [List.map_id] at hx
  exact h x (List.mem_filter.mp hx).1
end PD
set_option maxHeartbeats 4000000
/-! PD23: texts and values, plainly -/
namespace PD
open PySem PySem.Spec L2
variable {S : Store} {d : D} {k : Nat}
theorem T_append (a b : List Nat) : T a ++ T b = T (a ++ b) := by
  show (⟨a.toArray ++ b.toArray⟩ : Str) = ⟨(a ++ b).toArray⟩
  congr 1
  exact List.append_toArray a b
theorem T_of (z : Str) : T z.cps.toList = z := by
  cases z
  rfl
theorem dat_T {l : List Nat} {n : Nat} (h : ∀ c ∈ l, c < 1114112) : dat (.str (T l)) n = true := by
  show (T l).cps.all (fun c => decide (c < 0x110000)) = true
  show l.toArray.all _ = true
  rw [List.all_toArray, List.all_eq_true]
  exact fun c hc => decide_eq_true (h c hc)
theorem T_dat {l : List Nat} {n : Nat} (h : dat (.str (T l)) n = true) : ∀ c ∈ l, c < 1114112 := by
  have h : l.toArray.all (fun c => decide (c < 0x110000)) = true := h
  rw [List.all_toArray, List.all_eq_true] at h
  exact fun c hc => of_decide_eq_true (h c hc)
def isStr : D → Bool
  | .str _ => true
  | _ => false
theorem blt_isi_str (h : known d = true) : bltD .isi false [d, .ty "str"] S = .ok (.bl (isStr d)) S := by
  cases d <;> first | rfl | cases h
theorem cmp_in_sign {c : Nat} {l : List Nat} : cmpD .In (.str (T [c])) (.str (T l)) S = .ok (.bl (decide (c ∈ l))) S := by
  show (match (if (T [c]).length = 1 then some (decide ((T [c]).cps.getD 0 0 ∈ (T l).cps.toList)) else none) with | some b => EOut.ok (.bl b) S | none => .stuck) = _
  rw [if_pos (by rw [T_len]; rfl), T_cps]
  rfl
theorem cmp_le_sign {a c : Nat} : cmpD .LtE (.str (T [a])) (.str (T [c])) S = .ok (.bl (decide (a ≤ c))) S := by
  show EOut.ok (.bl (!decide ((T [c]).cps.toList < (T [a]).cps.toList))) S = _
  rw [T_cps, T_cps]
  have : decide ([c] < [a]) = decide (c < a) := by
    rw [decide_eq_decide]
    simp [List.cons_lt_cons_iff]
  rw [this]
  congr 2
  by_cases h : a ≤ c
  · rw [decide_eq_true h, decide_eq_false (by omega)]; rfl
  · rw [decide_eq_false h, decide_eq_true (by omega)]; rfl
theorem blt_ord {c : Nat} {m : Bool} : bltD .ord m [.str (T [c])] S = .ok (.int (c : Int)) S := by
  show gvI S (if (T [c]).length = 1 then some (((T [c]).cps.getD 0 0 : Nat) : Int) else none) = _
  rw [if_pos (by rw [T_len]; rfl)]
  rfl
theorem eqv_T {a b : List Nat} : PyData.eqv (.str (T a)) (.str (T b)) = decide (a = b) := by
  rw [eqv_str, Bool.eq_iff_iff, beq_iff_eq, decide_eq_true_iff, T_inj]
theorem cmp_eq_T {a b : List Nat} (ha : ∀ c ∈ a, c < 1114112) (hb : ∀ c ∈ b, c < 1114112) : cmpD .Eq (.str (T a)) (.str (T b)) S = .ok (.bl (decide (a = b))) S := by
  rw [cmp_eq (dat_T (n := 0) ha) (dat_T (n := 0) hb) (by decide) (by decide)]
  show EOut.ok (.bl (PyData.eqv (.str (T a)) (.str (T b)))) S = _
  rw [eqv_T]
/-- a sign's text -/
def sgF (p : Nat → Bool) : D → D
  | .str z => .bl (p (z.cps.getD 0 0))
  | _ => .non
theorem sgF_T {p : Nat → Bool} {c : Nat} : sgF p (.str (T [c])) = .bl (p c) := id rfl
/-- all of a text's signs -/
theorem all_signs {tg : Tg} {vs : List Nat} {elt : PD.E} {cf : CallF} {ρ : Env'} {l : List Nat} {p : Nat → Bool} {Q : D → Store → Prop} {E : XD} (hl : l.length ≤ 100000)
    (h : ∀ c ∈ l, ∃ ρ', bindT tg (.str (T [c])) (wipeD ρ vs) = some ρ' ∧ Wp (ev cf elt ρ' S) (fun d S' => d = .bl (p c) ∧ S' = S) noX) (k : Q (.bl (l.all p)) S) :
    Wps (compGo (turnD tg vs (evC cf .nil) (ev cf elt) ρ) (l.map fun c => .str (T [c])) S) (fun ys S => Wp (newL false ys S) (fun x S => Wp (bltD .all false [x] S) Q E) E) E := by
  refine comp_all (f := sgF p) (fun x hx => ?_) ?_
  · obtain ⟨c, hc, rfl⟩ := List.mem_map.mp hx
    obtain ⟨ρ', h1, h2⟩ := h c hc
    exact ⟨ρ', h1, h2⟩
  · have e : (l.map fun c => D.str (T [c])).map (sgF p) = (l.map p).map D.bl := by
      rw [List.map_map, List.map_map]
      exact List.map_congr_left fun c _ => rfl
    rw [e, newL_f (small (by simpa using hl)), wp_ok, blt_all, wp_ok, List.all_map]
    exact k
/-- a text's signs that are .. -/
theorem some_signs {tg : Tg} {vs : List Nat} {elt c0 : PD.E} {cf : CallF} {ρ : Env'} {l : List Nat} {p : Nat → Bool} {Q : D → Store → Prop} {E : XD} (hl : l.length ≤ 100000)
    (h : ∀ c ∈ l, ∃ ρ', bindT tg (.str (T [c])) (wipeD ρ vs) = some ρ' ∧ Wp (ev cf c0 ρ' S) (fun d S' => d = .bl (p c) ∧ S' = S) noX ∧ Wp (ev cf elt ρ' S) (fun d S' => d = .str (T [c]) ∧ S' = S) noX)
    (k : Q (.lst ((l.filter p).map fun c => .str (T [c]))) S) :
    Wps (compGo (turnD tg vs (evC cf (.cons c0 .nil)) (ev cf elt) ρ) (l.map fun c => .str (T [c])) S) (fun ys S => Wp (newL false ys S) Q E) E := by
  refine comp_if (f := id) (p := fun x => match sgF p x with | .bl b => b | _ => false) (fun x hx => ?_) ?_
  · obtain ⟨c, hc, rfl⟩ := List.mem_map.mp hx
    obtain ⟨ρ', h1, h2, h3⟩ := h c hc
    exact ⟨ρ', h1, h2, fun _ => h3⟩
  · have e : ((l.map fun c => D.str (T [c])).filter (fun x => match sgF p x with | .bl b => b | _ => false)).map id = (l.filter p).map fun c => .str (T [c]) := by
      rw [List.map_id, List.filter_map]
      congr 1
    rw [e, newL_f (small (by rw [List.length_map]; exact Nat.le_trans (List.length_filter_le _ _) hl)), wp_ok]
    exact k
/-- no such sign -/
theorem cmp_noSigns {op : Bool} {l : List Nat} {p : Nat → Bool} (h : ∀ c ∈ l, c < 1114112) : cmpD (if op then .Eq else .NotEq) (.lst ((l.filter p).map fun c => .str (T [c]))) (.lst []) S = .ok (.bl (op == l.all fun c => !p c)) S := by
  have hd : dat (.lst ((l.filter p).map fun c => D.str (T [c]))) 1 = true := by
    show datL _ 0 = true
    rw [datL_all, List.all_eq_true]
    intro x hx
    obtain ⟨c, hc, rfl⟩ := List.mem_map.mp hx
    exact dat_T fun c' h' => by rw [List.mem_singleton.mp h']; exact h c (List.mem_filter.mp hc).1
  have e : PyData.eqv (pd (.lst ((l.filter p).map fun c => D.str (T [c])))) (pd (.lst [])) = l.all fun c => !p c := by
    show PyData.eqv (.list (pdL _)) (.list []) = _
    rw [eqv_list, eqvAll_nil, pdL_map]
    induction l with
    | nil => rfl
    | cons c r ih =>
      rw [List.filter_cons, List.all_cons]
      cases p c
      · exact ih (fun c hc => h c (List.mem_cons_of_mem _ hc)) (by
          rw [show dat (.lst _) 1 = datL _ 0 from rfl, datL_all, List.all_eq_true]
          intro x hx
          obtain ⟨c, hc, rfl⟩ := List.mem_map.mp hx
          exact dat_T fun c' h' => by rw [List.mem_singleton.mp h']; exact h c (List.mem_cons_of_mem _ (List.mem_filter.mp hc).1))
      · rfl
  cases op
  · show cmpD .NotEq _ _ S = _
    rw [cmp_ne hd (show dat (.lst []) 1 = true from rfl) (by decide) (by decide), e]
    cases l.all fun c => !p c <;> rfl
  · show cmpD .Eq _ _ S = _
    rw [cmp_eq hd (show dat (.lst []) 1 = true from rfl) (by decide) (by decide), e]
    cases l.all fun c => !p c <;> rfl
/-- data of a known type, texts of signs, lists of such -/
def vlD (d : D) : Bool := known d && (match d with
  | .str z => z.cps.all (· < 0x110000)
  | _ => true)
theorem vl_known (h : vlD d = true) : known d = true := (PD.ba h).1
theorem vl_T {l : List Nat} (h : vlD (.str (T l)) = true) : ∀ c ∈ l, c < 1114112 := T_dat (n := 0) (PD.ba h).2
theorem idx_nat {xs : List D} {i : Nat} {v : D} (h : xs[i]? = some v) : L2.atI xs (i : Int) = some v := by
  obtain ⟨hl, _⟩ := List.getElem?_eq_some_iff.mp h
  unfold L2.atI L2.ixN
  rw [if_pos (by omega), if_pos (by omega)]
  exact h
theorem idx0 {x : D} {r : List D} : L2.atI (x :: r) 0 = some x := idx_nat (i := 0) rfl
theorem idx1 {x y : D} {r : List D} : L2.atI (x :: y :: r) 1 = some y := idx_nat (i := 1) rfl
theorem idx_seq {xs : List D} {i : Int} {v : D} (h : itemsD d = some xs) (e : L2.atI xs i = some v) : idxD d (.int i) S = .ok v S := by
  cases d with
  | lst ys => cases h; exact idx_lst e
  | tup ys => cases h; exact idx_tup e
  | _ => cases h
theorem cmp_eq_len {n m : Nat} {i : Int} (h : i = (m : Int)) : cmpD .Eq (.int (n : Int)) (.int i) S = .ok (.bl (decide (n = m))) S := by
  rw [cmp_eq_int, h]
  congr 2
  rw [Bool.eq_iff_iff, beq_iff_eq, decide_eq_true_iff]
  omega
theorem ws_forCons {g : D → Env' → Store → SOut} {x : D} {r : List D} {ρ : Env'} {N : En} : Ws (forGo g (x :: r) ρ S) N = Ws (g x ρ S) { N with nx := fun ρ S => Ws (forGo g r ρ S) N, ct := fun ρ S => Ws (forGo g r ρ S) N, bk := N.nx } := by
  conv => lhs; unfold forGo
  cases g x ρ S <;> rfl
theorem ws_forNil {g : D → Env' → Store → SOut} {ρ : Env'} {N : En} : Ws (forGo g [] ρ S) N = N.nx ρ S := id rfl
theorem cut_to {xs : List D} {n : Nat} : cutD xs none (some (n : Int)) = xs.take n := by
  unfold cutD HT.sIx
  simp [List.take_eq_take_iff]
  rw [if_neg (by omega)]
  omega
end PD
set_option maxHeartbeats 4000000
/-! PD24: lambdas handed on, lists that grow, texts compared, reprs, plainly -/
namespace PD
open PySem PySem.Spec L2
section
variable {cf : CallF} {ρ : Env'} {S : Store} {N : En} {Q : QD} {E : XD} {P : Pg} {k : Nat}
theorem wp_lamE {h : Nat} {e : PD.E} : Wp (ev cf (.lam h e) ρ S) Q E = Wp (cf.lam h (fun S => ev { CallF.no with fn := cf.low } e ρ S) S) Q E := by
  conv => lhs; unfold ev
  try rfl
theorem wp_ask : Wp (ev cf .ask (some .fnv :: ρ) S) Q E = Wp (cf.ask S) Q E := by
  conv => lhs; unfold ev
  rfl
theorem low_eq {f : Nat} {xs : List D} : (callK P (k + 2)).low f xs S = (callK P k).fn f xs S := id rfl
/-- a def that gets a lambda -/
theorem wp_lam {h : Nat} {fd : FD} {b : Store → EOut} (hf : P[h]? = some fd) (h1 : fd.np = 1)
    (hk : Ws (sts { CallF.no with fn := (callK P (k + 1)).fn, ask := b } fd.body (some .fnv :: List.replicate (fd.N.length - 1) none) S) { nx := fun _ S' => S'.length = S.length ∧ Q .non S', rt := fun d S' => S'.length = S.length ∧ Q d S', ex := fun x _ S' => S'.length = S.length ∧ E x S' }) : Wp ((callK P (k + 2)).lam h b S) Q E := by
  have e : (callK P (k + 2)).lam h b S = gc S.length (run { CallF.no with fn := (callK P (k + 1)).fn, ask := b } fd [.fnv] S) := by
    show (match P[h]? with | some fd => gc S.length (run { CallF.no with fn := (callK P (k + 1)).fn, ask := b } fd [.fnv] S) | none => .stuck) = _
    rw [hf]
  rw [e, gc_one]
  refine wp_run (show 1 = fd.np from h1.symm) ?_
  rw [h1]
  refine hk.mono (fun _ S' z => ?_) (fun d S' z => ?_) (fun _ _ z => z) (fun _ _ z => z) fun x _ S' z => ?_
  · obtain ⟨z1, z2⟩ := z
    show if _ then _ else _
    rw [← z1, List.take_length]; split <;> exact z2
  · obtain ⟨z1, z2⟩ := z
    show if _ then _ else _
    rw [← z1, List.take_length]; split <;> exact z2
  · obtain ⟨z1, z2⟩ := z
    show if _ then _ else _
    rw [← z1, List.take_length]; split <;> exact z2
def Fx (ρ : Env') (S : Store) (i : Nat) (K : Env' → Store → Prop) : Prop := match (ρ[i]? : Option (Option D)) with
  | some (some (.ref n)) => (match S[n]? with
    | some (.lst xs) => K (ρ.set i (some (.lst xs))) (S.set n .dead)
    | _ => False)
  | _ => False
theorem ws_fix {i : Nat} {r : Cms} : Ws (sts cf (.fix i r) ρ S) N = Fx ρ S i fun ρ S => Ws (sts cf r ρ S) N := by
  conv => lhs; unfold sts
  unfold Fx
  generalize (ρ[i]? : Option (Option D)) = o
  cases o with
  | none => rfl
  | some o =>
    cases o with
    | none => rfl
    | some d =>
      cases d with
      | ref n =>
        dsimp only
        generalize S[n]? = q
        cases q with
        | none => rfl
        | some m => cases m <;> rfl
      | _ => rfl
theorem fx_ref {i n : Nat} {xs : List D} {K : Env' → Store → Prop} (h : ρ[i]? = some (some (.ref n))) (h2 : S[n]? = some (.lst xs)) (k : K (ρ.set i (some (.lst xs))) (S.set n .dead)) : Fx ρ S i K := by
  unfold Fx
  rw [h]
  dsimp only
  rw [h2]
  exact k
theorem cmp_str {a b : Str} : cmpD .Eq (.str a) (.str b) S = .ok (.bl (decide (a = b))) S := id rfl
theorem cmp_strN {a b : Str} : cmpD .NotEq (.str a) (.str b) S = .ok (.bl (!decide (a = b))) S := id rfl
theorem cmp_T {a b : List Nat} : cmpD .Eq (.str (T a)) (.str (T b)) S = .ok (.bl (decide (a = b))) S := by
  rw [cmp_str]; congr 2; rw [decide_eq_decide]; exact T_inj
theorem cmp_TN {a b : List Nat} : cmpD .NotEq (.str (T a)) (.str (T b)) S = .ok (.bl (!decide (a = b))) S := by
  rw [cmp_strN]; congr 3; rw [decide_eq_decide]; exact T_inj
/-- a list that is empty -/
theorem eqD_nil {xs : List D} : eqD S (.lst xs) (.lst []) = some xs.isEmpty := by
  cases xs with
  | nil =>
    show (if lenNe S (.lst []) (.lst []) = true then some false else eqP S (.lst []) (.lst [])) = _
    rw [if_neg (show ¬ lenNe S (.lst []) (.lst []) = true by show ¬ (0 != 0) = true; decide)]
    show (if (SeqAt.shaped (.list []) && SeqAt.shaped (.list [])) = true then some (PyData.eqv (.list []) (.list [])) else none) = _
    rw [if_pos (by decide +kernel), eqv_list, eqvAll_nil]
    rfl
  | cons x r =>
    show (if lenNe S (.lst (x :: r)) (.lst []) = true then some false else eqP S (.lst (x :: r)) (.lst [])) = _
    rw [if_pos (show lenNe S (.lst (x :: r)) (.lst []) = true by show (r.length + 1 != 0) = true; simp)]
    rfl
theorem cmp_empty {xs : List D} : cmpD .Eq (.lst xs) (.lst []) S = .ok (.bl xs.isEmpty) S := by
  unfold cmpD
  simp only [eqD_nil]
theorem cmp_emptyN {xs : List D} : cmpD .NotEq (.lst xs) (.lst []) S = .ok (.bl (!xs.isEmpty)) S := by
  unfold cmpD
  simp only [eqD_nil, Option.map_some]
theorem app_ref {n : Nat} {xs : List D} {y : D} (h : S[n]? = some (.lst xs)) (hl : xs.length < sizeLine) : methD .append (.ref n) [y] S = .ok .non (S.set n (.lst (xs ++ [y]))) := by
  show appD S (.ref n) y = _
  unfold appD
  dsimp only
  rw [h]
  dsimp only
  rw [if_pos hl]
theorem self_ref {n : Nat} {xs : List D} (h : S[n]? = some (.lst xs)) : Mt.self S .append (.ref n) = true := by
  show (match S[n]? with | some (.lst _) => true | _ => false) = true
  rw [h]
theorem blt_max {i j : Int} {m : Bool} : bltD .max m [.int i, .int j] S = .ok (.int (if j > i then j else i)) S := id rfl
theorem blt_min {i j : Int} {m : Bool} : bltD .min m [.int i, .int j] S = .ok (.int (if j < i then j else i)) S := id rfl
/-! ### repr of a text -/
theorem blt_repr_s {l : List Nat} {m : Bool} (h : ∀ c ∈ l, c < 1114112) (hl : l.length ≤ 1000000) : bltD .repr m [.str (T l)] S = .ok (.str (reprText (T l))) S := by
  have e : (reprText (T l)).length ≤ sizeLine := by
    have := PySem.StrLaws.reprText_len (T l) (fun c hc => by rw [T_cps] at hc; have := h c hc; omega)
    rw [T_len] at this
    rw [sizeLine_eq]; omega
  show gvS S (reprD (.str (T l))) = _
  show gvS S (if (reprText (T l)).length ≤ sizeLine then some (reprText (T l)) else none) = _
  rw [if_pos e]; rfl
end
end PD
set_option maxHeartbeats 4000000
/-! PD25: texts cut at a sign, put together by one -/
namespace PD
open PySem PySem.Spec L2
def strT (l : List Nat) : D := .str (T l)
/-- put together by c -/
def jn (c : Nat) : List (List Nat) → List Nat
  | [] => []
  | [a] => a
  | a :: b :: r => a ++ c :: jn c (b :: r)
/-- cut at c -/
def spl (c : Nat) : List Nat → List (List Nat)
  | [] => [[]]
  | x :: r => if x = c then [] :: spl c r else match spl c r with
    | [] => [[x]]
    | a :: t => (x :: a) :: t
theorem spl_ne {c : Nat} : ∀ {l : List Nat}, spl c l ≠ []
  | [] => by unfold spl; exact fun z => nomatch z
  | x :: r => by
    unfold spl
    split
    · exact fun z => nomatch z
    · split <;> exact fun z => nomatch z
theorem spl_free {c : Nat} : ∀ {a : List Nat}, c ∉ a → spl c a = [a]
  | [], _ => rfl
  | x :: r, h => by
    unfold spl
    rw [if_neg fun z => h (by rw [z]; exact List.mem_cons_self), spl_free fun z => h (List.mem_cons_of_mem _ z)]
theorem spl_app {c : Nat} {s : List Nat} : ∀ {a : List Nat}, c ∉ a → spl c (a ++ c :: s) = a :: spl c s
  | [], _ => by
    show spl c (c :: s) = _
    conv => lhs; unfold spl
    rw [if_pos rfl]
  | x :: r, h => by
    show spl c (x :: (r ++ c :: s)) = _
    conv => lhs; unfold spl
    rw [if_neg fun z => h (by rw [z]; exact List.mem_cons_self), spl_app fun z => h (List.mem_cons_of_mem _ z)]
theorem spl_jn {c : Nat} : ∀ {p : List (List Nat)}, p ≠ [] → (∀ a ∈ p, c ∉ a) → spl c (jn c p) = p
  | [], h, _ => absurd rfl h
  | [a], _, h => spl_free (h a List.mem_cons_self)
  | a :: b :: r, _, h => by
    show spl c (a ++ c :: jn c (b :: r)) = _
    rw [spl_app (h a List.mem_cons_self), spl_jn (p := b :: r) (fun z => nomatch z) fun x hx => h x (List.mem_cons_of_mem _ hx)]
theorem jn_spl {c : Nat} : ∀ {l : List Nat}, jn c (spl c l) = l
  | [] => rfl
  | x :: r => by
    have ih := jn_spl (c := c) (l := r)
    unfold spl
    split
    · rename_i h
      have hne := spl_ne (c := c) (l := r)
      cases hs : spl c r with
      | nil => exact absurd hs hne
      | cons a t =>
        rw [hs] at ih
        show [] ++ c :: jn c (a :: t) = _
        rw [ih, h]; rfl
    · cases hs : spl c r with
      | nil => exact absurd hs spl_ne
      | cons a t =>
        rw [hs] at ih
        cases t with
        | nil => show x :: a = _; rw [show a = r from ih]
        | cons b t =>
          show (x :: a) ++ c :: jn c (b :: t) = _
          show x :: (a ++ c :: jn c (b :: t)) = _
          rw [show a ++ c :: jn c (b :: t) = r from ih]
theorem spl_frees {c : Nat} : ∀ {l : List Nat}, ∀ a ∈ spl c l, c ∉ a
  | [], a, h => by rw [List.mem_singleton.mp h]; exact fun z => nomatch z
  | x :: r, a, h => by
    have ih := spl_frees (c := c) (l := r)
    unfold spl at h
    split at h
    · rcases List.mem_cons.mp h with e | h
      · rw [e]; exact fun z => nomatch z
      · exact ih a h
    · rename_i hx
      split at h
      · rw [List.mem_singleton.mp h]
        exact fun z => hx (List.mem_singleton.mp z).symm
      · rename_i b t hs
        rcases List.mem_cons.mp h with e | h
        · rw [e]
          intro z
          rcases List.mem_cons.mp z with z | z
          · exact hx z.symm
          · exact ih b (by rw [hs]; exact List.mem_cons_self) z
        · exact ih a (by rw [hs]; exact List.mem_cons_of_mem _ h)
theorem spl_mem {c : Nat} : ∀ {l : List Nat}, ∀ a ∈ spl c l, ∀ x ∈ a, x ∈ l
  | [], a, h, x, hx => by rw [List.mem_singleton.mp h] at hx; cases hx
  | y :: r, a, h, x, hx => by
    have ih := spl_mem (c := c) (l := r)
    unfold spl at h
    split at h
    · rcases List.mem_cons.mp h with e | h
      · rw [e] at hx; cases hx
      · exact List.mem_cons_of_mem _ (ih a h x hx)
    · split at h
      · rw [List.mem_singleton.mp h] at hx
        rw [List.mem_singleton.mp hx]; exact List.mem_cons_self
      · rename_i b t hs
        rcases List.mem_cons.mp h with e | h
        · rw [e] at hx
          rcases List.mem_cons.mp hx with z | z
          · rw [z]; exact List.mem_cons_self
          · exact List.mem_cons_of_mem _ (ih b (by rw [hs]; exact List.mem_cons_self) x z)
        · exact List.mem_cons_of_mem _ (ih a (by rw [hs]; exact List.mem_cons_of_mem _ h) x hx)
theorem spl_len {c : Nat} : ∀ {l : List Nat}, (spl c l).length ≤ l.length + 1 ∧ ∀ a ∈ spl c l, a.length ≤ l.length
  | [] => ⟨Nat.le_refl _, fun a h => by rw [List.mem_singleton.mp h]; exact Nat.le_refl _⟩
  | y :: r => by
    obtain ⟨h1, h2⟩ := spl_len (c := c) (l := r)
    unfold spl
    split
    · refine ⟨Nat.succ_le_succ h1, fun a h => ?_⟩
      rcases List.mem_cons.mp h with e | h
      · rw [e]; exact Nat.zero_le _
      · exact Nat.le_trans (h2 a h) (Nat.le_succ _)
    · split
      · refine ⟨by show 1 ≤ r.length + 1 + 1; omega, fun a h => ?_⟩
        rw [List.mem_singleton.mp h]
        show 1 ≤ r.length + 1
        omega
      · rename_i b t hs
        rw [hs] at h1 h2
        refine ⟨by rw [List.length_cons] at h1 ⊢; rw [List.length_cons]; omega, fun a h => ?_⟩
        rcases List.mem_cons.mp h with e | h
        · rw [e, List.length_cons, List.length_cons]
          exact Nat.succ_le_succ (h2 b List.mem_cons_self)
        · exact Nat.le_trans (h2 a (List.mem_cons_of_mem _ h)) (Nat.le_succ _)
theorem join_jn {c : Nat} : ∀ {p : List (List Nat)}, Str.join (T [c]) (p.map T) = T (jn c p)
  | [] => rfl
  | [a] => rfl
  | a :: b :: r => by
    have ih := join_jn (c := c) (p := b :: r)
    show T a ++ T [c] ++ Str.join (T [c]) (T b :: r.map T) = _
    rw [show Str.join (T [c]) (T b :: r.map T) = T (jn c (b :: r)) from ih, T_append, T_append]
    show T (a ++ [c] ++ jn c (b :: r)) = T (a ++ c :: jn c (b :: r))
    rw [List.append_assoc]; rfl
theorem tjoin {c : Nat} {p : List (List Nat)} : Txt.join (T [c]) (p.map T) = T (jn c p) := by
  show Builtin.Str.glued (T [c]) (p.map T) = _
  rw [StrLaws.glued_eq_join, join_jn]
theorem tsplit {c : Nat} {l : List Nat} : Txt.split (T l) (T [c]) = (spl c l).map T := by
  have e : (T [c] : Str) = ⟨#[c]⟩ := rfl
  have h1 := StrLaws.join_split (T l) (T [c])
  have h2 := StrLaws.split_free (T l) c
  have h3 := PyProof.Rows.split_pos (T l) (T [c])
  rw [← e] at h2
  have hT : ((Txt.split (T l) (T [c])).map fun z => z.cps.toList).map T = Txt.split (T l) (T [c]) := by
    rw [List.map_map]
    conv => rhs; rw [← List.map_id (Txt.split (T l) (T [c]))]
    exact List.map_congr_left fun z _ => T_of z
  rw [← hT, join_jn] at h1
  have h1 := T_inj.mp h1
  have h4 := spl_jn (c := c) (p := (Txt.split (T l) (T [c])).map fun z => z.cps.toList) (fun z => by
    rw [List.map_eq_nil_iff] at z
    rw [z] at h3; cases h3) (fun a ha => by
    obtain ⟨z, hz, rfl⟩ := List.mem_map.mp ha
    exact h2 z hz)
  rw [h1] at h4
  rw [h4, hT]
section
variable {S : Store} {c : Nat}
theorem meth_split {l : List Nat} (h : l.length ≤ 100000) : methD .split (strT l) [strT [c]] S = .ok (.lst ((spl c l).map strT)) S := by
  obtain ⟨h1, h2⟩ := spl_len (c := c) (l := l)
  show splitD S (.str (T l)) (.str (T [c])) = _
  unfold splitD
  dsimp only
  rw [tsplit, if_pos ⟨rfl, by rw [T_len, sizeLine_eq]; omega, by
    rw [List.all_eq_true]
    intro z hz
    obtain ⟨a, ha, rfl⟩ := List.mem_map.mp hz
    refine decide_eq_true ?_
    have := h2 a ha
    rw [T_len, sizeLine_eq]; omega⟩, List.map_map, newL_f (by rw [List.length_map, sizeLine_eq]; omega)]
  rfl
theorem strsOf_strT : ∀ p : List (List Nat), strsOf (p.map strT) = some (p.map T)
  | [] => rfl
  | a :: r => by
    show (strsOf (r.map strT)).map (T a :: ·) = _
    rw [strsOf_strT r]; rfl
theorem lenJ_p {p : List (List Nat)} {z : Str} (n : Nat) (h : ∀ a ∈ p, a.length ≤ n) : lenJ z (p.map T) ≤ p.length * (n + z.length) := by
  unfold lenJ
  have : ((p.map T).map Str.length).sum ≤ p.length * n := by
    induction p with
    | nil => simp
    | cons a r ih =>
      have h1 := ih fun b hb => h b (List.mem_cons_of_mem _ hb)
      have h2 := h a List.mem_cons_self
      rw [List.map_cons, List.map_cons, List.sum_cons, T_len, List.length_cons, Nat.succ_mul]
      omega
  rw [List.length_map, Nat.mul_add]
  omega
/-- a list, a tuple of texts put together -/
theorem meth_joinC {d : D} {p : List (List Nat)} (hd : itemsD d = some (p.map strT)) (n : Nat) (h : ∀ a ∈ p, a.length ≤ n) (hl : p.length * (n + 1) ≤ 100000) : methD .join (strT [c]) [d] S = .ok (strT (jn c p)) S := by
  have e : itemsOf S d = some (p.map strT) := by cases d <;> first | exact hd | cases hd
  show (match (itemsOf S d).bind strsOf with | some zs => if lenJ (T [c]) zs ≤ sizeLine then EOut.ok (.str (Txt.join (T [c]) zs)) S else .stuck | none => .stuck) = _
  rw [e, Option.bind_some, strsOf_strT]
  dsimp only
  have := lenJ_p (z := T [c]) n h
  rw [T_len] at this
  rw [if_pos (small (by show lenJ (T [c]) (p.map T) ≤ 100000; have e : ([c] : List Nat).length = 1 := rfl; rw [e] at this; omega)), tjoin]
  rfl
theorem blt_tuple_l {xs : List D} {m : Bool} (h : xs.length ≤ 100000) : bltD .tuple m [.lst xs] S = .ok (.tup xs) S := by
  show newT xs S = _
  exact newT_ok (small h)
theorem blt_list_t {xs : List D} (h : xs.length ≤ 100000) : bltD .list false [.tup xs] S = .ok (.lst xs) S := by
  show newL false xs S = _
  exact newL_f (small h)
theorem join_T0 : ∀ (cs : List Nat), Txt.join (T []) (cs.map fun c => T [c]) = T cs := by
  have key : ∀ (cs : List Nat) (acc : Array Nat), (cs.map fun c => T [c]).foldl (fun acc p => acc ++ (T []).cps ++ p.cps) acc = acc ++ cs.toArray := by
    intro cs
    induction cs with
    | nil => intro acc; simp
    | cons c r ih =>
      intro acc
      rw [List.map_cons, List.foldl_cons, ih]
      simp [T]
  intro cs
  cases cs with
  | nil => rfl
  | cons c r =>
    show (⟨((r.map fun c => T [c]).foldl (fun acc p => acc ++ (T []).cps ++ p.cps) (T [c]).cps)⟩ : Str) = _
    rw [key]
    simp [T]
theorem strsOf_T1 : ∀ cs : List Nat, strsOf (cs.map fun c => strT [c]) = some (cs.map fun c => T [c])
  | [] => rfl
  | c :: r => by
    show (strsOf (r.map fun c => strT [c])).map (T [c] :: ·) = _
    rw [strsOf_T1 r]; rfl
/-- signs put together -/
theorem meth_join0 {cs : List Nat} (h : cs.length ≤ 100000) : methD .join (.str (T [])) [.lst (cs.map fun c => strT [c])] S = .ok (strT cs) S := by
  show (match (some (cs.map fun c => strT [c])).bind strsOf with | some zs => if lenJ (T []) zs ≤ sizeLine then EOut.ok (.str (Txt.join (T []) zs)) S else .stuck | none => .stuck) = _
  rw [Option.bind_some, strsOf_T1]
  dsimp only
  have hl : lenJ (T []) (cs.map fun c => T [c]) = cs.length := by
    unfold lenJ
    rw [List.map_map, T_len]
    have : (cs.map (Str.length ∘ fun c => T [c])) = cs.map fun _ => 1 := List.map_congr_left fun c _ => T_len [c]
    rw [this, List.map_const', List.sum_replicate_nat]
    simp
  rw [hl, if_pos (small h), join_T0]; rfl
/-- drawn signs -/
theorem signs_of {p : Nat → Prop} : ∀ {ys : List D}, (∀ y ∈ ys, ∃ c, p c ∧ y = strT [c]) → ∃ cs : List Nat, ys = cs.map (fun c => strT [c]) ∧ ∀ c ∈ cs, p c
  | [], _ => ⟨[], rfl, fun _ z => nomatch z⟩
  | y :: r, h => by
    obtain ⟨c, hc, rfl⟩ := h y List.mem_cons_self
    obtain ⟨cs, rfl, h2⟩ := signs_of fun y hy => h y (List.mem_cons_of_mem _ hy)
    exact ⟨c :: cs, rfl, fun x hx => by
      rcases List.mem_cons.mp hx with e | hx
      · rw [e]; exact hc
      · exact h2 x hx⟩
theorem texts_of {p : List Nat → Prop} : ∀ {ys : List D}, (∀ y ∈ ys, ∃ a, p a ∧ y = strT a) → ∃ cs : List (List Nat), ys = cs.map strT ∧ ∀ c ∈ cs, p c
  | [], _ => ⟨[], rfl, fun _ z => nomatch z⟩
  | y :: r, h => by
    obtain ⟨c, hc, rfl⟩ := h y List.mem_cons_self
    obtain ⟨cs, rfl, h2⟩ := texts_of fun y hy => h y (List.mem_cons_of_mem _ hy)
    exact ⟨c :: cs, rfl, fun x hx => by
      rcases List.mem_cons.mp hx with e | hx
      · rw [e]; exact hc
      · exact h2 x hx⟩
theorem self_split {l : List Nat} : Mt.self S .split (strT l) = true := id rfl
theorem self_join {l : List Nat} : Mt.self S .join (strT l) = true := id rfl
end
theorem cutN_to {l : List Nat} {n : Nat} : cutN l none (some (n : Int)) = l.take n := by
  unfold cutN HT.sIx
  simp [List.take_eq_take_iff]
  rw [if_neg (by omega)]
  omega
theorem cutN_from {l : List Nat} {n : Nat} : cutN l (some (n : Int)) none = l.drop n := by
  unfold cutN HT.sIx
  dsimp only
  rw [if_neg (by omega)]
  rw [List.take_of_length_le (by rw [List.length_drop]; omega)]
  by_cases h : n ≤ l.length
  · congr 1; omega
  · rw [List.drop_eq_nil_of_le (by omega), List.drop_eq_nil_of_le (by omega)]
theorem slc_to {m : Bool} {l : List Nat} {n : Nat} {i : Int} {S : Store} (h : i = (n : Int)) : slcD m (.str (T l)) none (some i) S = .ok (strT (l.take n)) S := by
  subst h
  show EOut.ok (.str (T (cutN (T l).cps.toList none (some (n : Int))))) S = _
  rw [T_cps, cutN_to]; rfl
theorem slc_from {m : Bool} {l : List Nat} {n : Nat} {i : Int} {S : Store} (h : i = (n : Int)) : slcD m (.str (T l)) (some i) none S = .ok (strT (l.drop n)) S := by
  subst h
  show EOut.ok (.str (T (cutN (T l).cps.toList (some (n : Int)) none))) S = _
  rw [T_cps, cutN_from]; rfl
theorem cat_T {m : Bool} {a b : List Nat} {S : Store} (h : (a ++ b).length ≤ 100000) : catD m (strT a) (strT b) S = .ok (strT (a ++ b)) S := by
  show newS (T a ++ T b) S = _
  rw [T_append]
  unfold newS
  rw [if_pos (by rw [T_len]; exact small h)]; rfl
theorem bin_T {a b : List Nat} {S : Store} (h : (a ++ b).length ≤ 100000) : binD .Add (strT a) (strT b) S = .ok (strT (a ++ b)) S := by
  show newS (T a ++ T b) S = _
  rw [T_append]
  unfold newS
  rw [if_pos (by rw [T_len]; exact small h)]; rfl
/-- texts in a row alike -/
theorem eqv_strs {p q : List (List Nat)} : PyData.eqvAll (pdL (p.map strT)) (pdL (q.map strT)) = decide (p = q) := by
  induction p generalizing q with
  | nil =>
    cases q with
    | nil => show PyData.eqvAll [] [] = _; rw [eqvAll_nil]; rfl
    | cons b q => show PyData.eqvAll [] (_ :: _) = _; rw [PyData.eqvAll] <;> simp
  | cons a p ih =>
    cases q with
    | nil => show PyData.eqvAll (_ :: _) [] = _; rw [eqvAll_nil]; simp
    | cons b q =>
      show PyData.eqvAll (.str (T a) :: pdL (p.map strT)) (.str (T b) :: pdL (q.map strT)) = _
      rw [eqvAll_cons, eqv_T, ih]
      by_cases h1 : a = b <;> by_cases h2 : p = q <;> simp [h1, h2]
theorem datL_strs {p : List (List Nat)} {n : Nat} (h : ∀ a ∈ p, ∀ c ∈ a, c < 1114112) : datL (p.map strT) n = true := by
  rw [datL_all, List.all_eq_true]
  intro x hx
  obtain ⟨a, ha, rfl⟩ := List.mem_map.mp hx
  exact dat_T (h a ha)
theorem cmp_tups {p q : List (List Nat)} {S : Store} (hp : ∀ a ∈ p, ∀ c ∈ a, c < 1114112) (hq : ∀ a ∈ q, ∀ c ∈ a, c < 1114112) : cmpD .Eq (.tup (p.map strT)) (.tup (q.map strT)) S = .ok (.bl (decide (p = q))) S := by
  rw [cmp_eq (n := 1) (m := 1) (show dat (.tup (p.map strT)) 1 = true from datL_strs hp) (show dat (.tup (q.map strT)) 1 = true from datL_strs hq) (by decide) (by decide)]
  show EOut.ok (.bl (PyData.eqv (.tuple _) (.tuple _))) S = _
  rw [eqv_tuple, eqv_strs]
end PD
set_option maxHeartbeats 4000000
/-! PD26: how long a repr is -/
namespace PD
open PySem PySem.Spec L2
mutual
/-- so long at most -/
def wt : PyData → Nat
  | .none => 4
  | .bool _ => 5
  | .int i => (PyData.shown (.int i)).length
  | .str x => 10 * x.length + 2
  | .list xs => wtA xs + 2
  | .tuple xs => wtA xs + 3
  | .dict kvs => wtK kvs + 2
def wtA : List PyData → Nat
  | [] => 0
  | x :: r => wt x + 2 + wtA r
def wtK : List (PyData × PyData) → Nat
  | [] => 0
  | (k, v) :: r => wt k + wt v + 4 + wtK r
end
mutual
/-- its texts' signs are signs -/
def sgn : PyData → Bool
  | .str x => x.cps.all (· < 0x110000)
  | .list xs => sgnA xs
  | .tuple xs => sgnA xs
  | .dict kvs => sgnK kvs
  | _ => true
def sgnA : List PyData → Bool
  | [] => true
  | x :: r => sgn x && sgnA r
def sgnK : List (PyData × PyData) → Bool
  | [] => true
  | (k, v) :: r => sgn k && (sgn v && sgnK r)
end
def sumL (ts : List Str) : Nat := (ts.map fun t => t.length + 2).sum
theorem textFrom_le : ∀ (ts : List Str) (k : Nat) (acc : Str), (textFrom k acc ts).length ≤ acc.length + sumL ts
  | [], k, acc => Nat.le_refl _
  | t :: r, k, acc => by
    have h := textFrom_le r (k + 1) (acc ++ (if k > 0 then ", " else "" : String) ++ t)
    have e : (acc ++ (if k > 0 then ", " else "" : String) ++ t).length = acc.length + (if k > 0 then 2 else 0) + t.length := by
      rw [Str.length_append, Str.length_append]
      split <;> rfl
    refine Nat.le_trans h ?_
    rw [e]
    show acc.length + (if k > 0 then 2 else 0) + t.length + sumL r ≤ acc.length + (t.length + 2 + sumL r)
    split <;> omega
theorem join_le (ts : List Str) : (Str.join ", " ts).length ≤ sumL ts := by
  have h := StrLaws.join_length_le ", " ts
  have e : ((", " : String) : Str).length = 2 := rfl
  rw [e] at h
  have : (ts.map (·.length)).sum + ts.length * 2 = sumL ts := by
    unfold sumL
    clear h
    induction ts with
    | nil => rfl
    | cons t r ih => rw [List.map_cons, List.map_cons, List.sum_cons, List.sum_cons, List.length_cons]; omega
  omega
mutual
theorem shown_le : ∀ {d : PyData}, sgn d = true → d.shown.length ≤ wt d
  | .none, _ => Nat.le_refl 4
  | .bool b, _ => by cases b <;> decide
  | .int i, _ => Nat.le_refl _
  | .str x, h => by
    have h : x.cps.all (fun c => decide (c < 0x110000)) = true := h
    refine Nat.le_trans (StrLaws.reprText_len x fun c hc => ?_) (Nat.le_refl _)
    rw [Array.all_eq_true'] at h
    have := of_decide_eq_true (h c (by simpa using hc))
    omega
  | .list xs, h => by
    have := shownAll_le (show sgnA xs = true from h)
    show (textFrom 0 "[" (PyData.shownAll xs) ++ "]" : Str).length ≤ wtA xs + 2
    rw [Str.length_append]
    have h1 := textFrom_le (PyData.shownAll xs) 0 "["
    have e1 : (("[" : String) : Str).length = 1 := rfl
    have e2 : (("]" : String) : Str).length = 1 := rfl
    rw [e1] at h1
    rw [e2]
    omega
  | .tuple xs, h => by
    have := shownAll_le (show sgnA xs = true from h)
    show (("(" : Str) ++ Str.join ", " (PyData.shownAll xs) ++ (if (PyData.shownAll xs).length == 1 then ",)" else ")" : String)).length ≤ wtA xs + 3
    rw [Str.length_append, Str.length_append]
    have h1 := join_le (PyData.shownAll xs)
    have e1 : (("(" : String) : Str).length = 1 := rfl
    rw [e1]
    split
    · have e2 : ((",)" : String) : Str).length = 2 := rfl
      rw [e2]; omega
    · have e2 : ((")" : String) : Str).length = 1 := rfl
      rw [e2]; omega
  | .dict kvs, h => by
    have := shownKv_le (show sgnK kvs = true from h)
    show (("{" : Str) ++ Str.join ", " (PyData.shownKv kvs) ++ "}").length ≤ wtK kvs + 2
    rw [Str.length_append, Str.length_append]
    have h1 := join_le (PyData.shownKv kvs)
    have e1 : (("{" : String) : Str).length = 1 := rfl
    have e2 : (("}" : String) : Str).length = 1 := rfl
    rw [e1, e2]; omega
theorem shownAll_le : ∀ {ds : List PyData}, sgnA ds = true → sumL (PyData.shownAll ds) ≤ wtA ds
  | [], _ => Nat.le_refl _
  | d :: r, h => by
    obtain ⟨h1, h2⟩ := PD.ba (show (sgn d && sgnA r) = true from h)
    have a := shown_le h1
    have b := shownAll_le h2
    show d.shown.length + 2 + sumL (PyData.shownAll r) ≤ wt d + 2 + wtA r
    omega
theorem shownKv_le : ∀ {ds : List (PyData × PyData)}, sgnK ds = true → sumL (PyData.shownKv ds) ≤ wtK ds
  | [], _ => Nat.le_refl _
  | (k, v) :: r, h => by
    obtain ⟨h1, h2⟩ := PD.ba (show (sgn k && (sgn v && sgnK r)) = true from h)
    obtain ⟨h2, h3⟩ := PD.ba h2
    have a := shown_le h1
    have b := shown_le h2
    have c := shownKv_le h3
    show (k.shown ++ ": " ++ v.shown).length + 2 + sumL (PyData.shownKv r) ≤ wt k + wt v + 4 + wtK r
    rw [Str.length_append, Str.length_append]
    have e : ((": " : String) : Str).length = 2 := rfl
    rw [e]; omega
end
mutual
/-- plain data, dicts too, not deep -/
def datq : D → Nat → Bool
  | .non, _ => true
  | .bl _, _ => true
  | .int _, _ => true
  | .str x, _ => x.cps.all (· < 0x110000)
  | .tup xs, n => (match n with
    | 0 => false
    | n + 1 => datqL xs n)
  | .lst xs, n => (match n with
    | 0 => false
    | n + 1 => datqL xs n)
  | .dic kvs, n => (match n with
    | 0 => false
    | n + 1 => datqK kvs n)
  | _, _ => false
def datqL : List D → Nat → Bool
  | [], _ => true
  | d :: r, n => datq d n && datqL r n
def datqK : List (Key × D) → Nat → Bool
  | [], _ => true
  | d :: r, n => (match d.1 with
    | .inl _ => true
    | .inr x => x.cps.all (· < 0x110000)) && (datq d.2 n && datqK r n)
end
theorem key_sgn {k : Key} (h : (match k with | .inl _ => true | .inr x => x.cps.all (· < 0x110000)) = true) : sgn (encK k) = true ∧ (encK k).depth = 0 := by
  cases k with
  | inl i => exact ⟨rfl, rfl⟩
  | inr x => exact ⟨h, rfl⟩
mutual
theorem datq_ok : ∀ {d : D} {n : Nat}, datq d n = true → toQ d = some (pd d) ∧ sgn (pd d) = true ∧ (pd d).depth ≤ n
  | .non, _, _ => ⟨rfl, rfl, Nat.zero_le _⟩
  | .bl _, _, _ => ⟨rfl, rfl, Nat.zero_le _⟩
  | .int _, _, _ => ⟨rfl, rfl, Nat.zero_le _⟩
  | .str _, _, h => ⟨rfl, h, Nat.zero_le _⟩
  | .tup xs, 0, h => by cases h
  | .lst xs, 0, h => by cases h
  | .dic xs, 0, h => by cases h
  | .tup xs, n + 1, h => by
    obtain ⟨h1, h2, h3⟩ := datqL_ok (show datqL xs n = true from h)
    refine ⟨?_, h2, Nat.succ_le_succ h3⟩
    unfold toQ
    rw [h1]; rfl
  | .lst xs, n + 1, h => by
    obtain ⟨h1, h2, h3⟩ := datqL_ok (show datqL xs n = true from h)
    refine ⟨?_, h2, Nat.succ_le_succ h3⟩
    unfold toQ
    rw [h1]; rfl
  | .dic xs, n + 1, h => by
    obtain ⟨h1, h2, h3⟩ := datqK_ok (show datqK xs n = true from h)
    refine ⟨?_, h2, Nat.succ_le_succ h3⟩
    unfold toQ
    rw [h1]; rfl
  | .dct, _, h => by cases h
  | .fnv, _, h => by cases h
  | .ins _ _, _, h => by cases h
  | .exc _ _, _, h => by cases h
  | .ref _, _, h => by cases h
  | .cls _, _, h => by cases h
  | .ty _, _, h => by cases h
theorem datqL_ok : ∀ {d : List D} {n : Nat}, datqL d n = true → toQL d = some (pdL d) ∧ sgnA (pdL d) = true ∧ PyData.depthAll (pdL d) ≤ n
  | [], _, _ => ⟨rfl, rfl, Nat.zero_le _⟩
  | d :: r, n, h => by
    obtain ⟨h1, h2⟩ := PD.ba (show (datq d n && datqL r n) = true from h)
    obtain ⟨a1, a2, a3⟩ := datq_ok h1
    obtain ⟨b1, b2, b3⟩ := datqL_ok h2
    refine ⟨by unfold toQL; rw [a1, b1]; rfl, by show (sgn (pd d) && sgnA (pdL r)) = true; rw [a2, b2]; rfl, ?_⟩
    show max (pd d).depth (PyData.depthAll (pdL r)) ≤ n
    omega
theorem datqK_ok : ∀ {d : List (Key × D)} {n : Nat}, datqK d n = true → toQK d = some (pdK d) ∧ sgnK (pdK d) = true ∧ PyData.depthKv (pdK d) ≤ n
  | [], _, _ => ⟨rfl, rfl, Nat.zero_le _⟩
  | d :: r, n, h => by
    obtain ⟨h1, h2⟩ := PD.ba (show ((match d.1 with | .inl _ => true | .inr x => x.cps.all (· < 0x110000)) && (datq d.2 n && datqK r n)) = true from h)
    obtain ⟨h2, h3⟩ := PD.ba h2
    obtain ⟨k1, k2⟩ := key_sgn h1
    obtain ⟨a1, a2, a3⟩ := datq_ok h2
    obtain ⟨b1, b2, b3⟩ := datqK_ok h3
    refine ⟨by unfold toQK; rw [a1, b1]; rfl, by show (sgn (encK d.1) && (sgn (pd d.2) && sgnK (pdK r))) = true; rw [k1, a2, b2]; rfl, ?_⟩
    show max (max (encK d.1).depth (pd d.2).depth) (PyData.depthKv (pdK r)) ≤ n
    omega
end
mutual
theorem dat_q : ∀ {d : D} {n : Nat}, dat d n = true → datq d n = true
  | .non, _, _ => rfl
  | .bl _, _, _ => rfl
  | .int _, _, _ => rfl
  | .str _, _, h => h
  | .tup xs, 0, h => by cases h
  | .lst xs, 0, h => by cases h
  | .tup xs, n + 1, h => datL_q (show datL xs n = true from h)
  | .lst xs, n + 1, h => datL_q (show datL xs n = true from h)
  | .dic _, _, h => by cases h
  | .dct, _, h => by cases h
  | .fnv, _, h => by cases h
  | .ins _ _, _, h => by cases h
  | .exc _ _, _, h => by cases h
  | .ref _, _, h => by cases h
  | .cls _, _, h => by cases h
  | .ty _, _, h => by cases h
theorem datL_q : ∀ {d : List D} {n : Nat}, datL d n = true → datqL d n = true
  | [], _, _ => rfl
  | d :: r, n, h => by
    obtain ⟨h1, h2⟩ := PD.ba (show (dat d n && datL r n) = true from h)
    show (datq d n && datqL r n) = true
    rw [dat_q h1, datL_q h2]; rfl
end
/-- a repr is there -/
theorem reprPd_dat {d : D} {n : Nat} (h : datq d n = true) (hn : n ≤ 50) (hs : (pd d).showable = true) (hw : wt (pd d) ≤ 1000000) : reprPd (pd d) = some (pd d).shown := by
  obtain ⟨_, h1, hd⟩ := datq_ok h
  unfold reprPd
  rw [hs, Nat.ble_eq_true_of_le (by omega : (pd d).depth ≤ 50), decide_eq_true (show (pd d).shown.length ≤ sizeLine by have := shown_le h1; rw [sizeLine_eq]; omega)]
  rfl
theorem blt_repr_tup {S : Store} {xs : List D} {m : Bool} {n : Nat} (h : datqL xs n = true) (hn : n ≤ 49) (hs : PyData.showableAll (pdL xs) = true) (hw : wtA (pdL xs) ≤ 100000) : bltD .repr m [.tup xs] S = .ok (.str (PyData.shown (.tuple (pdL xs)))) S := by
  have hd : datq (.tup xs) (n + 1) = true := h
  show gvS S ((toQ (.tup xs)).bind reprPd) = _
  rw [(datq_ok hd).1]
  show gvS S (reprPd (pd (.tup xs))) = _
  rw [reprPd_dat hd (by omega) hs (by show wtA (pdL xs) + 3 ≤ _; omega)]
  rfl
theorem blt_repr_lst {S : Store} {xs : List D} {m : Bool} {n : Nat} (h : datqL xs n = true) (hn : n ≤ 49) (hs : PyData.showableAll (pdL xs) = true) (hw : wtA (pdL xs) ≤ 100000) : bltD .repr m [.lst xs] S = .ok (.str (PyData.shown (.list (pdL xs)))) S := by
  have hd : datq (.lst xs) (n + 1) = true := h
  show gvS S ((toQ (.lst xs)).bind reprPd) = _
  rw [(datq_ok hd).1]
  show gvS S (reprPd (pd (.lst xs))) = _
  rw [reprPd_dat hd (by omega) hs (by show wtA (pdL xs) + 2 ≤ _; omega)]
  rfl
theorem showable_strs : ∀ {p : List (List Nat)}, PyData.showableAll (pdL (p.map strT)) = true
  | [] => rfl
  | a :: r => by show (true && PyData.showableAll (pdL (r.map strT))) = true; rw [showable_strs]; rfl
theorem wt_strs {n : Nat} : ∀ {p : List (List Nat)}, (∀ a ∈ p, a.length ≤ n) → wtA (pdL (p.map strT)) ≤ p.length * (10 * n + 4)
  | [], _ => Nat.zero_le _
  | a :: r, h => by
    have h1 := h a List.mem_cons_self
    have h2 := wt_strs fun b hb => h b (List.mem_cons_of_mem _ hb)
    show (10 * (T a).length + 2) + 2 + wtA (pdL (r.map strT)) ≤ (r.length + 1) * (10 * n + 4)
    rw [T_len, Nat.add_mul r.length 1, Nat.one_mul]
    omega
/-- repr of a row of texts -/
theorem blt_repr_strs {S : Store} {p : List (List Nat)} {m : Bool} (h : ∀ a ∈ p, ∀ c ∈ a, c < 1114112) (n : Nat) (hl : ∀ a ∈ p, a.length ≤ n) (hw : p.length * (10 * n + 4) ≤ 100000) : bltD .repr m [.tup (p.map strT)] S = .ok (.str (PyData.shown (.tuple (pdL (p.map strT))))) S :=
  blt_repr_tup (n := 0) (datL_q (datL_strs h)) (by decide) showable_strs (Nat.le_trans (wt_strs hl) hw)
end PD
set_option maxHeartbeats 4000000
/-! PD27: slices, ranges, rows of texts, plainly -/
namespace PD
open PySem PySem.Spec L2
section
variable {S : Store} {xs : List D} {n : Nat} {i : Int} {m : Bool}
theorem cut_from {xs : List D} {n : Nat} : cutD xs (some (n : Int)) none = xs.drop n := by
  unfold cutD HT.sIx
  dsimp only
  rw [if_neg (by omega)]
  rw [List.take_of_length_le (by rw [List.length_drop]; omega)]
  by_cases h : n ≤ xs.length
  · congr 1; omega
  · rw [List.drop_eq_nil_of_le (by omega), List.drop_eq_nil_of_le (by omega)]
theorem slc_tt (h : i = (n : Int)) : slcD m (.tup xs) none (some i) S = .ok (.tup (xs.take n)) S := by
  subst h
  show EOut.ok (.tup (cutD xs none (some (n : Int)))) S = _
  rw [cut_to]
theorem slc_tf (h : i = (n : Int)) : slcD m (.tup xs) (some i) none S = .ok (.tup (xs.drop n)) S := by
  subst h
  show EOut.ok (.tup (cutD xs (some (n : Int)) none)) S = _
  rw [cut_from]
theorem slc_lt (hl : xs.length ≤ 100000) (h : i = (n : Int)) : slcD false (.lst xs) none (some i) S = .ok (.lst (xs.take n)) S := by
  subst h
  show newL false (cutD xs none (some (n : Int))) S = _
  rw [cut_to, newL_f (small (by rw [List.length_take]; omega))]
theorem slc_lf (hl : xs.length ≤ 100000) (h : i = (n : Int)) : slcD false (.lst xs) (some i) none S = .ok (.lst (xs.drop n)) S := by
  subst h
  show newL false (cutD xs (some (n : Int)) none) S = _
  rw [cut_from, newL_f (small (by rw [List.length_drop]; omega))]
/-- all but the last -/
theorem cut_last {xs : List D} : cutD xs none (some (-1)) = xs.take (xs.length - 1) := by
  unfold cutD HT.sIx
  dsimp only
  rw [if_pos (by decide), Nat.sub_zero, List.drop_zero]
  by_cases h : xs = []
  · subst h; rfl
  · have : 0 < xs.length := List.length_pos_iff.mpr h
    rw [List.take_eq_take_iff]
    omega
theorem slc_t1 : slcD m (.tup xs) none (some (-1)) S = .ok (.tup (xs.take (xs.length - 1))) S := by
  show EOut.ok (.tup (cutD xs none (some (-1)))) S = _
  rw [cut_last]
theorem slc_l1 (hl : xs.length ≤ 100000) : slcD false (.lst xs) none (some (-1)) S = .ok (.lst (xs.take (xs.length - 1))) S := by
  show newL false (cutD xs none (some (-1))) S = _
  rw [cut_last, newL_f (small (by rw [List.length_take]; omega))]
/-- sequences cut -/
def reseq (d : D) (xs : List D) : D := match d with
  | .lst _ => .lst xs
  | _ => .tup xs
variable {d : D}
theorem slc_st (h0 : itemsD d = some xs) (hl : xs.length ≤ 100000) (h : i = (n : Int)) : slcD false d none (some i) S = .ok (reseq d (xs.take n)) S := by
  cases d with
  | lst ys => cases h0; exact slc_lt hl h
  | tup ys => cases h0; exact slc_tt h
  | _ => cases h0
theorem slc_s1 (h0 : itemsD d = some xs) (hl : xs.length ≤ 100000) : slcD false d none (some (-1)) S = .ok (reseq d (xs.take (xs.length - 1))) S := by
  cases d with
  | lst ys => cases h0; exact slc_l1 hl
  | tup ys => cases h0; exact slc_t1
  | _ => cases h0
theorem tuple_re (h0 : itemsD d = some xs) {ys : List D} (hl : ys.length ≤ 100000) : bltD .tuple false [reseq d ys] S = .ok (.tup ys) S := by
  cases d with
  | lst _ => exact blt_tuple_l hl
  | tup _ => rfl
  | _ => cases h0
theorem tuple_of (h0 : itemsD d = some xs) (hl : xs.length ≤ 100000) : bltD .tuple false [d] S = .ok (.tup xs) S := by
  cases d with
  | lst _ => cases h0; exact blt_tuple_l hl
  | tup _ => cases h0; rfl
  | _ => cases h0
theorem list_of (h0 : itemsD d = some xs) (hl : xs.length ≤ 100000) : bltD .list false [d] S = .ok (.lst xs) S := by
  cases d with
  | lst _ =>
    cases h0
    show newL false xs S = _
    exact newL_f (small hl)
  | tup _ => cases h0; exact blt_list_t hl
  | _ => cases h0
theorem wps_rng2 {a b : PD.E} {cf : CallF} {ρ : Env'} {Q : List D → Store → Prop} {E : XD} : Wps (evI cf (.rng2 a b) ρ S) Q E = Wp (ev cf a ρ S) (fun x S => Wp (ev cf b ρ S) (fun y S => Wps (match x, y with
    | .int i, .int j => if -(2 ^ 62) ≤ i ∧ i < 2 ^ 62 ∧ -(2 ^ 62) ≤ j ∧ j < 2 ^ 62 then .ok ((List.range (j - i).toNat).map fun k => .int (i + (k : Nat))) S else .stuck
    | _, _ => .stuck) Q E) E) E := by
  conv => lhs; unfold evI
  simp only [wps_bind]
  all_goals rfl
def En' (x : D) (K : List D → Prop) : Prop := match x with
  | .lst xs => K (((List.range xs.length).zip xs).map fun p => .tup [.int (p.1 : Nat), p.2])
  | .tup xs => K (((List.range xs.length).zip xs).map fun p => .tup [.int (p.1 : Nat), p.2])
  | _ => False
theorem wps_enum {a : PD.E} {cf : CallF} {ρ : Env'} {Q : List D → Store → Prop} {E : XD} : Wps (evI cf (.enum a) ρ S) Q E = Wp (ev cf a ρ S) (fun x S => En' x fun xs => Q xs S) E := by
  conv => lhs; unfold evI
  rw [wps_bind]
  all_goals congr 1
  all_goals funext x S
  all_goals cases x <;> rfl
theorem en_of {K : List D → Prop} (h : itemsD d = some xs) : En' d K = K (((List.range xs.length).zip xs).map fun p => .tup [.int (p.1 : Nat), p.2]) := by
  cases d with
  | lst _ => cases h; rfl
  | tup _ => cases h; rfl
  | _ => cases h
end
section
variable {S : Store} {xs ys : List D} {n : Nat} {m : Bool}
theorem isi_xc {c c' : Nat} {fs : List (Str × D)} : bltD .isi m [.exc c fs, .cls c'] S = .ok (.bl (subC c c')) S := id rfl
theorem isi_nc {c' : Nat} : bltD .isi m [.non, .cls c'] S = .ok (.bl false) S := id rfl
theorem eqv_len {xs ys : List D} (h : xs.length ≠ ys.length) : PyData.eqv (.list (pdL xs)) (.list (pdL ys)) = false := by
  rw [eqv_list]
  induction xs generalizing ys with
  | nil =>
    cases ys with
    | nil => exact (h rfl).elim
    | cons y ys => show PyData.eqvAll [] (_ :: _) = false; rw [PyData.eqvAll] <;> simp
  | cons x xs ih =>
    cases ys with
    | nil => show PyData.eqvAll (_ :: _) [] = false; rw [PyData.eqvAll] <;> simp
    | cons y ys =>
      show PyData.eqvAll (pd x :: pdL xs) (pd y :: pdL ys) = false
      rw [eqvAll_cons, ih fun z => h (by rw [List.length_cons, List.length_cons, z]), Bool.and_false]
/-- a list that may change beside one that is fixed -/
theorem eqD_ref {k l : Nat} (e : S[n]? = some (.lst xs)) (h1 : datL xs k = true) (h2 : datL ys l = true) (hk : k ≤ 60) (hl : l ≤ 60) : eqD S (.ref n) (.lst ys) = some (PyData.eqv (.list (pdL xs)) (.list (pdL ys))) := by
  have e1 : lenNe S (.ref n) (.lst ys) = (xs.length != ys.length) := by
    show (match lstOf S (.ref n), lstOf S (.lst ys) with | some xs, some ys => xs.length != ys.length | _, _ => false) = _
    have : lstOf S (.ref n) = some xs := by
      show (match S[n]? with | some (.lst xs) => some xs | _ => none) = _
      rw [e]
    rw [this]; rfl
  show (if lenNe S (.ref n) (.lst ys) = true then some false else eqP S (.ref n) (.lst ys)) = _
  rw [e1]
  split
  · rename_i c
    rw [eqv_len (by simpa using c)]
  · unfold eqP
    rw [toPR_ref e h1, toPR_dat (show dat (.lst ys) (l + 1) = true from h2)]
    dsimp only
    have a1 := datL_ok (S := S) (k := 0) h1
    have a2 := datL_ok (S := S) (k := 0) h2
    rw [shaped_of (p := pd (.lst xs)) a1.2.1 (by show PyData.depthAll (pdL xs) + 1 ≤ 64; omega), shaped_of (p := pd (.lst ys)) a2.2.1 (by show PyData.depthAll (pdL ys) + 1 ≤ 64; omega)]
    rfl
theorem cmp_ref {k l : Nat} (e : S[n]? = some (.lst xs)) (h1 : datL xs k = true) (h2 : datL ys l = true) (hk : k ≤ 60) (hl : l ≤ 60) : cmpD .Eq (.ref n) (.lst ys) S = .ok (.bl (PyData.eqv (.list (pdL xs)) (.list (pdL ys)))) S := by
  unfold cmpD
  simp only [eqD_ref e h1 h2 hk hl]
end
/-- rows of texts -/
def tupS (p : List (List Nat)) : D := .tup (p.map strT)
theorem take_strs {p : List (List Nat)} {n : Nat} : (p.map strT).take n = (p.take n).map strT := by rw [List.map_take]
theorem pdL_app {a b : List D} : pdL (a ++ b) = pdL a ++ pdL b := by rw [pdL_map, pdL_map, pdL_map, List.map_append]
theorem showableAll_iff : ∀ {l : List PyData}, PyData.showableAll l = l.all PyData.showable
  | [] => rfl
  | x :: r => by show (x.showable && PyData.showableAll r) = _; rw [showableAll_iff]; rfl
theorem wtA_sum : ∀ {l : List PyData}, wtA l = (l.map fun x => wt x + 2).sum
  | [] => rfl
  | x :: r => by show wt x + 2 + wtA r = _; rw [wtA_sum]; rfl
theorem wtA_le {l : List PyData} {n : Nat} (h : ∀ x ∈ l, wt x + 2 ≤ n) : wtA l ≤ l.length * n := by
  induction l with
  | nil => exact Nat.zero_le _
  | cons x r ih =>
    have h1 := h x List.mem_cons_self
    have h2 := ih fun y hy => h y (List.mem_cons_of_mem _ hy)
    show wt x + 2 + wtA r ≤ (r.length + 1) * n
    rw [Nat.add_mul]
    omega
/-- repr of a row of rows of texts -/
theorem blt_repr_rows {S : Store} {ps : List (List (List Nat))} {m : Bool} (h : ∀ p ∈ ps, ∀ a ∈ p, ∀ c ∈ a, c < 1114112) (n k : Nat) (hl : ∀ p ∈ ps, p.length ≤ k ∧ ∀ a ∈ p, a.length ≤ n) (hw : ps.length * (k * (10 * n + 4) + 5) ≤ 100000) : bltD .repr m [.tup (ps.map tupS)] S = .ok (.str (PyData.shown (.tuple (pdL (ps.map tupS))))) S := by
  refine blt_repr_tup (n := 1) ?_ (by decide) ?_ ?_
  · refine datL_q ?_
    rw [datL_all, List.all_eq_true]
    intro x hx
    obtain ⟨p, hp, rfl⟩ := List.mem_map.mp hx
    exact (datL_strs (n := 0) (h p hp) : datL (p.map strT) 0 = true)
  · rw [showableAll_iff, List.all_eq_true]
    intro x hx
    rw [pdL_map, List.map_map] at hx
    obtain ⟨p, hp, rfl⟩ := List.mem_map.mp hx
    exact (showable_strs : PyData.showableAll (pdL (p.map strT)) = true)
  · have e : (pdL (ps.map tupS)).length = ps.length := by rw [pdL_map, List.length_map, List.length_map]
    refine Nat.le_trans (wtA_le (n := k * (10 * n + 4) + 5) fun x hx => ?_) (by rw [e]; exact hw)
    rw [pdL_map, List.map_map] at hx
    obtain ⟨p, hp, rfl⟩ := List.mem_map.mp hx
    have h1 := wt_strs (n := n) (p := p) (hl p hp).2
    have h2 : p.length * (10 * n + 4) ≤ k * (10 * n + 4) := Nat.mul_le_mul_right _ (hl p hp).1
    show wtA (pdL (p.map strT)) + 3 + 2 ≤ _
    omega
theorem strT_inj {a b : List Nat} (h : strT a = strT b) : a = b := T_inj.mp (D.str.inj h)
theorem map_strT_inj : ∀ {p q : List (List Nat)}, p.map strT = q.map strT → p = q
  | [], [], _ => rfl
  | [], _ :: _, h => by cases h
  | _ :: _, [], h => by cases h
  | a :: p, b :: q, h => by
    rw [List.map_cons, List.map_cons] at h
    injection h with h1 h2
    rw [strT_inj h1, map_strT_inj h2]
end PD
namespace PD
open PySem PySem.Spec L2
section
variable {cf : CallF} {ρ : Env'} {S : Store} {E : XD}
def St (S : Store) (x : D) (K : List D → Prop) : Prop := match itemsOf S x with
  | some ys => K ys
  | none => False
theorem wps_star {e : PD.E} {r : Es} {Q : List D → Store → Prop} : Wps (evs cf (.star e r) ρ S) Q E = Wp (ev cf e ρ S) (fun x S => St S x fun ys => Wps (evs cf r ρ S) (fun xs S => Q (ys ++ xs) S) E) E := by
  conv => lhs; unfold evs
  rw [wps_bind]
  congr 1
  funext x S
  unfold St
  cases itemsOf S x with
  | none => rfl
  | some ys =>
    dsimp only
    rw [wps_bindl]
    rfl
theorem st_lst {xs : List D} {K : List D → Prop} : St S (.lst xs) K = K xs := id rfl
theorem st_tup {xs : List D} {K : List D → Prop} : St S (.tup xs) K = K xs := id rfl
theorem rep_l {x : D} {n : Nat} {i : Int} (hi : i = (n : Int)) (h : n ≤ 100000) : repD false (.lst [x]) (.int i) S = .ok (.lst (List.replicate n x)) S := by
  subst hi
  unfold repD lstOf
  dsimp only
  have e : (List.replicate (n : Int).toNat [x]).flatten = List.replicate n x := by
    rw [show (n : Int).toNat = n by omega]
    clear h
    induction n with
    | zero => rfl
    | succ n ih => rw [List.replicate_succ, List.flatten_cons, ih]; rfl
  have c1 : [x].length * (n : Int).toNat ≤ sizeLine := small (by rw [List.length_singleton]; omega)
  have c2 : -(2 ^ 63) ≤ (n : Int) := by omega
  have c3 : (n : Int) < 2 ^ 63 := by omega
  rw [if_pos ⟨c2, c3, c1⟩, e]
  exact newL_f (small (by rw [List.length_replicate]; exact h))
theorem rep_lr {x : D} {n : Nat} {i : Int} (hi : i = (n : Int)) (h : n ≤ 100000) : repD true (.lst [x]) (.int i) S = .ok (.ref S.length) (S ++ [.lst (List.replicate n x)]) := by
  subst hi
  unfold repD lstOf
  dsimp only
  have e : (List.replicate (n : Int).toNat [x]).flatten = List.replicate n x := by
    rw [show (n : Int).toNat = n by omega]
    clear h
    induction n with
    | zero => rfl
    | succ n ih => rw [List.replicate_succ, List.flatten_cons, ih]; rfl
  have c1 : [x].length * (n : Int).toNat ≤ sizeLine := small (by rw [List.length_singleton]; omega)
  have c2 : -(2 ^ 63) ≤ (n : Int) := by omega
  have c3 : (n : Int) < 2 ^ 63 := by omega
  rw [if_pos ⟨c2, c3, c1⟩, e]
  exact newL_t (small (by rw [List.length_replicate]; exact h))
theorem rep_t {x : D} {n : Nat} {i : Int} {m : Bool} (hi : i = (n : Int)) (h1 : 2 ≤ n) (h : n ≤ 1000) : repD m (.tup [x]) (.int i) S = .ok (.tup (List.replicate n x)) S := by
  subst hi
  show (if 2 ≤ (n : Int) ∧ (n : Int) ≤ 1000 ∧ [x].length ≤ 1000 ∧ [x].length ≠ 0 then EOut.ok (.tup (List.replicate (n : Int).toNat [x]).flatten) S else .stuck) = _
  have e : (List.replicate (n : Int).toNat [x]).flatten = List.replicate n x := by
    rw [show (n : Int).toNat = n by omega]
    clear h h1
    induction n with
    | zero => rfl
    | succ n ih => rw [List.replicate_succ, List.flatten_cons, ih]; rfl
  rw [if_pos ⟨by omega, by omega, by rw [List.length_singleton]; omega, by rw [List.length_singleton]; omega⟩, e]
end
end PD
namespace PD
open PySem PySem.Spec L2
section
variable {S : Store} {xs : List D} {n : Nat} {i : Int} {d : D}
theorem map_int_inj : ∀ {p q : List Int}, p.map D.int = q.map D.int → p = q
  | [], [], _ => rfl
  | [], _ :: _, h => by cases h
  | _ :: _, [], h => by cases h
  | a :: p, b :: q, h => by
    rw [List.map_cons, List.map_cons] at h
    injection h with h1 h2
    injection h1 with h1
    rw [h1, map_int_inj h2]
theorem slc_sf (h0 : itemsD d = some xs) (hl : xs.length ≤ 100000) (h : i = (n : Int)) : slcD false d (some i) none S = .ok (reseq d (xs.drop n)) S := by
  cases d with
  | lst ys => cases h0; exact slc_lf hl h
  | tup ys => cases h0; exact slc_tf h
  | _ => cases h0
theorem list_re (h0 : itemsD d = some xs) {ys : List D} (hl : ys.length ≤ 100000) : bltD .list false [reseq d ys] S = .ok (.lst ys) S := by
  cases d with
  | lst _ =>
    show newL false ys S = _
    exact newL_f (small hl)
  | tup _ => exact blt_list_t hl
  | _ => cases h0
/-- a part -/
theorem cut_ft {xs : List D} {a b : Nat} (h : a ≤ b) : cutD xs (some (a : Int)) (some (b : Int)) = (xs.drop a).take (b - a) := by
  unfold cutD HT.sIx
  dsimp only
  rw [if_neg (by omega), if_neg (by omega)]
  by_cases h1 : a ≤ xs.length
  · have e1 : min (a : Int).toNat xs.length = a := by omega
    rw [e1, List.take_eq_take_iff, List.length_drop]
    omega
  · rw [List.drop_eq_nil_of_le (by omega), List.drop_eq_nil_of_le (by omega), List.take_nil, List.take_nil]
theorem slc_sp {a b : Nat} {j : Int} (h0 : itemsD d = some xs) (hl : xs.length ≤ 100000) (h1 : i = (a : Int)) (h2 : j = (b : Int)) (h : a ≤ b) : slcD false d (some i) (some j) S = .ok (reseq d ((xs.drop a).take (b - a))) S := by
  subst h1 h2
  cases d with
  | lst ys =>
    cases h0
    show newL false (cutD xs (some (a : Int)) (some (b : Int))) S = _
    rw [cut_ft h, newL_f (small (by rw [List.length_take, List.length_drop]; omega))]
    rfl
  | tup ys =>
    cases h0
    show EOut.ok (.tup (cutD xs (some (a : Int)) (some (b : Int)))) S = _
    rw [cut_ft h]; rfl
  | _ => cases h0
theorem cmp_lstI {op : Bool} {a b : List Int} : cmpD (if op then .Eq else .NotEq) (.lst (a.map D.int)) (.lst (b.map D.int)) S = .ok (.bl (op == decide (a = b))) S := by
  cases op
  · show cmpD .NotEq _ _ S = _
    rw [cmp_ne (n := 1) (m := 1) (show dat (.lst (a.map D.int)) 1 = true from datL_ints) (show dat (.lst (b.map D.int)) 1 = true from datL_ints) (by decide) (by decide)]
    show EOut.ok (.bl (!PyData.eqv (.list _) (.list _))) S = _
    rw [eqv_list, eqvAll_ints]
    cases decide (a = b) <;> rfl
  · show cmpD .Eq _ _ S = _
    rw [cmp_eq (n := 1) (m := 1) (show dat (.lst (a.map D.int)) 1 = true from datL_ints) (show dat (.lst (b.map D.int)) 1 = true from datL_ints) (by decide) (by decide)]
    show EOut.ok (.bl (PyData.eqv (.list _) (.list _))) S = _
    rw [eqv_list, eqvAll_ints]
    cases decide (a = b) <;> rfl
theorem cmp_lstIN {a b : List Int} : cmpD .NotEq (.lst (a.map D.int)) (.lst (b.map D.int)) S = .ok (.bl (!decide (a = b))) S := by
  have h := cmp_lstI (S := S) (op := false) (a := a) (b := b)
  rw [if_neg Bool.false_ne_true] at h
  rw [h]
  cases decide (a = b) <;> rfl
theorem at2 {a b c : D} {r : List D} : L2.atI (a :: b :: c :: r) 2 = some c := idx_nat (i := 2) rfl
theorem at3 {a b c e : D} {r : List D} : L2.atI (a :: b :: c :: e :: r) 3 = some e := idx_nat (i := 3) rfl
theorem rep_str {a n : Nat} {i : Int} (hi : i = (n : Int)) (h1 : 2 ≤ n) (h2 : n ≤ 1000) : repD false (.str (T [a])) (.int i) S = .ok (strT (List.replicate n a)) S := by
  subst hi
  show (if 2 ≤ (n : Int) ∧ (n : Int) ≤ 100000 ∧ 1 ≤ (T [a]).length ∧ (T [a]).length * (n : Int).toNat ≤ 100000 then EOut.ok (.str (T (List.replicate (n : Int).toNat (T [a]).cps.toList).flatten)) S else .stuck) = _
  rw [if_pos ⟨by omega, by omega, by rw [T_len]; exact Nat.le_refl 1, by rw [T_len]; show 1 * (n : Int).toNat ≤ 100000; omega⟩, T_cps]
  congr 3
  rw [show (n : Int).toNat = n by omega]
  clear h1 h2
  induction n with
  | zero => rfl
  | succ n ih => rw [List.replicate_succ, List.flatten_cons, ih]; rfl
end
end PD
namespace PD
open PySem PySem.Spec L2
theorem showable_int {i : Int} (h0 : 0 ≤ i) (h : i < 10 ^ 10) : (PyData.int i).showable = true := by
  have h1 : i.natAbs < 2 ^ 40 := by omega
  have := PySem.Flt.log2_lt_of (by decide) h1
  exact decide_eq_true (by omega)
theorem wt_int {i : Int} (h0 : 0 ≤ i) (h : i < 10 ^ 10) : wt (.int i) ≤ 10 := by
  show (PyData.shown (.int i)).length ≤ 10
  have e : PyData.shown (.int i) = Str.ofString (toString i) := by unfold PyData.shown; rfl
  rw [e]
  obtain ⟨n, rfl⟩ : ∃ n : Nat, i = (n : Int) := ⟨i.toNat, by omega⟩
  have h2 := @PySem.W.KXf.digits_le (n : Int) h0 h
  have h3 := PySem.W.KIN.signs_num n
  show (Str.ofString (toString (n : Int))).cps.size ≤ 10
  rw [← Array.length_toList, h3, List.length_map]
  exact h2
theorem repr_ints {S : Store} {l : List Int} {mm : Bool} (hl : l.length ≤ 1000) (h : ∀ i ∈ l, 0 ≤ i ∧ i < 10 ^ 10) : bltD .repr mm [.tup (l.map D.int)] S = .ok (.str (PyData.shown (.tuple (pdL (l.map D.int))))) S := by
  refine blt_repr_tup (n := 0) ?_ (by decide) ?_ ?_
  · exact datL_q datL_ints
  · rw [showableAll_iff, List.all_eq_true]
    intro x hx
    rw [pdL_map, List.map_map] at hx
    obtain ⟨i, hi, rfl⟩ := List.mem_map.mp hx
    exact showable_int (h i hi).1 (h i hi).2
  · refine Nat.le_trans (wtA_le (n := 12) fun x hx => ?_) (by rw [pdL_map, List.length_map, List.length_map]; omega)
    rw [pdL_map, List.map_map] at hx
    obtain ⟨i, hi, rfl⟩ := List.mem_map.mp hx
    have := wt_int (h i hi).1 (h i hi).2
    show wt (.int i) + 2 ≤ 12
    omega
end PD
set_option maxHeartbeats 4000000
namespace LW
open PySem PySem.Spec PD
variable {k B t : Nat} {many r : Int} {cells : List Int} {S R : Store} {d : D} {x0 x1 x2 x3 x4 x5 : Option D}
/-- the mixing -/
theorem w_coin6 {c : Int} {m0 : MO} (h1 : 0 < many) (hB : B < 2 ^ 20) (ht : t ≤ B) :
    Ws (sts (callK P k) b__law_steer_6 [some (.ref 0), some (.int many), some (.int t), some (.int c), x4, x5] (.lst [.lst (cells.map D.int), .int ((t : Int) + 1), .int r] :: R)) (Nq (m0 :: R) (RQ many (B + 1) R)) := by
  have tl : ((t : Int)).natAbs < 2 ^ 64 := by omega
  have e1 := emod_b (a := c) (b := 2147483477) (by decide)
  have p1 : (0 : Int) ≤ 5 ∧ (5 : Int) ≤ 1000000 ∧ (c % 2147483477 + 51361 * (t : Int) + 6421).natAbs < 2 ^ 64 := by omega
  unfold b__law_steer_6
  simp only [ws_cons, ws_raise, ws_try, wp_att, cat_int, rep_int, cat_tup, cat_lst, set1_some, set1_none, wipe1_some, wipe1_none, ev_clsv, ws_exp, ws_retN, ws_brk, ws_cont, ws_ite, ws_ret, ws_asg, ws_iset, ws_pass, wp_bin, wp_cat, wp_rep, wp_neg, wp_and, wp_or, wp_not, wp_ite, wp_cmp, wp_chn, wp_slc, evo_no, wp_osome, wp_callE, wp_idx, wp_blt, wp_tup, wp_lst, wp_dic, wps_cons, wps_star, st_lst, st_tup, evs_nil, wps_ok, wp_ok, ev_lit, ev_var, ev_glo, ev_tyv, sts_nil, ws_nx, List.map_cons, List.map_nil, List.cons_append, List.nil_append, List.append_nil, List.getElem?_cons_zero, List.getElem?_cons_succ, srcs, List.length_cons, List.length_nil, List.replicate, bindT_name, bindT_2, bindT_3, bindT_nest, bindTs_nil, bindTs_cons, Nat.zero_add, Nat.reduceAdd, List.set_cons_zero, List.set_cons_succ, bin_add, bin_sub, cmp_gt, cmp_lt, cmp_ge, cmp_le, blt_int, blt_intb, blt_abs, blt_lenL, blt_lenT, blt_lenS, tr_bl, nt_bl, chn_bl, cmp_is, cmp_isnot, cmp_eq_int, cmp_ne_int, newLf0, newLt0, newT0, newLf1, newLt1, newT1, newLf2, newLt2, newT2, newLf3, newLt3, newT3, newLf4, newLt4, newT4, newLf5, newLt5, newT5, newLf6, newLt6, newT6, newLf7, newLt7, newT7, newLf8, newT8, newLf9, newT9, newLf10, newT10, newLf11, newT11, newLf12, newLf13, newLf14, newLf15, newLf16, pairsOf, keyOf, bin_mulL (i := 51361) (by decide), bin_mod (j := 2147483477) (by decide), bin_mod (j := 2147483423) (by decide), bin_pow p1]
  generalize hv : (c % 2147483477 + 51361 * (t : Int) + 6421) ^ Int.toNat 5 % 2147483423 = v
  have e2 : 0 ≤ v ∧ v < 2147483423 := by rw [← hv]; exact emod_b (by decide)
  have m1 : (2 * (t : Int) + 6427).natAbs < 2 ^ 64 := by omega
  have hb : 0 ≤ v * (2 * (t : Int) + 6427) ∧ v * (2 * (t : Int) + 6427) ≤ 2147483423 * 2103580 := by
    refine ⟨Int.mul_nonneg e2.1 (by omega), Int.mul_le_mul (by omega) (by omega) (by omega) (by decide)⟩
  have hc : 0 ≤ 33013 * (t : Int) * t ∧ 33013 * (t : Int) * t ≤ 33013 * 1048576 * 1048576 := by
    refine ⟨Int.mul_nonneg (by omega) (by omega), Int.mul_le_mul (by omega) (by omega) (by omega) (by decide)⟩
  have p2 : (0 : Int) ≤ 3 ∧ (3 : Int) ≤ 1000000 ∧ (v * (2 * (t : Int) + 6427) + 33013 * (t : Int) * t + 51407).natAbs < 2 ^ 64 := by omega
  unfold b__law_steer_7
  simp only [ws_cons, ws_raise, ws_try, wp_att, cat_int, rep_int, cat_tup, cat_lst, set1_some, set1_none, wipe1_some, wipe1_none, ev_clsv, ws_exp, ws_retN, ws_brk, ws_cont, ws_ite, ws_ret, ws_asg, ws_iset, ws_pass, wp_bin, wp_cat, wp_rep, wp_neg, wp_and, wp_or, wp_not, wp_ite, wp_cmp, wp_chn, wp_slc, evo_no, wp_osome, wp_callE, wp_idx, wp_blt, wp_tup, wp_lst, wp_dic, wps_cons, wps_star, st_lst, st_tup, evs_nil, wps_ok, wp_ok, ev_lit, ev_var, ev_glo, ev_tyv, sts_nil, ws_nx, List.map_cons, List.map_nil, List.cons_append, List.nil_append, List.append_nil, List.getElem?_cons_zero, List.getElem?_cons_succ, srcs, List.length_cons, List.length_nil, List.replicate, bindT_name, bindT_2, bindT_3, bindT_nest, bindTs_nil, bindTs_cons, Nat.zero_add, Nat.reduceAdd, List.set_cons_zero, List.set_cons_succ, bin_add, bin_sub, cmp_gt, cmp_lt, cmp_ge, cmp_le, blt_int, blt_intb, blt_abs, blt_lenL, blt_lenT, blt_lenS, tr_bl, nt_bl, chn_bl, cmp_is, cmp_isnot, cmp_eq_int, cmp_ne_int, newLf0, newLt0, newT0, newLf1, newLt1, newT1, newLf2, newLt2, newT2, newLf3, newLt3, newT3, newLf4, newLt4, newT4, newLf5, newLt5, newT5, newLf6, newLt6, newT6, newLf7, newLt7, newT7, newLf8, newT8, newLf9, newT9, newLf10, newT10, newLf11, newT11, newLf12, newLf13, newLf14, newLf15, newLf16, pairsOf, keyOf, bin_mulL (i := 2) (by decide), bin_mulL (i := 33013) (by decide), bin_mulR tl, bin_mulR m1, bin_mod (j := 2147483399) (by decide), bin_pow p2]
  unfold b__law_steer_8
  simp only [ws_cons, ws_raise, ws_try, wp_att, cat_int, rep_int, cat_tup, cat_lst, set1_some, set1_none, wipe1_some, wipe1_none, ev_clsv, ws_exp, ws_retN, ws_brk, ws_cont, ws_ite, ws_ret, ws_asg, ws_iset, ws_pass, wp_bin, wp_cat, wp_rep, wp_neg, wp_and, wp_or, wp_not, wp_ite, wp_cmp, wp_chn, wp_slc, evo_no, wp_osome, wp_callE, wp_idx, wp_blt, wp_tup, wp_lst, wp_dic, wps_cons, wps_star, st_lst, st_tup, evs_nil, wps_ok, wp_ok, ev_lit, ev_var, ev_glo, ev_tyv, sts_nil, ws_nx, List.map_cons, List.map_nil, List.cons_append, List.nil_append, List.append_nil, List.getElem?_cons_zero, List.getElem?_cons_succ, srcs, List.length_cons, List.length_nil, List.replicate, bindT_name, bindT_2, bindT_3, bindT_nest, bindTs_nil, bindTs_cons, Nat.zero_add, Nat.reduceAdd, List.set_cons_zero, List.set_cons_succ, bin_add, bin_sub, cmp_gt, cmp_lt, cmp_ge, cmp_le, blt_int, blt_intb, blt_abs, blt_lenL, blt_lenT, blt_lenS, tr_bl, nt_bl, chn_bl, cmp_is, cmp_isnot, cmp_eq_int, cmp_ne_int, newLf0, newLt0, newT0, newLf1, newLt1, newT1, newLf2, newLt2, newT2, newLf3, newLt3, newT3, newLf4, newLt4, newT4, newLf5, newLt5, newT5, newLf6, newLt6, newT6, newLf7, newLt7, newT7, newLf8, newT8, newLf9, newT9, newLf10, newT10, newLf11, newT11, newLf12, newLf13, newLf14, newLf15, newLf16, pairsOf, keyOf, bin_mod h1, bin_div (j := 64) (by decide) (by decide)]
  exact ⟨trivial, rq_of (t := t + 1) h1 (by omega)⟩
theorem w_coin {m : MO} (hm : Sat B m) (h1 : 0 < many) (h2 : many < 2 ^ 40) (hB : B < 2 ^ 20) : Wp (callK P (k + 1) i__law_steer [.ref 0, .int many] (m :: R)) (RQ many (B + 1) R) noX := by
  obtain ⟨cells, t, r, rfl, ht⟩ := hm
  refine wp_callS rfl rfl ?_
  show Ws (sts _ b__law_steer _ _) _
  have hl := log2_small h1 h2
  have tl : ((t : Int)).natAbs < 2 ^ 64 := by omega
  have d1 : dat (.lst (cells.map D.int)) 1 = true := datL_ints
  have d0 : dat (.lst []) 1 = true := rfl
  have n0 := newL_f (S := (.lst [.lst (cells.map D.int), .int ((t : Int) + 1), .int r] :: R)) (xs := []) (Nat.zero_le _)
  unfold b__law_steer b__law_steer_0t b__law_steer_0t_1 b__law_steer_0t_2
  simp only [ws_cons, ws_raise, ws_try, wp_att, cat_int, rep_int, cat_tup, cat_lst, set1_some, set1_none, wipe1_some, wipe1_none, ev_clsv, ws_exp, ws_retN, ws_brk, ws_cont, ws_ite, ws_ret, ws_asg, ws_iset, ws_pass, wp_bin, wp_cat, wp_rep, wp_neg, wp_and, wp_or, wp_not, wp_ite, wp_cmp, wp_chn, wp_slc, evo_no, wp_osome, wp_callE, wp_idx, wp_blt, wp_tup, wp_lst, wp_dic, wps_cons, wps_star, st_lst, st_tup, evs_nil, wps_ok, wp_ok, ev_lit, ev_var, ev_glo, ev_tyv, sts_nil, ws_nx, List.map_cons, List.map_nil, List.cons_append, List.nil_append, List.append_nil, List.getElem?_cons_zero, List.getElem?_cons_succ, srcs, List.length_cons, List.length_nil, List.replicate, bindT_name, bindT_2, bindT_3, bindT_nest, bindTs_nil, bindTs_cons, Nat.zero_add, Nat.reduceAdd, List.set_cons_zero, List.set_cons_succ, bin_add, bin_sub, cmp_gt, cmp_lt, cmp_ge, cmp_le, blt_int, blt_intb, blt_abs, blt_lenL, blt_lenT, blt_lenS, tr_bl, nt_bl, chn_bl, cmp_is, cmp_isnot, cmp_eq_int, cmp_ne_int, newLf0, newLt0, newT0, newLf1, newLt1, newT1, newLf2, newLt2, newT2, newLf3, newLt3, newT3, newLf4, newLt4, newT4, newLf5, newLt5, newT5, newLf6, newLt6, newT6, newLf7, newLt7, newT7, newLf8, newT8, newLf9, newT9, newLf10, newT10, newLf11, newT11, newLf12, newLf13, newLf14, newLf15, newLf16, pairsOf, keyOf, sat_idx0, sat_idx1, sat_idx2, sat_set1, sat_set2, bin_div h1 hl, bin_mod h1]
  refine ⟨fun _ => ⟨trivial, rq_of h1 (by omega)⟩, fun _ => ?_⟩
  unfold b__law_steer_1 b__law_steer_2 b__law_steer_3 b__law_steer_3t
  simp only [ws_cons, ws_raise, ws_try, wp_att, cat_int, rep_int, cat_tup, cat_lst, set1_some, set1_none, wipe1_some, wipe1_none, ev_clsv, ws_exp, ws_retN, ws_brk, ws_cont, ws_ite, ws_ret, ws_asg, ws_iset, ws_pass, wp_bin, wp_cat, wp_rep, wp_neg, wp_and, wp_or, wp_not, wp_ite, wp_cmp, wp_chn, wp_slc, evo_no, wp_osome, wp_callE, wp_idx, wp_blt, wp_tup, wp_lst, wp_dic, wps_cons, wps_star, st_lst, st_tup, evs_nil, wps_ok, wp_ok, ev_lit, ev_var, ev_glo, ev_tyv, sts_nil, ws_nx, List.map_cons, List.map_nil, List.cons_append, List.nil_append, List.append_nil, List.getElem?_cons_zero, List.getElem?_cons_succ, srcs, List.length_cons, List.length_nil, List.replicate, bindT_name, bindT_2, bindT_3, bindT_nest, bindTs_nil, bindTs_cons, Nat.zero_add, Nat.reduceAdd, List.set_cons_zero, List.set_cons_succ, bin_add, bin_sub, cmp_gt, cmp_lt, cmp_ge, cmp_le, blt_int, blt_intb, blt_abs, blt_lenL, blt_lenT, blt_lenS, tr_bl, nt_bl, chn_bl, cmp_is, cmp_isnot, cmp_eq_int, cmp_ne_int, newLf0, newLt0, newT0, newLf1, newLt1, newT1, newLf2, newLt2, newT2, newLf3, newLt3, newT3, newLf4, newLt4, newT4, newLf5, newLt5, newT5, newLf6, newLt6, newT6, newLf7, newLt7, newT7, newLf8, newT8, newLf9, newT9, newLf10, newT10, newLf11, newT11, newLf12, newLf13, newLf14, newLf15, newLf16, pairsOf, keyOf, sat_idx0, sat_idx1, sat_idx2, sat_set1, sat_set2, n0, cmp_eq d1 d0 (by decide) (by decide), tr_bl]
  refine ⟨fun _ => ⟨trivial, 0, ?_⟩, fun hne => ?_⟩
  · exact ⟨_, rfl, Int.le_refl _, h1, rfl, cells, t + 1, r, rfl, by omega⟩
  ·
    have hcl : 0 < ((cells.map D.int).length : Int) := by
      cases cells with
      | nil => cases hne
      | cons c cs => show 0 < (((cs.map D.int).length + 1 : Nat) : Int); omega
    obtain ⟨i1, i2⟩ := emod_b (a := (t : Int)) hcl
    obtain ⟨v, hv, hv2⟩ := range_at i1 i2
    rw [List.getElem?_map] at hv2
    obtain ⟨c, hc, rfl⟩ := Option.map_eq_some_iff.mp hv2
    unfold b__law_steer_4 b__law_steer_5 b__law_steer_5t b__law_steer_5t_1 b__law_steer_5t_2
    simp only [ws_cons, ws_raise, ws_try, wp_att, cat_int, rep_int, cat_tup, cat_lst, set1_some, set1_none, wipe1_some, wipe1_none, ev_clsv, ws_exp, ws_retN, ws_brk, ws_cont, ws_ite, ws_ret, ws_asg, ws_iset, ws_pass, wp_bin, wp_cat, wp_rep, wp_neg, wp_and, wp_or, wp_not, wp_ite, wp_cmp, wp_chn, wp_slc, evo_no, wp_osome, wp_callE, wp_idx, wp_blt, wp_tup, wp_lst, wp_dic, wps_cons, wps_star, st_lst, st_tup, evs_nil, wps_ok, wp_ok, ev_lit, ev_var, ev_glo, ev_tyv, sts_nil, ws_nx, List.map_cons, List.map_nil, List.cons_append, List.nil_append, List.append_nil, List.getElem?_cons_zero, List.getElem?_cons_succ, srcs, List.length_cons, List.length_nil, List.replicate, bindT_name, bindT_2, bindT_3, bindT_nest, bindTs_nil, bindTs_cons, Nat.zero_add, Nat.reduceAdd, List.set_cons_zero, List.set_cons_succ, bin_add, bin_sub, cmp_gt, cmp_lt, cmp_ge, cmp_le, blt_int, blt_intb, blt_abs, blt_lenL, blt_lenT, blt_lenS, tr_bl, nt_bl, chn_bl, cmp_is, cmp_isnot, cmp_eq_int, cmp_ne_int, newLf0, newLt0, newT0, newLf1, newLt1, newT1, newLf2, newLt2, newT2, newLf3, newLt3, newT3, newLf4, newLt4, newT4, newLf5, newLt5, newT5, newLf6, newLt6, newT6, newLf7, newLt7, newT7, newLf8, newT8, newLf9, newT9, newLf10, newT10, newLf11, newT11, newLf12, newLf13, newLf14, newLf15, newLf16, pairsOf, keyOf, sat_idx0, sat_idx1, sat_idx2, sat_set1, sat_set2, bin_mod hcl, idx_lst hv]
    simp only [ws_cons, ws_raise, ws_try, wp_att, cat_int, rep_int, cat_tup, cat_lst, set1_some, set1_none, wipe1_some, wipe1_none, ev_clsv, ws_exp, ws_retN, ws_brk, ws_cont, ws_ite, ws_ret, ws_asg, ws_iset, ws_pass, wp_bin, wp_cat, wp_rep, wp_neg, wp_and, wp_or, wp_not, wp_ite, wp_cmp, wp_chn, wp_slc, evo_no, wp_osome, wp_callE, wp_idx, wp_blt, wp_tup, wp_lst, wp_dic, wps_cons, wps_star, st_lst, st_tup, evs_nil, wps_ok, wp_ok, ev_lit, ev_var, ev_glo, ev_tyv, sts_nil, ws_nx, List.map_cons, List.map_nil, List.cons_append, List.nil_append, List.append_nil, List.getElem?_cons_zero, List.getElem?_cons_succ, srcs, List.length_cons, List.length_nil, List.replicate, bindT_name, bindT_2, bindT_3, bindT_nest, bindTs_nil, bindTs_cons, Nat.zero_add, Nat.reduceAdd, List.set_cons_zero, List.set_cons_succ, bin_add, bin_sub, cmp_gt, cmp_lt, cmp_ge, cmp_le, blt_int, blt_intb, blt_abs, blt_lenL, blt_lenT, blt_lenS, tr_bl, nt_bl, chn_bl, cmp_is, cmp_isnot, cmp_eq_int, cmp_ne_int, newLf0, newLt0, newT0, newLf1, newLt1, newT1, newLf2, newLt2, newT2, newLf3, newLt3, newT3, newLf4, newLt4, newT4, newLf5, newLt5, newT5, newLf6, newLt6, newT6, newLf7, newLt7, newT7, newLf8, newT8, newLf9, newT9, newLf10, newT10, newLf11, newT11, newLf12, newLf13, newLf14, newLf15, newLf16, pairsOf, keyOf, sat_idx0, sat_idx1, sat_idx2, sat_set1, sat_set2, bin_pow (i := 10) (j := 18) (by decide), bin_mulL (i := 2) (by decide), bin_div h1 hl, bin_mod h1]
    refine ⟨fun _ => ⟨fun _ => ⟨trivial, rq_of (t := t + 1) h1 (by omega)⟩, fun _ => w_coin6 (m0 := .dead) h1 hB ht⟩, fun _ => ⟨fun _ => ⟨trivial, rq_of (t := t + 1) h1 (by omega)⟩, fun _ => w_coin6 (m0 := .dead) h1 hB ht⟩⟩
/-- one of some -/
theorem w_any {xs : List D} {m : MO} (hm : Sat B m) (h1 : xs ≠ []) (h2 : xs.length < 2 ^ 40) (hB : B < 2 ^ 20) : Wp (callK P (k + 2) i__law_pick [.ref 0, .lst xs] (m :: R)) (GQ xs (B + 1) R) noX := by
  refine wp_callS rfl rfl ?_
  show Ws (sts _ b__law_pick _ _) _
  unfold b__law_pick
  have h0 : 0 < (xs.length : Int) := by
    have : 0 < xs.length := List.length_pos_iff.mpr h1
    omega
  simp only [ws_cons, ws_raise, ws_try, wp_att, cat_int, rep_int, cat_tup, cat_lst, set1_some, set1_none, wipe1_some, wipe1_none, ev_clsv, ws_exp, ws_retN, ws_brk, ws_cont, ws_ite, ws_ret, ws_asg, ws_iset, ws_pass, wp_bin, wp_cat, wp_rep, wp_neg, wp_and, wp_or, wp_not, wp_ite, wp_cmp, wp_chn, wp_slc, evo_no, wp_osome, wp_callE, wp_idx, wp_blt, wp_tup, wp_lst, wp_dic, wps_cons, wps_star, st_lst, st_tup, evs_nil, wps_ok, wp_ok, ev_lit, ev_var, ev_glo, ev_tyv, sts_nil, ws_nx, List.map_cons, List.map_nil, List.cons_append, List.nil_append, List.append_nil, List.getElem?_cons_zero, List.getElem?_cons_succ, srcs, List.length_cons, List.length_nil, List.replicate, bindT_name, bindT_2, bindT_3, bindT_nest, bindTs_nil, bindTs_cons, Nat.zero_add, Nat.reduceAdd, List.set_cons_zero, List.set_cons_succ, bin_add, bin_sub, cmp_gt, cmp_lt, cmp_ge, cmp_le, blt_int, blt_intb, blt_abs, blt_lenL, blt_lenT, blt_lenS, tr_bl, nt_bl, chn_bl, cmp_is, cmp_isnot, cmp_eq_int, cmp_ne_int, newLf0, newLt0, newT0, newLf1, newLt1, newT1, newLf2, newLt2, newT2, newLf3, newLt3, newT3, newLf4, newLt4, newT4, newLf5, newLt5, newT5, newLf6, newLt6, newT6, newLf7, newLt7, newT7, newLf8, newT8, newLf9, newT9, newLf10, newT10, newLf11, newT11, newLf12, newLf13, newLf14, newLf15, newLf16, pairsOf, keyOf, g__law_steer]
  refine (w_coin hm h0 (by omega) hB).imp fun d S ⟨n, m', e, a, b, e2, s⟩ => ?_
  subst e e2
  obtain ⟨v, hv, hv2⟩ := range_at a b
  rw [idx_lst hv, wp_ok]
  exact ⟨rfl, m', List.mem_of_getElem? hv2, rfl, s⟩
/-- one of some -/
theorem w_anyT {xs : List D} {m : MO} (hm : Sat B m) (h1 : xs ≠ []) (h2 : xs.length < 2 ^ 40) (hB : B < 2 ^ 20) : Wp (callK P (k + 2) i__law_pick [.ref 0, .tup xs] (m :: R)) (GQ xs (B + 1) R) noX := by
  refine wp_callS rfl rfl ?_
  show Ws (sts _ b__law_pick _ _) _
  unfold b__law_pick
  have h0 : 0 < (xs.length : Int) := by
    have : 0 < xs.length := List.length_pos_iff.mpr h1
    omega
  simp only [ws_cons, ws_raise, ws_try, wp_att, cat_int, rep_int, cat_tup, cat_lst, set1_some, set1_none, wipe1_some, wipe1_none, ev_clsv, ws_exp, ws_retN, ws_brk, ws_cont, ws_ite, ws_ret, ws_asg, ws_iset, ws_pass, wp_bin, wp_cat, wp_rep, wp_neg, wp_and, wp_or, wp_not, wp_ite, wp_cmp, wp_chn, wp_slc, evo_no, wp_osome, wp_callE, wp_idx, wp_blt, wp_tup, wp_lst, wp_dic, wps_cons, wps_star, st_lst, st_tup, evs_nil, wps_ok, wp_ok, ev_lit, ev_var, ev_glo, ev_tyv, sts_nil, ws_nx, List.map_cons, List.map_nil, List.cons_append, List.nil_append, List.append_nil, List.getElem?_cons_zero, List.getElem?_cons_succ, srcs, List.length_cons, List.length_nil, List.replicate, bindT_name, bindT_2, bindT_3, bindT_nest, bindTs_nil, bindTs_cons, Nat.zero_add, Nat.reduceAdd, List.set_cons_zero, List.set_cons_succ, bin_add, bin_sub, cmp_gt, cmp_lt, cmp_ge, cmp_le, blt_int, blt_intb, blt_abs, blt_lenL, blt_lenT, blt_lenS, tr_bl, nt_bl, chn_bl, cmp_is, cmp_isnot, cmp_eq_int, cmp_ne_int, newLf0, newLt0, newT0, newLf1, newLt1, newT1, newLf2, newLt2, newT2, newLf3, newLt3, newT3, newLf4, newLt4, newT4, newLf5, newLt5, newT5, newLf6, newLt6, newT6, newLf7, newLt7, newT7, newLf8, newT8, newLf9, newT9, newLf10, newT10, newLf11, newT11, newLf12, newLf13, newLf14, newLf15, newLf16, pairsOf, keyOf, g__law_steer]
  refine (w_coin hm h0 (by omega) hB).imp fun d S ⟨n, m', e, a, b, e2, s⟩ => ?_
  subst e e2
  obtain ⟨v, hv, hv2⟩ := range_at a b
  rw [idx_tup hv, wp_ok]
  exact ⟨rfl, m', List.mem_of_getElem? hv2, rfl, s⟩
/-- one sign of a text -/
theorem w_anyS {l : List Nat} {m : MO} (hm : Sat B m) (h1 : l ≠ []) (h2 : l.length < 2 ^ 40) (hB : B < 2 ^ 20) : Wp (callK P (k + 2) i__law_pick [.ref 0, .str (T l)] (m :: R)) (fun d S => ∃ c m', c ∈ l ∧ d = .str (T [c]) ∧ S = m' :: R ∧ Sat (B + 1) m') noX := by
  refine wp_callS rfl rfl ?_
  show Ws (sts _ b__law_pick _ _) _
  unfold b__law_pick
  have h0 : 0 < (l.length : Int) := by
    have : 0 < l.length := List.length_pos_iff.mpr h1
    omega
  simp only [ws_cons, ws_raise, ws_try, wp_att, cat_int, rep_int, cat_tup, cat_lst, set1_some, set1_none, wipe1_some, wipe1_none, ev_clsv, ws_exp, ws_retN, ws_brk, ws_cont, ws_ite, ws_ret, ws_asg, ws_iset, ws_pass, wp_bin, wp_cat, wp_rep, wp_neg, wp_and, wp_or, wp_not, wp_ite, wp_cmp, wp_chn, wp_slc, evo_no, wp_osome, wp_callE, wp_idx, wp_blt, wp_tup, wp_lst, wp_dic, wps_cons, wps_star, st_lst, st_tup, evs_nil, wps_ok, wp_ok, ev_lit, ev_var, ev_glo, ev_tyv, sts_nil, ws_nx, List.map_cons, List.map_nil, List.cons_append, List.nil_append, List.append_nil, List.getElem?_cons_zero, List.getElem?_cons_succ, srcs, List.length_cons, List.length_nil, List.replicate, bindT_name, bindT_2, bindT_3, bindT_nest, bindTs_nil, bindTs_cons, Nat.zero_add, Nat.reduceAdd, List.set_cons_zero, List.set_cons_succ, bin_add, bin_sub, cmp_gt, cmp_lt, cmp_ge, cmp_le, blt_int, blt_intb, blt_abs, blt_lenL, blt_lenT, blt_lenS, tr_bl, nt_bl, chn_bl, cmp_is, cmp_isnot, cmp_eq_int, cmp_ne_int, newLf0, newLt0, newT0, newLf1, newLt1, newT1, newLf2, newLt2, newT2, newLf3, newLt3, newT3, newLf4, newLt4, newT4, newLf5, newLt5, newT5, newLf6, newLt6, newT6, newLf7, newLt7, newT7, newLf8, newT8, newLf9, newT9, newLf10, newT10, newLf11, newT11, newLf12, newLf13, newLf14, newLf15, newLf16, pairsOf, keyOf, g__law_steer, T_len]
  refine (w_coin hm h0 (by omega) hB).imp fun d S ⟨n, m', e, a, b, e2, s⟩ => ?_
  subst e e2
  have hlt : n.toNat < l.length := by omega
  have hv : L2.atI (T l).cps.toList n = some l[n.toNat] := by
    rw [T_cps]
    unfold L2.atI L2.ixN
    rw [if_pos a, if_pos b]
    exact List.getElem?_eq_getElem hlt
  rw [idx_str hv, wp_ok]
  exact ⟨rfl, _, m', List.getElem_mem hlt, rfl, rfl, s⟩
theorem w_purse {ns : List Int} : Wp (callK P (k + 1) i__law_prow [.lst (ns.map .int)] []) (fun d S => d = .ref 0 ∧ ∃ m, S = [m] ∧ Sat 0 m) noX := by
  refine wp_call rfl rfl ?_
  show Ws (sts _ b__law_prow _ _) _
  unfold b__law_prow
  simp only [ws_cons, ws_raise, ws_try, wp_att, cat_int, rep_int, cat_tup, cat_lst, set1_some, set1_none, wipe1_some, wipe1_none, ev_clsv, ws_exp, ws_retN, ws_brk, ws_cont, ws_ite, ws_ret, ws_asg, ws_iset, ws_pass, wp_bin, wp_cat, wp_rep, wp_neg, wp_and, wp_or, wp_not, wp_ite, wp_cmp, wp_chn, wp_slc, evo_no, wp_osome, wp_callE, wp_idx, wp_blt, wp_tup, wp_lst, wp_dic, wps_cons, wps_star, st_lst, st_tup, evs_nil, wps_ok, wp_ok, ev_lit, ev_var, ev_glo, ev_tyv, sts_nil, ws_nx, List.map_cons, List.map_nil, List.cons_append, List.nil_append, List.append_nil, List.getElem?_cons_zero, List.getElem?_cons_succ, srcs, List.length_cons, List.length_nil, List.replicate, bindT_name, bindT_2, bindT_3, bindT_nest, bindTs_nil, bindTs_cons, Nat.zero_add, Nat.reduceAdd, List.set_cons_zero, List.set_cons_succ, bin_add, bin_sub, cmp_gt, cmp_lt, cmp_ge, cmp_le, blt_int, blt_intb, blt_abs, blt_lenL, blt_lenT, blt_lenS, tr_bl, nt_bl, chn_bl, cmp_is, cmp_isnot, cmp_eq_int, cmp_ne_int, newLf0, newLt0, newT0, newLf1, newLt1, newT1, newLf2, newLt2, newT2, newLf3, newLt3, newT3, newLf4, newLt4, newT4, newLf5, newLt5, newT5, newLf6, newLt6, newT6, newLf7, newLt7, newT7, newLf8, newT8, newLf9, newT9, newLf10, newT10, newLf11, newT11, newLf12, newLf13, newLf14, newLf15, newLf16, pairsOf, keyOf, wp_comp, wps_val]
  obtain ⟨ms, hms, h60⟩ : ∃ ms : List Int, cutD (ns.map .int) none (some 57) = ms.map .int ∧ ms.length ≤ 57 := by
    refine ⟨ns.take (min 57 ns.length), ?_, by rw [List.length_take]; omega⟩
    unfold cutD HT.sIx
    simp [List.map_take]
  have hl : (ms.map D.int).length ≤ sizeLine := small (by rw [List.length_map]; omega)
  rw [show slcD false (.lst (ns.map .int)) none (some 57) [] = newL false (cutD (ns.map .int) none (some 57)) [] from rfl, hms, newL_f hl, wp_ok, wk_lst]
  refine comp_all (f := id) (fun x hx => ?_) ?_
  · obtain ⟨i, _, rfl⟩ := List.mem_map.mp hx
    refine ⟨_, rfl, ?_⟩
    simp only [ws_cons, ws_raise, ws_try, wp_att, cat_int, rep_int, cat_tup, cat_lst, set1_some, set1_none, wipe1_some, wipe1_none, ev_clsv, ws_exp, ws_retN, ws_brk, ws_cont, ws_ite, ws_ret, ws_asg, ws_iset, ws_pass, wp_bin, wp_cat, wp_rep, wp_neg, wp_and, wp_or, wp_not, wp_ite, wp_cmp, wp_chn, wp_slc, evo_no, wp_osome, wp_callE, wp_idx, wp_blt, wp_tup, wp_lst, wp_dic, wps_cons, wps_star, st_lst, st_tup, evs_nil, wps_ok, wp_ok, ev_lit, ev_var, ev_glo, ev_tyv, sts_nil, ws_nx, List.map_cons, List.map_nil, List.cons_append, List.nil_append, List.append_nil, List.getElem?_cons_zero, List.getElem?_cons_succ, srcs, List.length_cons, List.length_nil, List.replicate, bindT_name, bindT_2, bindT_3, bindT_nest, bindTs_nil, bindTs_cons, Nat.zero_add, Nat.reduceAdd, List.set_cons_zero, List.set_cons_succ, bin_add, bin_sub, cmp_gt, cmp_lt, cmp_ge, cmp_le, blt_int, blt_intb, blt_abs, blt_lenL, blt_lenT, blt_lenS, tr_bl, nt_bl, chn_bl, cmp_is, cmp_isnot, cmp_eq_int, cmp_ne_int, newLf0, newLt0, newT0, newLf1, newLt1, newT1, newLf2, newLt2, newT2, newLf3, newLt3, newT3, newLf4, newLt4, newT4, newLf5, newLt5, newT5, newLf6, newLt6, newT6, newLf7, newLt7, newT7, newLf8, newT8, newLf9, newT9, newLf10, newT10, newLf11, newT11, newLf12, newLf13, newLf14, newLf15, newLf16, pairsOf, keyOf, wipeD]
    exact ⟨rfl, trivial⟩
  · rw [List.map_id, newL_f hl, wp_ok]
    show if (false && _) = true then _ else _
    exact ⟨rfl, _, rfl, ms, 0, 0, rfl, Nat.le_refl _⟩
end LW
set_option maxHeartbeats 4000000
namespace LW
open PySem PySem.Spec PD
variable {k : Nat} {S : Store} {d : D}
theorem c_is_integer (h : known d = true) : callK P (k + 1) i_is_integer [d] S = .ok (.bl (isInt d)) S := by
  refine call_same rfl ?_
  cases d <;> first | rfl | cases h
def within (d : D) (lo hi : Option Int) : Bool := match d with
  | .int i => lo.all (fun l => decide (l ≤ i)) && hi.all (fun l => decide (i ≤ l))
  | _ => false
end LW
set_option maxHeartbeats 4000000
namespace LW
open PySem PySem.Spec PD
variable {k : Nat} {S : Store} {d : D}
theorem c_is_within {v : D} {lo hi : Option Int} (h : known v = true) : callK P (k + 2) i_is_within [v, oD lo, oD hi] S = .ok (.bl (within v lo hi)) S := by
  refine call_pure rfl rfl ?_
  show Ws (sts _ b_is_within _ _) _
  unfold b_is_within b_is_within_0t b_is_within_1
  simp only [ws_cons, ws_raise, ws_try, wp_att, cat_int, rep_int, cat_tup, cat_lst, set1_some, set1_none, wipe1_some, wipe1_none, ev_clsv, ws_exp, ws_retN, ws_brk, ws_cont, ws_ite, ws_ret, ws_asg, ws_iset, ws_pass, wp_bin, wp_cat, wp_rep, wp_neg, wp_and, wp_or, wp_not, wp_ite, wp_cmp, wp_chn, wp_slc, evo_no, wp_osome, wp_callE, wp_idx, wp_blt, wp_tup, wp_lst, wp_dic, wps_cons, wps_star, st_lst, st_tup, evs_nil, wps_ok, wp_ok, ev_lit, ev_var, ev_glo, ev_tyv, sts_nil, ws_nx, List.map_cons, List.map_nil, List.cons_append, List.nil_append, List.append_nil, List.getElem?_cons_zero, List.getElem?_cons_succ, srcs, List.length_cons, List.length_nil, List.replicate, bindT_name, bindT_2, bindT_3, bindT_nest, bindTs_nil, bindTs_cons, Nat.zero_add, Nat.reduceAdd, List.set_cons_zero, List.set_cons_succ, bin_add, bin_sub, cmp_gt, cmp_lt, cmp_ge, cmp_le, blt_int, blt_intb, blt_abs, blt_lenL, blt_lenT, blt_lenS, tr_bl, nt_bl, chn_bl, cmp_is, cmp_isnot, cmp_eq_int, cmp_ne_int, newLf0, newLt0, newT0, newLf1, newLt1, newT1, newLf2, newLt2, newT2, newLf3, newLt3, newT3, newLf4, newLt4, newT4, newLf5, newLt5, newT5, newLf6, newLt6, newT6, newLf7, newLt7, newT7, newLf8, newT8, newLf9, newT9, newLf10, newT10, newLf11, newT11, newLf12, newLf13, newLf14, newLf15, newLf16, pairsOf, keyOf, g_is_integer, c_is_integer h]
  refine ⟨fun hn => ?_, fun hy => ?_⟩
  · have hn : isInt v = false := by simpa using hn
    refine ⟨?_, trivial⟩
    cases v <;> first | rfl | cases hn
  · have hy : isInt v = true := by simpa using hy
    obtain ⟨i, rfl⟩ := int_of hy
    have key : within (.int i) lo hi = (lo.all (fun l => decide (l ≤ i)) && hi.all (fun l => decide (i ≤ l))) := rfl
    rw [key]
    cases lo with
    | none =>
      cases hi with
      | none => simp [oD, isNon]
      | some u => simp [oD, isNon, cmp_le, wp_ok]
    | some l =>
      cases hi with
      | none => simp [oD, isNon, cmp_ge, wp_ok, tr_bl]
      | some u =>
        simp [oD, isNon, cmp_le, cmp_ge, wp_ok, tr_bl]
        exact ⟨fun h _ => h, fun h1 h2 => by omega⟩
end LW
set_option maxHeartbeats 4000000
namespace LW
open PySem PySem.Spec PD
variable {k : Nat} {S : Store} {d : D}
def areInts (d : D) : Bool := match itemsD d with
  | some xs => xs.all isInt
  | none => false
theorem c_are_integers (h : okSeq d) : callK P (k + 2) i_are_integers [d] S = .ok (.bl (areInts d)) S := by
  refine call_pure rfl rfl ?_
  show Ws (sts _ b_are_integers _ _) _
  unfold b_are_integers
  simp only [ws_cons, ws_raise, ws_try, wp_att, cat_int, rep_int, cat_tup, cat_lst, set1_some, set1_none, wipe1_some, wipe1_none, ev_clsv, ws_exp, ws_retN, ws_brk, ws_cont, ws_ite, ws_ret, ws_asg, ws_iset, ws_pass, wp_bin, wp_cat, wp_rep, wp_neg, wp_and, wp_or, wp_not, wp_ite, wp_cmp, wp_chn, wp_slc, evo_no, wp_osome, wp_callE, wp_idx, wp_blt, wp_tup, wp_lst, wp_dic, wps_cons, wps_star, st_lst, st_tup, evs_nil, wps_ok, wp_ok, ev_lit, ev_var, ev_glo, ev_tyv, sts_nil, ws_nx, List.map_cons, List.map_nil, List.cons_append, List.nil_append, List.append_nil, List.getElem?_cons_zero, List.getElem?_cons_succ, srcs, List.length_cons, List.length_nil, List.replicate, bindT_name, bindT_2, bindT_3, bindT_nest, bindTs_nil, bindTs_cons, Nat.zero_add, Nat.reduceAdd, List.set_cons_zero, List.set_cons_succ, BT.nm, newT_ok (S := S) (xs := [.ty "list", .ty "tuple"]) (by decide), blt_isi_seq h.1, bin_add, bin_sub, cmp_gt, cmp_lt, cmp_ge, cmp_le, blt_int, blt_intb, blt_abs, blt_lenL, blt_lenT, blt_lenS, tr_bl, nt_bl, chn_bl, cmp_is, cmp_isnot, cmp_eq_int, cmp_ne_int, newLf0, newLt0, newT0, newLf1, newLt1, newT1, newLf2, newLt2, newT2, newLf3, newLt3, newT3, newLf4, newLt4, newT4, newLf5, newLt5, newT5, newLf6, newLt6, newT6, newLf7, newLt7, newT7, newLf8, newT8, newLf9, newT9, newLf10, newT10, newLf11, newT11, newLf12, newLf13, newLf14, newLf15, newLf16, pairsOf, keyOf]
  refine ⟨fun hs => ?_, fun hs => ?_⟩
  · obtain ⟨xs, hi⟩ : ∃ xs, itemsD d = some xs := Option.isSome_iff_exists.mp hs
    obtain ⟨h1, h2⟩ := h.2 xs hi
    simp only [wp_comp, wps_val, wk_seq hi, ws_cons, ws_raise, ws_try, wp_att, cat_int, rep_int, cat_tup, cat_lst, set1_some, set1_none, wipe1_some, wipe1_none, ev_clsv, ws_exp, ws_retN, ws_brk, ws_cont, ws_ite, ws_ret, ws_asg, ws_iset, ws_pass, wp_bin, wp_cat, wp_rep, wp_neg, wp_and, wp_or, wp_not, wp_ite, wp_cmp, wp_chn, wp_slc, evo_no, wp_osome, wp_callE, wp_idx, wp_blt, wp_tup, wp_lst, wp_dic, wps_cons, wps_star, st_lst, st_tup, evs_nil, wps_ok, wp_ok, ev_lit, ev_var, ev_glo, ev_tyv, sts_nil, ws_nx, List.map_cons, List.map_nil, List.cons_append, List.nil_append, List.append_nil, List.getElem?_cons_zero, List.getElem?_cons_succ, srcs, List.length_cons, List.length_nil, List.replicate, bindT_name, bindT_2, bindT_3, bindT_nest, bindTs_nil, bindTs_cons, Nat.zero_add, Nat.reduceAdd, List.set_cons_zero, List.set_cons_succ]
    refine comp_all (f := fun x => .bl (isInt x)) (fun x hx => ⟨_, rfl, ?_⟩) ?_
    · simp only [ws_cons, ws_raise, ws_try, wp_att, cat_int, rep_int, cat_tup, cat_lst, set1_some, set1_none, wipe1_some, wipe1_none, ev_clsv, ws_exp, ws_retN, ws_brk, ws_cont, ws_ite, ws_ret, ws_asg, ws_iset, ws_pass, wp_bin, wp_cat, wp_rep, wp_neg, wp_and, wp_or, wp_not, wp_ite, wp_cmp, wp_chn, wp_slc, evo_no, wp_osome, wp_callE, wp_idx, wp_blt, wp_tup, wp_lst, wp_dic, wps_cons, wps_star, st_lst, st_tup, evs_nil, wps_ok, wp_ok, ev_lit, ev_var, ev_glo, ev_tyv, sts_nil, ws_nx, List.map_cons, List.map_nil, List.cons_append, List.nil_append, List.append_nil, List.getElem?_cons_zero, List.getElem?_cons_succ, srcs, List.length_cons, List.length_nil, List.replicate, bindT_name, bindT_2, bindT_3, bindT_nest, bindTs_nil, bindTs_cons, Nat.zero_add, Nat.reduceAdd, List.set_cons_zero, List.set_cons_succ, wipeD, g_is_integer, c_is_integer (h1 x hx)]
      exact ⟨trivial, trivial⟩
    · rw [newL_f (by simpa using h2), wp_ok, show xs.map (fun x => D.bl (isInt x)) = (xs.map isInt).map D.bl by simp, blt_all, wp_ok]
      refine ⟨?_, rfl⟩
      unfold areInts
      rw [hi, List.all_map]; rfl
  · refine ⟨?_, trivial⟩
    rw [hs]
    cases d with
    | lst xs => cases hs
    | tup xs => cases hs
    | _ => rfl
end LW
set_option maxHeartbeats 4000000
namespace LW
open PySem PySem.Spec PD
variable {k : Nat} {S : Store} {d : D}
def inR (lo hi : Int) : D → Bool
  | .int i => decide (lo ≤ i) && decide (i ≤ hi)
  | _ => false
def numsOk (d : D) (many most : Int) : Bool := match itemsD d with
  | some xs => xs.all isInt && (decide ((xs.length : Int) = many) && xs.all (inR 0 most))
  | none => false
def nums (xs : List D) (many most : Int) : Bool := xs.all isInt && (decide ((xs.length : Int) = many) && xs.all (inR 0 most))
theorem w_nums {xs : List D} {many most : Int} {v : D} (hi : itemsD v = some xs) (h : okSeq v) : callK P (k + 3) i_is_numbers [v, .int many, .int most] S = .ok (.bl (nums xs many most)) S := by
  refine call_pure rfl rfl ?_
  show Ws (sts _ b_is_numbers _ _) _
  unfold b_is_numbers
  have ha : areInts v = xs.all isInt := by unfold areInts; rw [hi]
  simp only [ws_cons, ws_raise, ws_try, wp_att, cat_int, rep_int, cat_tup, cat_lst, set1_some, set1_none, wipe1_some, wipe1_none, ev_clsv, ws_exp, ws_retN, ws_brk, ws_cont, ws_ite, ws_ret, ws_asg, ws_iset, ws_pass, wp_bin, wp_cat, wp_rep, wp_neg, wp_and, wp_or, wp_not, wp_ite, wp_cmp, wp_chn, wp_slc, evo_no, wp_osome, wp_callE, wp_idx, wp_blt, wp_tup, wp_lst, wp_dic, wps_cons, wps_star, st_lst, st_tup, evs_nil, wps_ok, wp_ok, ev_lit, ev_var, ev_glo, ev_tyv, sts_nil, ws_nx, List.map_cons, List.map_nil, List.cons_append, List.nil_append, List.append_nil, List.getElem?_cons_zero, List.getElem?_cons_succ, srcs, List.length_cons, List.length_nil, List.replicate, bindT_name, bindT_2, bindT_3, bindT_nest, bindTs_nil, bindTs_cons, Nat.zero_add, Nat.reduceAdd, List.set_cons_zero, List.set_cons_succ, g_are_integers, c_are_integers h, ha, bin_add, bin_sub, cmp_gt, cmp_lt, cmp_ge, cmp_le, blt_int, blt_intb, blt_abs, blt_lenL, blt_lenT, blt_lenS, tr_bl, nt_bl, chn_bl, cmp_is, cmp_isnot, cmp_eq_int, cmp_ne_int, newLf0, newLt0, newT0, newLf1, newLt1, newT1, newLf2, newLt2, newT2, newLf3, newLt3, newT3, newLf4, newLt4, newT4, newLf5, newLt5, newT5, newLf6, newLt6, newT6, newLf7, newLt7, newT7, newLf8, newT8, newLf9, newT9, newLf10, newT10, newLf11, newT11, newLf12, newLf13, newLf14, newLf15, newLf16, pairsOf, keyOf, blt_len_seq hi, wp_comp, wps_val, wk_seq hi, len_dec]
  refine ⟨fun h1 => ⟨fun h2 => ?_, fun h2 => ?_⟩, fun h1 => ?_⟩
  · refine comp_all (f := fun x => .bl (inR 0 most x)) (fun x hx => ?_) ?_
    · obtain ⟨i, rfl⟩ := int_of (List.all_eq_true.mp h1 x hx)
      refine ⟨_, rfl, ?_⟩
      simp only [ws_cons, ws_raise, ws_try, wp_att, cat_int, rep_int, cat_tup, cat_lst, set1_some, set1_none, wipe1_some, wipe1_none, ev_clsv, ws_exp, ws_retN, ws_brk, ws_cont, ws_ite, ws_ret, ws_asg, ws_iset, ws_pass, wp_bin, wp_cat, wp_rep, wp_neg, wp_and, wp_or, wp_not, wp_ite, wp_cmp, wp_chn, wp_slc, evo_no, wp_osome, wp_callE, wp_idx, wp_blt, wp_tup, wp_lst, wp_dic, wps_cons, wps_star, st_lst, st_tup, evs_nil, wps_ok, wp_ok, ev_lit, ev_var, ev_glo, ev_tyv, sts_nil, ws_nx, List.map_cons, List.map_nil, List.cons_append, List.nil_append, List.append_nil, List.getElem?_cons_zero, List.getElem?_cons_succ, srcs, List.length_cons, List.length_nil, List.replicate, bindT_name, bindT_2, bindT_3, bindT_nest, bindTs_nil, bindTs_cons, Nat.zero_add, Nat.reduceAdd, List.set_cons_zero, List.set_cons_succ, bin_add, bin_sub, cmp_gt, cmp_lt, cmp_ge, cmp_le, blt_int, blt_intb, blt_abs, blt_lenL, blt_lenT, blt_lenS, tr_bl, nt_bl, chn_bl, cmp_is, cmp_isnot, cmp_eq_int, cmp_ne_int, newLf0, newLt0, newT0, newLf1, newLt1, newT1, newLf2, newLt2, newT2, newLf3, newLt3, newT3, newLf4, newLt4, newT4, newLf5, newLt5, newT5, newLf6, newLt6, newT6, newLf7, newLt7, newT7, newLf8, newT8, newLf9, newT9, newLf10, newT10, newLf11, newT11, newLf12, newLf13, newLf14, newLf15, newLf16, pairsOf, keyOf, wipeD]
      refine ⟨fun h3 => ⟨?_, trivial⟩, fun h3 => ⟨?_, trivial⟩⟩
      · show _ = D.bl (decide (0 ≤ i) && decide (i ≤ most)); rw [h3]; rfl
      · show _ = D.bl (decide (0 ≤ i) && decide (i ≤ most)); rw [h3]; rfl
    · rw [newL_f (by simpa using (h.2 xs hi).2), wp_ok, all_bl, blt_all, wp_ok]
      refine ⟨?_, rfl⟩
      unfold nums
      rw [h1, h2, List.all_map]; rfl
  · refine ⟨?_, trivial⟩
    unfold nums
    rw [h1, h2]; rfl
  · refine ⟨?_, trivial⟩
    unfold nums
    rw [h1]; rfl
/-- what is no list is none -/
theorem w_nums0 {many most : Int} {v : D} (hi : itemsD v = none) (h : okSeq v) : callK P (k + 3) i_is_numbers [v, .int many, .int most] S = .ok (.bl false) S := by
  refine call_pure rfl rfl ?_
  show Ws (sts _ b_is_numbers _ _) _
  unfold b_is_numbers
  have ha : areInts v = false := by unfold areInts; rw [hi]
  simp only [ws_cons, ws_raise, ws_try, wp_att, cat_int, rep_int, cat_tup, cat_lst, set1_some, set1_none, wipe1_some, wipe1_none, ev_clsv, ws_exp, ws_retN, ws_brk, ws_cont, ws_ite, ws_ret, ws_asg, ws_iset, ws_pass, wp_bin, wp_cat, wp_rep, wp_neg, wp_and, wp_or, wp_not, wp_ite, wp_cmp, wp_chn, wp_slc, evo_no, wp_osome, wp_callE, wp_idx, wp_blt, wp_tup, wp_lst, wp_dic, wps_cons, wps_star, st_lst, st_tup, evs_nil, wps_ok, wp_ok, ev_lit, ev_var, ev_glo, ev_tyv, sts_nil, ws_nx, List.map_cons, List.map_nil, List.cons_append, List.nil_append, List.append_nil, List.getElem?_cons_zero, List.getElem?_cons_succ, srcs, List.length_cons, List.length_nil, List.replicate, bindT_name, bindT_2, bindT_3, bindT_nest, bindTs_nil, bindTs_cons, Nat.zero_add, Nat.reduceAdd, List.set_cons_zero, List.set_cons_succ, g_are_integers, c_are_integers h, ha, bin_add, bin_sub, cmp_gt, cmp_lt, cmp_ge, cmp_le, blt_int, blt_intb, blt_abs, blt_lenL, blt_lenT, blt_lenS, tr_bl, nt_bl, chn_bl, cmp_is, cmp_isnot, cmp_eq_int, cmp_ne_int, newLf0, newLt0, newT0, newLf1, newLt1, newT1, newLf2, newLt2, newT2, newLf3, newLt3, newT3, newLf4, newLt4, newT4, newLf5, newLt5, newT5, newLf6, newLt6, newT6, newLf7, newLt7, newT7, newLf8, newT8, newLf9, newT9, newLf10, newT10, newLf11, newT11, newLf12, newLf13, newLf14, newLf15, newLf16, pairsOf, keyOf]
  exact ⟨(fun z => nomatch z), fun _ => ⟨trivial, trivial⟩⟩
end LW
set_option maxHeartbeats 4000000
namespace LW
open PySem PySem.Spec PD
variable {k : Nat} {S : Store} {d : D}
theorem w_need_number {v part : D} {lo hi : Int} {Q : QD} {E : XD} (h : known v = true) (hq : within v (some lo) (some hi) = true → Q .non S) (hx : within v (some lo) (some hi) = false → E ⟨x_BadNumber, [("part", part)]⟩ S) : Wp (callK P (k + 3) i_need_number [v, part, .int lo, .int hi] S) Q E := by
  refine wp_callS rfl rfl ?_
  show Ws (sts _ b_need_number _ _) _
  unfold b_need_number b_need_number_0t
  have e : ∀ S, callK P (k + 2) i_is_within [v, .int lo, .int hi] S = .ok (.bl (within v (some lo) (some hi))) S := fun S => c_is_within (lo := some lo) (hi := some hi) h
  cases hc : within v (some lo) (some hi)
  · simp only [ws_cons, ws_raise, ws_try, wp_att, cat_int, rep_int, cat_tup, cat_lst, set1_some, set1_none, wipe1_some, wipe1_none, ev_clsv, ws_exp, ws_retN, ws_brk, ws_cont, ws_ite, ws_ret, ws_asg, ws_iset, ws_pass, wp_bin, wp_cat, wp_rep, wp_neg, wp_and, wp_or, wp_not, wp_ite, wp_cmp, wp_chn, wp_slc, evo_no, wp_osome, wp_callE, wp_idx, wp_blt, wp_tup, wp_lst, wp_dic, wps_cons, wps_star, st_lst, st_tup, evs_nil, wps_ok, wp_ok, ev_lit, ev_var, ev_glo, ev_tyv, sts_nil, ws_nx, List.map_cons, List.map_nil, List.cons_append, List.nil_append, List.append_nil, List.getElem?_cons_zero, List.getElem?_cons_succ, srcs, List.length_cons, List.length_nil, List.replicate, bindT_name, bindT_2, bindT_3, bindT_nest, bindTs_nil, bindTs_cons, Nat.zero_add, Nat.reduceAdd, List.set_cons_zero, List.set_cons_succ, bin_add, bin_sub, cmp_gt, cmp_lt, cmp_ge, cmp_le, blt_int, blt_intb, blt_abs, blt_lenL, blt_lenT, blt_lenS, tr_bl, nt_bl, chn_bl, cmp_is, cmp_isnot, cmp_eq_int, cmp_ne_int, newLf0, newLt0, newT0, newLf1, newLt1, newT1, newLf2, newLt2, newT2, newLf3, newLt3, newT3, newLf4, newLt4, newT4, newLf5, newLt5, newT5, newLf6, newLt6, newT6, newLf7, newLt7, newT7, newLf8, newT8, newLf9, newT9, newLf10, newT10, newLf11, newT11, newLf12, newLf13, newLf14, newLf15, newLf16, pairsOf, keyOf, Bool.not_true, Bool.not_false, Bool.true_eq_false, Bool.false_eq_true, false_implies, true_implies, and_true, true_and, forall_const, Bool.not_eq_true', Bool.not_eq_false', decide_eq_true_eq, decide_eq_false_iff_not, reduceCtorEq, Int.not_lt, Int.not_le, Nat.not_lt, Nat.not_le, and_self, implies_true, beq_iff_eq, beq_eq_false_iff_ne, ne_eq, g_is_within, e, hc, fldD, List.foldl_cons, List.foldl_nil, if_true]
    exact hx hc
  · simp only [ws_cons, ws_raise, ws_try, wp_att, cat_int, rep_int, cat_tup, cat_lst, set1_some, set1_none, wipe1_some, wipe1_none, ev_clsv, ws_exp, ws_retN, ws_brk, ws_cont, ws_ite, ws_ret, ws_asg, ws_iset, ws_pass, wp_bin, wp_cat, wp_rep, wp_neg, wp_and, wp_or, wp_not, wp_ite, wp_cmp, wp_chn, wp_slc, evo_no, wp_osome, wp_callE, wp_idx, wp_blt, wp_tup, wp_lst, wp_dic, wps_cons, wps_star, st_lst, st_tup, evs_nil, wps_ok, wp_ok, ev_lit, ev_var, ev_glo, ev_tyv, sts_nil, ws_nx, List.map_cons, List.map_nil, List.cons_append, List.nil_append, List.append_nil, List.getElem?_cons_zero, List.getElem?_cons_succ, srcs, List.length_cons, List.length_nil, List.replicate, bindT_name, bindT_2, bindT_3, bindT_nest, bindTs_nil, bindTs_cons, Nat.zero_add, Nat.reduceAdd, List.set_cons_zero, List.set_cons_succ, bin_add, bin_sub, cmp_gt, cmp_lt, cmp_ge, cmp_le, blt_int, blt_intb, blt_abs, blt_lenL, blt_lenT, blt_lenS, tr_bl, nt_bl, chn_bl, cmp_is, cmp_isnot, cmp_eq_int, cmp_ne_int, newLf0, newLt0, newT0, newLf1, newLt1, newT1, newLf2, newLt2, newT2, newLf3, newLt3, newT3, newLf4, newLt4, newT4, newLf5, newLt5, newT5, newLf6, newLt6, newT6, newLf7, newLt7, newT7, newLf8, newT8, newLf9, newT9, newLf10, newT10, newLf11, newT11, newLf12, newLf13, newLf14, newLf15, newLf16, pairsOf, keyOf, Bool.not_true, Bool.not_false, Bool.true_eq_false, Bool.false_eq_true, false_implies, true_implies, and_true, true_and, forall_const, Bool.not_eq_true', Bool.not_eq_false', decide_eq_true_eq, decide_eq_false_iff_not, reduceCtorEq, Int.not_lt, Int.not_le, Nat.not_lt, Nat.not_le, and_self, implies_true, beq_iff_eq, beq_eq_false_iff_ne, ne_eq, g_is_within, e, hc]
    exact hq hc
end LW
set_option maxHeartbeats 4000000
namespace LW
open PySem PySem.Spec PD
variable {k : Nat} {S : Store} {d : D}
/-- a block, by its items -/
def blkL (xs : List D) : Bool := nums xs 16 65535
def blkD (d : D) : Bool := match itemsD d with
  | some xs => blkL xs
  | none => false
theorem c_is_block (h : okSeq d) : callK P (k + 4) i_is_block [d] S = .ok (.bl (blkD d)) S := by
  refine call_pure rfl rfl ?_
  show Ws (sts _ b_is_block _ _) _
  unfold b_is_block
  have e : ∀ S, callK P (k + 3) i_is_numbers [d, .int 16, .int 65535] S = .ok (.bl (blkD d)) S := fun S => by
    unfold blkD
    cases hi : itemsD d with
    | none => exact w_nums0 hi h
    | some xs => exact w_nums hi h
  simp only [ws_cons, ws_raise, ws_try, wp_att, cat_int, rep_int, cat_tup, cat_lst, set1_some, set1_none, wipe1_some, wipe1_none, ev_clsv, ws_exp, ws_retN, ws_brk, ws_cont, ws_ite, ws_ret, ws_asg, ws_iset, ws_pass, wp_bin, wp_cat, wp_rep, wp_neg, wp_and, wp_or, wp_not, wp_ite, wp_cmp, wp_chn, wp_slc, evo_no, wp_osome, wp_callE, wp_idx, wp_blt, wp_tup, wp_lst, wp_dic, wps_cons, wps_star, st_lst, st_tup, evs_nil, wps_ok, wp_ok, ev_lit, ev_var, ev_glo, ev_tyv, sts_nil, ws_nx, List.map_cons, List.map_nil, List.cons_append, List.nil_append, List.append_nil, List.getElem?_cons_zero, List.getElem?_cons_succ, srcs, List.length_cons, List.length_nil, List.replicate, bindT_name, bindT_2, bindT_3, bindT_nest, bindTs_nil, bindTs_cons, Nat.zero_add, Nat.reduceAdd, List.set_cons_zero, List.set_cons_succ, bin_add, bin_sub, cmp_gt, cmp_lt, cmp_ge, cmp_le, blt_int, blt_intb, blt_abs, blt_lenL, blt_lenT, blt_lenS, tr_bl, nt_bl, chn_bl, cmp_is, cmp_isnot, cmp_eq_int, cmp_ne_int, newLf0, newLt0, newT0, newLf1, newLt1, newT1, newLf2, newLt2, newT2, newLf3, newLt3, newT3, newLf4, newLt4, newT4, newLf5, newLt5, newT5, newLf6, newLt6, newT6, newLf7, newLt7, newT7, newLf8, newT8, newLf9, newT9, newLf10, newT10, newLf11, newT11, newLf12, newLf13, newLf14, newLf15, newLf16, pairsOf, keyOf, g_is_numbers, c_WIDTH, c_MOST_NUMBER, e]
  exact ⟨trivial, trivial⟩
theorem blk_of (h : blkD d = true) : ∃ l : List Int, itemsD d = some (l.map D.int) ∧ l.length = 16 ∧ ∀ i ∈ l, 0 ≤ i ∧ i ≤ 65535 := by
  unfold blkD at h
  cases hi : itemsD d with
  | none => rw [hi] at h; cases h
  | some xs =>
    rw [hi] at h
    obtain ⟨h1, h2⟩ := PD.ba (show (xs.all isInt && _) = true from h)
    obtain ⟨h2, h3⟩ := PD.ba h2
    obtain ⟨l, rfl⟩ := all_ints h1
    have h2 := of_decide_eq_true h2
    rw [List.length_map] at h2
    refine ⟨l, rfl, by omega, fun i hi => ?_⟩
    have := List.all_eq_true.mp h3 (.int i) (List.mem_map.mpr ⟨i, hi, rfl⟩)
    obtain ⟨a, b⟩ := PD.ba (show (decide (0 ≤ i) && decide (i ≤ 65535)) = true from this)
    exact ⟨of_decide_eq_true a, of_decide_eq_true b⟩
theorem blk_is {l : List Int} (hi : itemsD d = some (l.map D.int)) (hl : l.length = 16) (h : ∀ i ∈ l, 0 ≤ i ∧ i ≤ 65535) : blkD d = true := by
  unfold blkD
  rw [hi]
  show ((l.map D.int).all isInt && (decide (((l.map D.int).length : Int) = 16) && (l.map D.int).all (inR 0 65535))) = true
  have a1 : (l.map D.int).all isInt = true := List.all_eq_true.mpr fun x hx => by obtain ⟨i, _, rfl⟩ := List.mem_map.mp hx; rfl
  have a2 : (l.map D.int).all (inR 0 65535) = true := List.all_eq_true.mpr fun x hx => by
    obtain ⟨i, hi, rfl⟩ := List.mem_map.mp hx
    obtain ⟨p, q⟩ := h i hi
    show (decide (0 ≤ i) && decide (i ≤ 65535)) = true
    rw [decide_eq_true p, decide_eq_true q]; rfl
  rw [a1, a2, List.length_map, hl]; rfl
theorem w_need_block {part : D} {Q : QD} {E : XD} (h : okSeq d) (hq : ∀ l : List Int, itemsD d = some (l.map D.int) → l.length = 16 → (∀ i ∈ l, 0 ≤ i ∧ i ≤ 65535) → Q (.tup (l.map D.int)) S) (hx : blkD d = false → E ⟨x_BadBlock, [("part", part)]⟩ S) : Wp (callK P (k + 5) i_need_block [d, part] S) Q E := by
  refine wp_callS rfl rfl ?_
  show Ws (sts _ b_need_block _ _) _
  unfold b_need_block b_need_block_0t b_need_block_1
  cases hc : blkD d
  · simp only [ws_cons, ws_raise, ws_try, wp_att, cat_int, rep_int, cat_tup, cat_lst, set1_some, set1_none, wipe1_some, wipe1_none, ev_clsv, ws_exp, ws_retN, ws_brk, ws_cont, ws_ite, ws_ret, ws_asg, ws_iset, ws_pass, wp_bin, wp_cat, wp_rep, wp_neg, wp_and, wp_or, wp_not, wp_ite, wp_cmp, wp_chn, wp_slc, evo_no, wp_osome, wp_callE, wp_idx, wp_blt, wp_tup, wp_lst, wp_dic, wps_cons, wps_star, st_lst, st_tup, evs_nil, wps_ok, wp_ok, ev_lit, ev_var, ev_glo, ev_tyv, sts_nil, ws_nx, List.map_cons, List.map_nil, List.cons_append, List.nil_append, List.append_nil, List.getElem?_cons_zero, List.getElem?_cons_succ, srcs, List.length_cons, List.length_nil, List.replicate, bindT_name, bindT_2, bindT_3, bindT_nest, bindTs_nil, bindTs_cons, Nat.zero_add, Nat.reduceAdd, List.set_cons_zero, List.set_cons_succ, bin_add, bin_sub, cmp_gt, cmp_lt, cmp_ge, cmp_le, blt_int, blt_intb, blt_abs, blt_lenL, blt_lenT, blt_lenS, tr_bl, nt_bl, chn_bl, cmp_is, cmp_isnot, cmp_eq_int, cmp_ne_int, newLf0, newLt0, newT0, newLf1, newLt1, newT1, newLf2, newLt2, newT2, newLf3, newLt3, newT3, newLf4, newLt4, newT4, newLf5, newLt5, newT5, newLf6, newLt6, newT6, newLf7, newLt7, newT7, newLf8, newT8, newLf9, newT9, newLf10, newT10, newLf11, newT11, newLf12, newLf13, newLf14, newLf15, newLf16, pairsOf, keyOf, Bool.not_true, Bool.not_false, Bool.true_eq_false, Bool.false_eq_true, false_implies, true_implies, and_true, true_and, forall_const, Bool.not_eq_true', Bool.not_eq_false', decide_eq_true_eq, decide_eq_false_iff_not, reduceCtorEq, Int.not_lt, Int.not_le, Nat.not_lt, Nat.not_le, and_self, implies_true, beq_iff_eq, beq_eq_false_iff_ne, ne_eq, g_is_block, c_is_block (k := k) h, hc, fldD, List.foldl_cons, List.foldl_nil, if_true]
    exact hx hc
  · simp only [ws_cons, ws_raise, ws_try, wp_att, cat_int, rep_int, cat_tup, cat_lst, set1_some, set1_none, wipe1_some, wipe1_none, ev_clsv, ws_exp, ws_retN, ws_brk, ws_cont, ws_ite, ws_ret, ws_asg, ws_iset, ws_pass, wp_bin, wp_cat, wp_rep, wp_neg, wp_and, wp_or, wp_not, wp_ite, wp_cmp, wp_chn, wp_slc, evo_no, wp_osome, wp_callE, wp_idx, wp_blt, wp_tup, wp_lst, wp_dic, wps_cons, wps_star, st_lst, st_tup, evs_nil, wps_ok, wp_ok, ev_lit, ev_var, ev_glo, ev_tyv, sts_nil, ws_nx, List.map_cons, List.map_nil, List.cons_append, List.nil_append, List.append_nil, List.getElem?_cons_zero, List.getElem?_cons_succ, srcs, List.length_cons, List.length_nil, List.replicate, bindT_name, bindT_2, bindT_3, bindT_nest, bindTs_nil, bindTs_cons, Nat.zero_add, Nat.reduceAdd, List.set_cons_zero, List.set_cons_succ, bin_add, bin_sub, cmp_gt, cmp_lt, cmp_ge, cmp_le, blt_int, blt_intb, blt_abs, blt_lenL, blt_lenT, blt_lenS, tr_bl, nt_bl, chn_bl, cmp_is, cmp_isnot, cmp_eq_int, cmp_ne_int, newLf0, newLt0, newT0, newLf1, newLt1, newT1, newLf2, newLt2, newT2, newLf3, newLt3, newT3, newLf4, newLt4, newT4, newLf5, newLt5, newT5, newLf6, newLt6, newT6, newLf7, newLt7, newT7, newLf8, newT8, newLf9, newT9, newLf10, newT10, newLf11, newT11, newLf12, newLf13, newLf14, newLf15, newLf16, pairsOf, keyOf, Bool.not_true, Bool.not_false, Bool.true_eq_false, Bool.false_eq_true, false_implies, true_implies, and_true, true_and, forall_const, Bool.not_eq_true', Bool.not_eq_false', decide_eq_true_eq, decide_eq_false_iff_not, reduceCtorEq, Int.not_lt, Int.not_le, Nat.not_lt, Nat.not_le, and_self, implies_true, beq_iff_eq, beq_eq_false_iff_ne, ne_eq, g_is_block, c_is_block (k := k) h, hc]
    obtain ⟨l, hi, hl, hb⟩ := blk_of hc
    rw [tuple_of hi (by rw [List.length_map]; omega), wp_ok]
    exact ⟨rfl, hq l hi hl hb⟩
end LW
set_option maxHeartbeats 4000000
namespace LW
open PySem PySem.Spec PD
variable {k : Nat} {S : Store} {d : D}
def hd (e h f : Int) : List Int := 7 :: e :: h :: f :: List.replicate 12 0
def tupI (l : List Int) : D := .tup (l.map D.int)
theorem hd_len {e h f : Int} : (hd e h f).length = 16 := rfl
theorem c_head_of {e h f : Int} : callK P (k + 1) i_head_of [.int e, .int h, .int f] S = .ok (tupI (hd e h f)) S := by
  refine call_pure rfl rfl ?_
  show Ws (sts _ b_head_of _ _) _
  unfold b_head_of
  simp only [ws_cons, ws_raise, ws_try, wp_att, cat_int, rep_int, cat_tup, cat_lst, set1_some, set1_none, wipe1_some, wipe1_none, ev_clsv, ws_exp, ws_retN, ws_brk, ws_cont, ws_ite, ws_ret, ws_asg, ws_iset, ws_pass, wp_bin, wp_cat, wp_rep, wp_neg, wp_and, wp_or, wp_not, wp_ite, wp_cmp, wp_chn, wp_slc, evo_no, wp_osome, wp_callE, wp_idx, wp_blt, wp_tup, wp_lst, wp_dic, wps_cons, wps_star, st_lst, st_tup, evs_nil, wps_ok, wp_ok, ev_lit, ev_var, ev_glo, ev_tyv, sts_nil, ws_nx, List.map_cons, List.map_nil, List.cons_append, List.nil_append, List.append_nil, List.getElem?_cons_zero, List.getElem?_cons_succ, srcs, List.length_cons, List.length_nil, List.replicate, bindT_name, bindT_2, bindT_3, bindT_nest, bindTs_nil, bindTs_cons, Nat.zero_add, Nat.reduceAdd, List.set_cons_zero, List.set_cons_succ, bin_add, bin_sub, cmp_gt, cmp_lt, cmp_ge, cmp_le, blt_int, blt_intb, blt_abs, blt_lenL, blt_lenT, blt_lenS, tr_bl, nt_bl, chn_bl, cmp_is, cmp_isnot, cmp_eq_int, cmp_ne_int, newLf0, newLt0, newT0, newLf1, newLt1, newT1, newLf2, newLt2, newT2, newLf3, newLt3, newT3, newLf4, newLt4, newT4, newLf5, newLt5, newT5, newLf6, newLt6, newT6, newLf7, newLt7, newT7, newLf8, newT8, newLf9, newT9, newLf10, newT10, newLf11, newT11, newLf12, newLf13, newLf14, newLf15, newLf16, pairsOf, keyOf, c_MARK, c_WIDTH, rep_l (n := 12) (i := 16 - 4) rfl (by decide)]
  rw [newT_ok (small (by simp)), wp_ok]
  exact ⟨rfl, rfl⟩
/-- what a block tells -/
def toldL (l : List Int) : Option (Int × Int × Int) := match l with
  | _ :: e :: h :: f :: _ => if e = 0 ∨ 2 ≤ h ∨ f = 0 ∨ l ≠ hd e h f then none else some (e, h, f)
  | _ => none
def tripD (x : Int × Int × Int) : D := .tup [.int x.1, .int x.2.1, .int x.2.2]
def oT : Option (Int × Int × Int) → D
  | none => .non
  | some x => tripD x
theorem cmp_tupI {a b : List Int} : cmpD .NotEq (tupI a) (tupI b) S = .ok (.bl (!decide (a = b))) S := by
  unfold tupI
  rw [cmp_ne (n := 1) (m := 1) (show dat (.tup (a.map D.int)) 1 = true from datL_ints) (show dat (.tup (b.map D.int)) 1 = true from datL_ints) (by decide) (by decide)]
  show EOut.ok (.bl (!PyData.eqv (.tuple _) (.tuple _))) S = _
  rw [eqv_tuple, eqvAll_ints]
theorem slc_14 {m : Bool} {a b c e : D} {r : List D} : slcD m (.tup (a :: b :: c :: e :: r)) (some 1) (some 4) S = .ok (.tup [b, c, e]) S := by
  show EOut.ok (.tup (cutD (a :: b :: c :: e :: r) (some 1) (some 4))) S = _
  congr 2
theorem c_told_by {l : List Int} (hl : l.length = 16) : callK P (k + 2) i_told_by [tupI l] S = .ok (oT (toldL l)) S := by
  match l, hl with
  | a :: e :: h :: f :: r, hl =>
    refine call_pure rfl rfl ?_
    show Ws (sts _ b_told_by _ _) _
    unfold b_told_by b_told_by_1 b_told_by_1t b_told_by_2
    have e1 : tupI (a :: e :: h :: f :: r) = .tup (.int a :: .int e :: .int h :: .int f :: r.map D.int) := rfl
    have cn : ∀ S, cmpD .NotEq (.tup (.int a :: .int e :: .int h :: .int f :: r.map D.int)) (tupI (hd e h f)) S = .ok (.bl (!decide (a :: e :: h :: f :: r = hd e h f))) S := fun S => by rw [← e1]; exact cmp_tupI
    rw [e1]
    simp only [ws_cons, ws_raise, ws_try, wp_att, cat_int, rep_int, cat_tup, cat_lst, set1_some, set1_none, wipe1_some, wipe1_none, ev_clsv, ws_exp, ws_retN, ws_brk, ws_cont, ws_ite, ws_ret, ws_asg, ws_iset, ws_pass, wp_bin, wp_cat, wp_rep, wp_neg, wp_and, wp_or, wp_not, wp_ite, wp_cmp, wp_chn, wp_slc, evo_no, wp_osome, wp_callE, wp_idx, wp_blt, wp_tup, wp_lst, wp_dic, wps_cons, wps_star, st_lst, st_tup, evs_nil, wps_ok, wp_ok, ev_lit, ev_var, ev_glo, ev_tyv, sts_nil, ws_nx, List.map_cons, List.map_nil, List.cons_append, List.nil_append, List.append_nil, List.getElem?_cons_zero, List.getElem?_cons_succ, srcs, List.length_cons, List.length_nil, List.replicate, bindT_name, bindT_2, bindT_3, bindT_nest, bindTs_nil, bindTs_cons, Nat.zero_add, Nat.reduceAdd, List.set_cons_zero, List.set_cons_succ, bin_add, bin_sub, cmp_gt, cmp_lt, cmp_ge, cmp_le, blt_int, blt_intb, blt_abs, blt_lenL, blt_lenT, blt_lenS, tr_bl, nt_bl, chn_bl, cmp_is, cmp_isnot, cmp_eq_int, cmp_ne_int, newLf0, newLt0, newT0, newLf1, newLt1, newT1, newLf2, newLt2, newT2, newLf3, newLt3, newT3, newLf4, newLt4, newT4, newLf5, newLt5, newT5, newLf6, newLt6, newT6, newLf7, newLt7, newT7, newLf8, newT8, newLf9, newT9, newLf10, newT10, newLf11, newT11, newLf12, newLf13, newLf14, newLf15, newLf16, pairsOf, keyOf, Bool.not_true, Bool.not_false, Bool.true_eq_false, Bool.false_eq_true, false_implies, true_implies, and_true, true_and, forall_const, Bool.not_eq_true', Bool.not_eq_false', decide_eq_true_eq, decide_eq_false_iff_not, reduceCtorEq, Int.not_lt, Int.not_le, Nat.not_lt, Nat.not_le, and_self, implies_true, beq_iff_eq, beq_eq_false_iff_ne, ne_eq, slc_14, g_head_of, c_head_of, c_HALVES, cn]
    have tl : toldL (a :: e :: h :: f :: r) = if e = 0 ∨ 2 ≤ h ∨ f = 0 ∨ (a :: e :: h :: f :: r) ≠ hd e h f then none else some (e, h, f) := rfl
    rw [tl]
    repeat' (first | (intro _h) | (with_reducible apply And.intro))
    all_goals (split <;> first | rfl | trivial | (exfalso; rename_i c; first | (exact c (by simp_all)) | (rcases c with c | c | c | c <;> first | omega | simp_all)))
  | [], hl => cases hl
  | [_], hl => cases hl
  | [_, _], hl => cases hl
  | [_, _, _], hl => cases hl
/-- the head that holds -/
def hold (a b : Option (Int × Int × Int)) : Int × Int × Int := match a, b with
  | none, none => (0, 0, 1)
  | some x, none => x
  | none, some y => y
  | some x, some y => if x.1 < y.1 then y else x
theorem at_last1 {x : D} : L2.atI [x] (-1) = some x := id rfl
theorem at_last2 {x y : D} : L2.atI [x, y] (-1) = some y := id rfl
theorem c_holding {a b : List Int} (ha : a.length = 16) (hb : b.length = 16) : callK P (k + 3) i_holding [tupI a, tupI b] S = .ok (tripD (hold (toldL a) (toldL b))) S := by
  refine call_pure rfl rfl ?_
  show Ws (sts _ b_holding _ _) _
  unfold b_holding b_holding_1 b_holding_1t b_holding_2
  simp only [ws_cons, ws_raise, ws_try, wp_att, cat_int, rep_int, cat_tup, cat_lst, set1_some, set1_none, wipe1_some, wipe1_none, ev_clsv, ws_exp, ws_retN, ws_brk, ws_cont, ws_ite, ws_ret, ws_asg, ws_iset, ws_pass, wp_bin, wp_cat, wp_rep, wp_neg, wp_and, wp_or, wp_not, wp_ite, wp_cmp, wp_chn, wp_slc, evo_no, wp_osome, wp_callE, wp_idx, wp_blt, wp_tup, wp_lst, wp_dic, wps_cons, wps_star, st_lst, st_tup, evs_nil, wps_ok, wp_ok, ev_lit, ev_var, ev_glo, ev_tyv, sts_nil, ws_nx, List.map_cons, List.map_nil, List.cons_append, List.nil_append, List.append_nil, List.getElem?_cons_zero, List.getElem?_cons_succ, srcs, List.length_cons, List.length_nil, List.replicate, bindT_name, bindT_2, bindT_3, bindT_nest, bindTs_nil, bindTs_cons, Nat.zero_add, Nat.reduceAdd, List.set_cons_zero, List.set_cons_succ, bin_add, bin_sub, cmp_gt, cmp_lt, cmp_ge, cmp_le, blt_int, blt_intb, blt_abs, blt_lenL, blt_lenT, blt_lenS, tr_bl, nt_bl, chn_bl, cmp_is, cmp_isnot, cmp_eq_int, cmp_ne_int, newLf0, newLt0, newT0, newLf1, newLt1, newT1, newLf2, newLt2, newT2, newLf3, newLt3, newT3, newLf4, newLt4, newT4, newLf5, newLt5, newT5, newLf6, newLt6, newT6, newLf7, newLt7, newT7, newLf8, newT8, newLf9, newT9, newLf10, newT10, newLf11, newT11, newLf12, newLf13, newLf14, newLf15, newLf16, pairsOf, keyOf, Bool.not_true, Bool.not_false, Bool.true_eq_false, Bool.false_eq_true, false_implies, true_implies, and_true, true_and, forall_const, Bool.not_eq_true', Bool.not_eq_false', decide_eq_true_eq, decide_eq_false_iff_not, reduceCtorEq, Int.not_lt, Int.not_le, Nat.not_lt, Nat.not_le, and_self, implies_true, beq_iff_eq, beq_eq_false_iff_ne, ne_eq, g_told_by, c_told_by (k := k) ha, c_told_by (k := k) hb, wp_comp, wps_val, wk_tup]
  refine comp_if (f := id) (p := fun x => !isNon x) (fun x hx => ⟨_, rfl, ?_, fun _ => ?_⟩) ?_
  · simp only [ws_cons, ws_raise, ws_try, wp_att, cat_int, rep_int, cat_tup, cat_lst, set1_some, set1_none, wipe1_some, wipe1_none, ev_clsv, ws_exp, ws_retN, ws_brk, ws_cont, ws_ite, ws_ret, ws_asg, ws_iset, ws_pass, wp_bin, wp_cat, wp_rep, wp_neg, wp_and, wp_or, wp_not, wp_ite, wp_cmp, wp_chn, wp_slc, evo_no, wp_osome, wp_callE, wp_idx, wp_blt, wp_tup, wp_lst, wp_dic, wps_cons, wps_star, st_lst, st_tup, evs_nil, wps_ok, wp_ok, ev_lit, ev_var, ev_glo, ev_tyv, sts_nil, ws_nx, List.map_cons, List.map_nil, List.cons_append, List.nil_append, List.append_nil, List.getElem?_cons_zero, List.getElem?_cons_succ, srcs, List.length_cons, List.length_nil, List.replicate, bindT_name, bindT_2, bindT_3, bindT_nest, bindTs_nil, bindTs_cons, Nat.zero_add, Nat.reduceAdd, List.set_cons_zero, List.set_cons_succ, bin_add, bin_sub, cmp_gt, cmp_lt, cmp_ge, cmp_le, blt_int, blt_intb, blt_abs, blt_lenL, blt_lenT, blt_lenS, tr_bl, nt_bl, chn_bl, cmp_is, cmp_isnot, cmp_eq_int, cmp_ne_int, newLf0, newLt0, newT0, newLf1, newLt1, newT1, newLf2, newLt2, newT2, newLf3, newLt3, newT3, newLf4, newLt4, newT4, newLf5, newLt5, newT5, newLf6, newLt6, newT6, newLf7, newLt7, newT7, newLf8, newT8, newLf9, newT9, newLf10, newT10, newLf11, newT11, newLf12, newLf13, newLf14, newLf15, newLf16, pairsOf, keyOf, wipeD]
    exact ⟨by first | rfl | trivial, by first | rfl | trivial⟩
  · simp only [ws_cons, ws_raise, ws_try, wp_att, cat_int, rep_int, cat_tup, cat_lst, set1_some, set1_none, wipe1_some, wipe1_none, ev_clsv, ws_exp, ws_retN, ws_brk, ws_cont, ws_ite, ws_ret, ws_asg, ws_iset, ws_pass, wp_bin, wp_cat, wp_rep, wp_neg, wp_and, wp_or, wp_not, wp_ite, wp_cmp, wp_chn, wp_slc, evo_no, wp_osome, wp_callE, wp_idx, wp_blt, wp_tup, wp_lst, wp_dic, wps_cons, wps_star, st_lst, st_tup, evs_nil, wps_ok, wp_ok, ev_lit, ev_var, ev_glo, ev_tyv, sts_nil, ws_nx, List.map_cons, List.map_nil, List.cons_append, List.nil_append, List.append_nil, List.getElem?_cons_zero, List.getElem?_cons_succ, srcs, List.length_cons, List.length_nil, List.replicate, bindT_name, bindT_2, bindT_3, bindT_nest, bindTs_nil, bindTs_cons, Nat.zero_add, Nat.reduceAdd, List.set_cons_zero, List.set_cons_succ, wipeD]
    exact ⟨by first | rfl | trivial, by first | rfl | trivial⟩
  · cases toldL a with
    | none =>
      cases toldL b with
      | none =>
        simp only [oT, isNon, List.filter_cons, List.filter_nil, Bool.not_true, Bool.false_eq_true, if_false, List.map_nil, ws_cons, ws_raise, ws_try, wp_att, cat_int, rep_int, cat_tup, cat_lst, set1_some, set1_none, wipe1_some, wipe1_none, ev_clsv, ws_exp, ws_retN, ws_brk, ws_cont, ws_ite, ws_ret, ws_asg, ws_iset, ws_pass, wp_bin, wp_cat, wp_rep, wp_neg, wp_and, wp_or, wp_not, wp_ite, wp_cmp, wp_chn, wp_slc, evo_no, wp_osome, wp_callE, wp_idx, wp_blt, wp_tup, wp_lst, wp_dic, wps_cons, wps_star, st_lst, st_tup, evs_nil, wps_ok, wp_ok, ev_lit, ev_var, ev_glo, ev_tyv, sts_nil, ws_nx, List.map_cons, List.map_nil, List.cons_append, List.nil_append, List.append_nil, List.getElem?_cons_zero, List.getElem?_cons_succ, srcs, List.length_cons, List.length_nil, List.replicate, bindT_name, bindT_2, bindT_3, bindT_nest, bindTs_nil, bindTs_cons, Nat.zero_add, Nat.reduceAdd, List.set_cons_zero, List.set_cons_succ, bin_add, bin_sub, cmp_gt, cmp_lt, cmp_ge, cmp_le, blt_int, blt_intb, blt_abs, blt_lenL, blt_lenT, blt_lenS, tr_bl, nt_bl, chn_bl, cmp_is, cmp_isnot, cmp_eq_int, cmp_ne_int, newLf0, newLt0, newT0, newLf1, newLt1, newT1, newLf2, newLt2, newT2, newLf3, newLt3, newT3, newLf4, newLt4, newT4, newLf5, newLt5, newT5, newLf6, newLt6, newT6, newLf7, newLt7, newT7, newLf8, newT8, newLf9, newT9, newLf10, newT10, newLf11, newT11, newLf12, newLf13, newLf14, newLf15, newLf16, pairsOf, keyOf, cmp_empty, List.isEmpty_nil, Bool.not_true, Bool.not_false, Bool.true_eq_false, Bool.false_eq_true, false_implies, true_implies, and_true, true_and, forall_const, Bool.not_eq_true', Bool.not_eq_false', decide_eq_true_eq, decide_eq_false_iff_not, reduceCtorEq, Int.not_lt, Int.not_le, Nat.not_lt, Nat.not_le, and_self, implies_true, beq_iff_eq, beq_eq_false_iff_ne, ne_eq, c_NO_HEAD]
        first | rfl | exact ⟨by first | rfl | trivial, by first | rfl | trivial⟩
      | some y =>
        simp only [oT, tripD, isNon, List.filter_cons, List.filter_nil, Bool.not_true, Bool.not_false, Bool.false_eq_true, if_false, if_true, List.map_cons, List.map_nil, id, ws_cons, ws_raise, ws_try, wp_att, cat_int, rep_int, cat_tup, cat_lst, set1_some, set1_none, wipe1_some, wipe1_none, ev_clsv, ws_exp, ws_retN, ws_brk, ws_cont, ws_ite, ws_ret, ws_asg, ws_iset, ws_pass, wp_bin, wp_cat, wp_rep, wp_neg, wp_and, wp_or, wp_not, wp_ite, wp_cmp, wp_chn, wp_slc, evo_no, wp_osome, wp_callE, wp_idx, wp_blt, wp_tup, wp_lst, wp_dic, wps_cons, wps_star, st_lst, st_tup, evs_nil, wps_ok, wp_ok, ev_lit, ev_var, ev_glo, ev_tyv, sts_nil, ws_nx, List.map_cons, List.map_nil, List.cons_append, List.nil_append, List.append_nil, List.getElem?_cons_zero, List.getElem?_cons_succ, srcs, List.length_cons, List.length_nil, List.replicate, bindT_name, bindT_2, bindT_3, bindT_nest, bindTs_nil, bindTs_cons, Nat.zero_add, Nat.reduceAdd, List.set_cons_zero, List.set_cons_succ, bin_add, bin_sub, cmp_gt, cmp_lt, cmp_ge, cmp_le, blt_int, blt_intb, blt_abs, blt_lenL, blt_lenT, blt_lenS, tr_bl, nt_bl, chn_bl, cmp_is, cmp_isnot, cmp_eq_int, cmp_ne_int, newLf0, newLt0, newT0, newLf1, newLt1, newT1, newLf2, newLt2, newT2, newLf3, newLt3, newT3, newLf4, newLt4, newT4, newLf5, newLt5, newT5, newLf6, newLt6, newT6, newLf7, newLt7, newT7, newLf8, newT8, newLf9, newT9, newLf10, newT10, newLf11, newT11, newLf12, newLf13, newLf14, newLf15, newLf16, pairsOf, keyOf, cmp_empty, List.isEmpty_cons, Bool.not_true, Bool.not_false, Bool.true_eq_false, Bool.false_eq_true, false_implies, true_implies, and_true, true_and, forall_const, Bool.not_eq_true', Bool.not_eq_false', decide_eq_true_eq, decide_eq_false_iff_not, reduceCtorEq, Int.not_lt, Int.not_le, Nat.not_lt, Nat.not_le, and_self, implies_true, beq_iff_eq, beq_eq_false_iff_ne, ne_eq, idx_lst at_last1, idx_lst idx0, idx_tup idx0]
        refine ⟨fun z => ?_, fun z => ?_⟩ <;> rfl
    | some x =>
      cases toldL b with
      | none =>
        simp only [oT, tripD, isNon, List.filter_cons, List.filter_nil, Bool.not_true, Bool.not_false, Bool.false_eq_true, if_false, if_true, List.map_cons, List.map_nil, id, ws_cons, ws_raise, ws_try, wp_att, cat_int, rep_int, cat_tup, cat_lst, set1_some, set1_none, wipe1_some, wipe1_none, ev_clsv, ws_exp, ws_retN, ws_brk, ws_cont, ws_ite, ws_ret, ws_asg, ws_iset, ws_pass, wp_bin, wp_cat, wp_rep, wp_neg, wp_and, wp_or, wp_not, wp_ite, wp_cmp, wp_chn, wp_slc, evo_no, wp_osome, wp_callE, wp_idx, wp_blt, wp_tup, wp_lst, wp_dic, wps_cons, wps_star, st_lst, st_tup, evs_nil, wps_ok, wp_ok, ev_lit, ev_var, ev_glo, ev_tyv, sts_nil, ws_nx, List.map_cons, List.map_nil, List.cons_append, List.nil_append, List.append_nil, List.getElem?_cons_zero, List.getElem?_cons_succ, srcs, List.length_cons, List.length_nil, List.replicate, bindT_name, bindT_2, bindT_3, bindT_nest, bindTs_nil, bindTs_cons, Nat.zero_add, Nat.reduceAdd, List.set_cons_zero, List.set_cons_succ, bin_add, bin_sub, cmp_gt, cmp_lt, cmp_ge, cmp_le, blt_int, blt_intb, blt_abs, blt_lenL, blt_lenT, blt_lenS, tr_bl, nt_bl, chn_bl, cmp_is, cmp_isnot, cmp_eq_int, cmp_ne_int, newLf0, newLt0, newT0, newLf1, newLt1, newT1, newLf2, newLt2, newT2, newLf3, newLt3, newT3, newLf4, newLt4, newT4, newLf5, newLt5, newT5, newLf6, newLt6, newT6, newLf7, newLt7, newT7, newLf8, newT8, newLf9, newT9, newLf10, newT10, newLf11, newT11, newLf12, newLf13, newLf14, newLf15, newLf16, pairsOf, keyOf, cmp_empty, List.isEmpty_cons, Bool.not_true, Bool.not_false, Bool.true_eq_false, Bool.false_eq_true, false_implies, true_implies, and_true, true_and, forall_const, Bool.not_eq_true', Bool.not_eq_false', decide_eq_true_eq, decide_eq_false_iff_not, reduceCtorEq, Int.not_lt, Int.not_le, Nat.not_lt, Nat.not_le, and_self, implies_true, beq_iff_eq, beq_eq_false_iff_ne, ne_eq, idx_lst at_last1, idx_lst idx0, idx_tup idx0]
        refine ⟨fun z => ?_, fun z => ?_⟩ <;> rfl
      | some y =>
        simp only [oT, tripD, isNon, List.filter_cons, List.filter_nil, Bool.not_true, Bool.not_false, Bool.false_eq_true, if_false, if_true, List.map_cons, List.map_nil, id, ws_cons, ws_raise, ws_try, wp_att, cat_int, rep_int, cat_tup, cat_lst, set1_some, set1_none, wipe1_some, wipe1_none, ev_clsv, ws_exp, ws_retN, ws_brk, ws_cont, ws_ite, ws_ret, ws_asg, ws_iset, ws_pass, wp_bin, wp_cat, wp_rep, wp_neg, wp_and, wp_or, wp_not, wp_ite, wp_cmp, wp_chn, wp_slc, evo_no, wp_osome, wp_callE, wp_idx, wp_blt, wp_tup, wp_lst, wp_dic, wps_cons, wps_star, st_lst, st_tup, evs_nil, wps_ok, wp_ok, ev_lit, ev_var, ev_glo, ev_tyv, sts_nil, ws_nx, List.map_cons, List.map_nil, List.cons_append, List.nil_append, List.append_nil, List.getElem?_cons_zero, List.getElem?_cons_succ, srcs, List.length_cons, List.length_nil, List.replicate, bindT_name, bindT_2, bindT_3, bindT_nest, bindTs_nil, bindTs_cons, Nat.zero_add, Nat.reduceAdd, List.set_cons_zero, List.set_cons_succ, bin_add, bin_sub, cmp_gt, cmp_lt, cmp_ge, cmp_le, blt_int, blt_intb, blt_abs, blt_lenL, blt_lenT, blt_lenS, tr_bl, nt_bl, chn_bl, cmp_is, cmp_isnot, cmp_eq_int, cmp_ne_int, newLf0, newLt0, newT0, newLf1, newLt1, newT1, newLf2, newLt2, newT2, newLf3, newLt3, newT3, newLf4, newLt4, newT4, newLf5, newLt5, newT5, newLf6, newLt6, newT6, newLf7, newLt7, newT7, newLf8, newT8, newLf9, newT9, newLf10, newT10, newLf11, newT11, newLf12, newLf13, newLf14, newLf15, newLf16, pairsOf, keyOf, cmp_empty, List.isEmpty_cons, Bool.not_true, Bool.not_false, Bool.true_eq_false, Bool.false_eq_true, false_implies, true_implies, and_true, true_and, forall_const, Bool.not_eq_true', Bool.not_eq_false', decide_eq_true_eq, decide_eq_false_iff_not, reduceCtorEq, Int.not_lt, Int.not_le, Nat.not_lt, Nat.not_le, and_self, implies_true, beq_iff_eq, beq_eq_false_iff_ne, ne_eq, idx_lst at_last2, idx_lst idx0, idx_tup idx0]
        unfold hold
        refine ⟨fun z => ?_, fun z => ?_⟩
        · simp only [if_pos z]
        · simp only [if_neg (show ¬ x.1 < y.1 by omega)]
end LW
set_option maxHeartbeats 4000000
namespace LW
open PySem PySem.Spec PD
variable {k : Nat} {S : Store} {d e : D}
abbrev xNum (p : D) : Exn := ⟨x_BadNumber, [("part", p)]⟩
abbrev xBlk (p : D) : Exn := ⟨x_BadBlock, [("part", p)]⟩
abbrev tEpoch : D := .str (T [101, 112, 111, 99, 104])
abbrev tHalf : D := .str (T [104, 97, 108, 102])
abbrev tFirst : D := .str (T [102, 105, 114, 115, 116])
abbrev tOne : D := .str (T [111, 110, 101])
abbrev tOther : D := .str (T [111, 116, 104, 101, 114])
def inB (d : D) (lo hi : Int) : Bool := within d (some lo) (some hi)
theorem inB_int {d : D} {lo hi : Int} (h : inB d lo hi = true) : ∃ i, d = .int i ∧ lo ≤ i ∧ i ≤ hi := by
  cases d with
  | int i =>
    obtain ⟨a, b⟩ := PD.ba (show (decide (lo ≤ i) && decide (i ≤ hi)) = true from h)
    exact ⟨i, rfl, of_decide_eq_true a, of_decide_eq_true b⟩
  | _ => cases h
theorem int_inB {i lo hi : Int} (h1 : lo ≤ i) (h2 : i ≤ hi) : inB (.int i) lo hi = true := by
  show (decide (lo ≤ i) && decide (i ≤ hi)) = true
  rw [decide_eq_true h1, decide_eq_true h2]; rfl
theorem w_head_block {a b c : D} {Q : QD} {E : XD} (h1 : known a = true) (h2 : known b = true) (h3 : known c = true)
    (hq : ∀ e h f : Int, a = .int e → b = .int h → c = .int f → inB a 1 65535 = true → inB b 0 1 = true → inB c 1 65535 = true → Q (tupI (hd e h f)) S)
    (x1 : inB a 1 65535 = false → E (xNum tEpoch) S) (x2 : inB a 1 65535 = true → inB b 0 1 = false → E (xNum tHalf) S) (x3 : inB a 1 65535 = true → inB b 0 1 = true → inB c 1 65535 = false → E (xNum tFirst) S) :
    Wp (callK P (k + 4) i_head_block [a, b, c] S) Q E := by
  refine wp_callS rfl rfl ?_
  show Ws (sts _ b_head_block _ _) _
  unfold b_head_block
  simp only [ws_cons, ws_raise, ws_try, wp_att, cat_int, rep_int, cat_tup, cat_lst, set1_some, set1_none, wipe1_some, wipe1_none, ev_clsv, ws_exp, ws_retN, ws_brk, ws_cont, ws_ite, ws_ret, ws_asg, ws_iset, ws_pass, wp_bin, wp_cat, wp_rep, wp_neg, wp_and, wp_or, wp_not, wp_ite, wp_cmp, wp_chn, wp_slc, evo_no, wp_osome, wp_callE, wp_idx, wp_blt, wp_tup, wp_lst, wp_dic, wps_cons, wps_star, st_lst, st_tup, evs_nil, wps_ok, wp_ok, ev_lit, ev_var, ev_glo, ev_tyv, sts_nil, ws_nx, List.map_cons, List.map_nil, List.cons_append, List.nil_append, List.append_nil, List.getElem?_cons_zero, List.getElem?_cons_succ, srcs, List.length_cons, List.length_nil, List.replicate, bindT_name, bindT_2, bindT_3, bindT_nest, bindTs_nil, bindTs_cons, Nat.zero_add, Nat.reduceAdd, List.set_cons_zero, List.set_cons_succ, bin_add, bin_sub, cmp_gt, cmp_lt, cmp_ge, cmp_le, blt_int, blt_intb, blt_abs, blt_lenL, blt_lenT, blt_lenS, tr_bl, nt_bl, chn_bl, cmp_is, cmp_isnot, cmp_eq_int, cmp_ne_int, newLf0, newLt0, newT0, newLf1, newLt1, newT1, newLf2, newLt2, newT2, newLf3, newLt3, newT3, newLf4, newLt4, newT4, newLf5, newLt5, newT5, newLf6, newLt6, newT6, newLf7, newLt7, newT7, newLf8, newT8, newLf9, newT9, newLf10, newT10, newLf11, newT11, newLf12, newLf13, newLf14, newLf15, newLf16, pairsOf, keyOf, Bool.not_true, Bool.not_false, Bool.true_eq_false, Bool.false_eq_true, false_implies, true_implies, and_true, true_and, forall_const, Bool.not_eq_true', Bool.not_eq_false', decide_eq_true_eq, decide_eq_false_iff_not, reduceCtorEq, Int.not_lt, Int.not_le, Nat.not_lt, Nat.not_le, and_self, implies_true, beq_iff_eq, beq_eq_false_iff_ne, ne_eq, g_need_number, c_MOST_NUMBER]
  refine w_need_number (k := k) h1 (fun z1 => ?_) fun z => ⟨rfl, x1 z⟩
  unfold b_head_block_1
  simp only [ws_cons, ws_raise, ws_try, wp_att, cat_int, rep_int, cat_tup, cat_lst, set1_some, set1_none, wipe1_some, wipe1_none, ev_clsv, ws_exp, ws_retN, ws_brk, ws_cont, ws_ite, ws_ret, ws_asg, ws_iset, ws_pass, wp_bin, wp_cat, wp_rep, wp_neg, wp_and, wp_or, wp_not, wp_ite, wp_cmp, wp_chn, wp_slc, evo_no, wp_osome, wp_callE, wp_idx, wp_blt, wp_tup, wp_lst, wp_dic, wps_cons, wps_star, st_lst, st_tup, evs_nil, wps_ok, wp_ok, ev_lit, ev_var, ev_glo, ev_tyv, sts_nil, ws_nx, List.map_cons, List.map_nil, List.cons_append, List.nil_append, List.append_nil, List.getElem?_cons_zero, List.getElem?_cons_succ, srcs, List.length_cons, List.length_nil, List.replicate, bindT_name, bindT_2, bindT_3, bindT_nest, bindTs_nil, bindTs_cons, Nat.zero_add, Nat.reduceAdd, List.set_cons_zero, List.set_cons_succ, bin_add, bin_sub, cmp_gt, cmp_lt, cmp_ge, cmp_le, blt_int, blt_intb, blt_abs, blt_lenL, blt_lenT, blt_lenS, tr_bl, nt_bl, chn_bl, cmp_is, cmp_isnot, cmp_eq_int, cmp_ne_int, newLf0, newLt0, newT0, newLf1, newLt1, newT1, newLf2, newLt2, newT2, newLf3, newLt3, newT3, newLf4, newLt4, newT4, newLf5, newLt5, newT5, newLf6, newLt6, newT6, newLf7, newLt7, newT7, newLf8, newT8, newLf9, newT9, newLf10, newT10, newLf11, newT11, newLf12, newLf13, newLf14, newLf15, newLf16, pairsOf, keyOf, Bool.not_true, Bool.not_false, Bool.true_eq_false, Bool.false_eq_true, false_implies, true_implies, and_true, true_and, forall_const, Bool.not_eq_true', Bool.not_eq_false', decide_eq_true_eq, decide_eq_false_iff_not, reduceCtorEq, Int.not_lt, Int.not_le, Nat.not_lt, Nat.not_le, and_self, implies_true, beq_iff_eq, beq_eq_false_iff_ne, ne_eq, g_need_number, c_HALVES]
  refine w_need_number (k := k) (hi := 2 - 1) h2 (fun z2 => ?_) fun z => ⟨rfl, x2 z1 z⟩
  unfold b_head_block_2
  simp only [ws_cons, ws_raise, ws_try, wp_att, cat_int, rep_int, cat_tup, cat_lst, set1_some, set1_none, wipe1_some, wipe1_none, ev_clsv, ws_exp, ws_retN, ws_brk, ws_cont, ws_ite, ws_ret, ws_asg, ws_iset, ws_pass, wp_bin, wp_cat, wp_rep, wp_neg, wp_and, wp_or, wp_not, wp_ite, wp_cmp, wp_chn, wp_slc, evo_no, wp_osome, wp_callE, wp_idx, wp_blt, wp_tup, wp_lst, wp_dic, wps_cons, wps_star, st_lst, st_tup, evs_nil, wps_ok, wp_ok, ev_lit, ev_var, ev_glo, ev_tyv, sts_nil, ws_nx, List.map_cons, List.map_nil, List.cons_append, List.nil_append, List.append_nil, List.getElem?_cons_zero, List.getElem?_cons_succ, srcs, List.length_cons, List.length_nil, List.replicate, bindT_name, bindT_2, bindT_3, bindT_nest, bindTs_nil, bindTs_cons, Nat.zero_add, Nat.reduceAdd, List.set_cons_zero, List.set_cons_succ, bin_add, bin_sub, cmp_gt, cmp_lt, cmp_ge, cmp_le, blt_int, blt_intb, blt_abs, blt_lenL, blt_lenT, blt_lenS, tr_bl, nt_bl, chn_bl, cmp_is, cmp_isnot, cmp_eq_int, cmp_ne_int, newLf0, newLt0, newT0, newLf1, newLt1, newT1, newLf2, newLt2, newT2, newLf3, newLt3, newT3, newLf4, newLt4, newT4, newLf5, newLt5, newT5, newLf6, newLt6, newT6, newLf7, newLt7, newT7, newLf8, newT8, newLf9, newT9, newLf10, newT10, newLf11, newT11, newLf12, newLf13, newLf14, newLf15, newLf16, pairsOf, keyOf, Bool.not_true, Bool.not_false, Bool.true_eq_false, Bool.false_eq_true, false_implies, true_implies, and_true, true_and, forall_const, Bool.not_eq_true', Bool.not_eq_false', decide_eq_true_eq, decide_eq_false_iff_not, reduceCtorEq, Int.not_lt, Int.not_le, Nat.not_lt, Nat.not_le, and_self, implies_true, beq_iff_eq, beq_eq_false_iff_ne, ne_eq, g_need_number, c_MOST_NUMBER]
  refine w_need_number (k := k) h3 (fun z3 => ?_) fun z => ⟨rfl, x3 z1 z2 z⟩
  obtain ⟨e, rfl, _, _⟩ := inB_int z1
  obtain ⟨h, rfl, _, _⟩ := inB_int (lo := 0) (hi := 2 - 1) z2
  obtain ⟨f, rfl, _, _⟩ := inB_int z3
  unfold b_head_block_3
  simp only [ws_cons, ws_raise, ws_try, wp_att, cat_int, rep_int, cat_tup, cat_lst, set1_some, set1_none, wipe1_some, wipe1_none, ev_clsv, ws_exp, ws_retN, ws_brk, ws_cont, ws_ite, ws_ret, ws_asg, ws_iset, ws_pass, wp_bin, wp_cat, wp_rep, wp_neg, wp_and, wp_or, wp_not, wp_ite, wp_cmp, wp_chn, wp_slc, evo_no, wp_osome, wp_callE, wp_idx, wp_blt, wp_tup, wp_lst, wp_dic, wps_cons, wps_star, st_lst, st_tup, evs_nil, wps_ok, wp_ok, ev_lit, ev_var, ev_glo, ev_tyv, sts_nil, ws_nx, List.map_cons, List.map_nil, List.cons_append, List.nil_append, List.append_nil, List.getElem?_cons_zero, List.getElem?_cons_succ, srcs, List.length_cons, List.length_nil, List.replicate, bindT_name, bindT_2, bindT_3, bindT_nest, bindTs_nil, bindTs_cons, Nat.zero_add, Nat.reduceAdd, List.set_cons_zero, List.set_cons_succ, bin_add, bin_sub, cmp_gt, cmp_lt, cmp_ge, cmp_le, blt_int, blt_intb, blt_abs, blt_lenL, blt_lenT, blt_lenS, tr_bl, nt_bl, chn_bl, cmp_is, cmp_isnot, cmp_eq_int, cmp_ne_int, newLf0, newLt0, newT0, newLf1, newLt1, newT1, newLf2, newLt2, newT2, newLf3, newLt3, newT3, newLf4, newLt4, newT4, newLf5, newLt5, newT5, newLf6, newLt6, newT6, newLf7, newLt7, newT7, newLf8, newT8, newLf9, newT9, newLf10, newT10, newLf11, newT11, newLf12, newLf13, newLf14, newLf15, newLf16, pairsOf, keyOf, Bool.not_true, Bool.not_false, Bool.true_eq_false, Bool.false_eq_true, false_implies, true_implies, and_true, true_and, forall_const, Bool.not_eq_true', Bool.not_eq_false', decide_eq_true_eq, decide_eq_false_iff_not, reduceCtorEq, Int.not_lt, Int.not_le, Nat.not_lt, Nat.not_le, and_self, implies_true, beq_iff_eq, beq_eq_false_iff_ne, ne_eq, g_head_of, c_head_of]
  exact hq e h f rfl rfl rfl z1 z2 z3
theorem c_head_block {e h f : Int} (h1 : 1 ≤ e ∧ e ≤ 65535) (h2 : 0 ≤ h ∧ h ≤ 1) (h3 : 1 ≤ f ∧ f ≤ 65535) : callK P (k + 4) i_head_block [.int e, .int h, .int f] S = .ok (tupI (hd e h f)) S := by
  have a1 := int_inB h1.1 h1.2
  have a2 := int_inB h2.1 h2.2
  have a3 := int_inB h3.1 h3.2
  refine wp_eq (w_head_block (k := k) rfl rfl rfl (fun e' h' f' q1 q2 q3 _ _ _ => ?_) (fun z => ?_) (fun _ z => ?_) fun _ _ z => ?_)
  · cases q1; cases q2; cases q3; exact ⟨rfl, rfl⟩
  · rw [a1] at z; cases z
  · rw [a2] at z; cases z
  · rw [a3] at z; cases z
theorem w_read_heads {a b : D} {Q : QD} {E : XD} (h1 : okSeq a) (h2 : okSeq b)
    (hq : ∀ l r : List Int, itemsD a = some (l.map D.int) → l.length = 16 → itemsD b = some (r.map D.int) → r.length = 16 → blkD a = true → blkD b = true → Q (tripD (hold (toldL l) (toldL r))) S)
    (x1 : blkD a = false → E (xBlk tOne) S) (x2 : blkD a = true → blkD b = false → E (xBlk tOther) S) : Wp (callK P (k + 6) i_read_heads [a, b] S) Q E := by
  refine wp_callS rfl rfl ?_
  show Ws (sts _ b_read_heads _ _) _
  unfold b_read_heads
  simp only [ws_cons, ws_raise, ws_try, wp_att, cat_int, rep_int, cat_tup, cat_lst, set1_some, set1_none, wipe1_some, wipe1_none, ev_clsv, ws_exp, ws_retN, ws_brk, ws_cont, ws_ite, ws_ret, ws_asg, ws_iset, ws_pass, wp_bin, wp_cat, wp_rep, wp_neg, wp_and, wp_or, wp_not, wp_ite, wp_cmp, wp_chn, wp_slc, evo_no, wp_osome, wp_callE, wp_idx, wp_blt, wp_tup, wp_lst, wp_dic, wps_cons, wps_star, st_lst, st_tup, evs_nil, wps_ok, wp_ok, ev_lit, ev_var, ev_glo, ev_tyv, sts_nil, ws_nx, List.map_cons, List.map_nil, List.cons_append, List.nil_append, List.append_nil, List.getElem?_cons_zero, List.getElem?_cons_succ, srcs, List.length_cons, List.length_nil, List.replicate, bindT_name, bindT_2, bindT_3, bindT_nest, bindTs_nil, bindTs_cons, Nat.zero_add, Nat.reduceAdd, List.set_cons_zero, List.set_cons_succ, bin_add, bin_sub, cmp_gt, cmp_lt, cmp_ge, cmp_le, blt_int, blt_intb, blt_abs, blt_lenL, blt_lenT, blt_lenS, tr_bl, nt_bl, chn_bl, cmp_is, cmp_isnot, cmp_eq_int, cmp_ne_int, newLf0, newLt0, newT0, newLf1, newLt1, newT1, newLf2, newLt2, newT2, newLf3, newLt3, newT3, newLf4, newLt4, newT4, newLf5, newLt5, newT5, newLf6, newLt6, newT6, newLf7, newLt7, newT7, newLf8, newT8, newLf9, newT9, newLf10, newT10, newLf11, newT11, newLf12, newLf13, newLf14, newLf15, newLf16, pairsOf, keyOf, Bool.not_true, Bool.not_false, Bool.true_eq_false, Bool.false_eq_true, false_implies, true_implies, and_true, true_and, forall_const, Bool.not_eq_true', Bool.not_eq_false', decide_eq_true_eq, decide_eq_false_iff_not, reduceCtorEq, Int.not_lt, Int.not_le, Nat.not_lt, Nat.not_le, and_self, implies_true, beq_iff_eq, beq_eq_false_iff_ne, ne_eq, g_need_block]
  refine w_need_block (k := k) h1 (fun l hl l16 lb => ?_) fun z => ⟨rfl, x1 z⟩
  unfold b_read_heads_1
  simp only [ws_cons, ws_raise, ws_try, wp_att, cat_int, rep_int, cat_tup, cat_lst, set1_some, set1_none, wipe1_some, wipe1_none, ev_clsv, ws_exp, ws_retN, ws_brk, ws_cont, ws_ite, ws_ret, ws_asg, ws_iset, ws_pass, wp_bin, wp_cat, wp_rep, wp_neg, wp_and, wp_or, wp_not, wp_ite, wp_cmp, wp_chn, wp_slc, evo_no, wp_osome, wp_callE, wp_idx, wp_blt, wp_tup, wp_lst, wp_dic, wps_cons, wps_star, st_lst, st_tup, evs_nil, wps_ok, wp_ok, ev_lit, ev_var, ev_glo, ev_tyv, sts_nil, ws_nx, List.map_cons, List.map_nil, List.cons_append, List.nil_append, List.append_nil, List.getElem?_cons_zero, List.getElem?_cons_succ, srcs, List.length_cons, List.length_nil, List.replicate, bindT_name, bindT_2, bindT_3, bindT_nest, bindTs_nil, bindTs_cons, Nat.zero_add, Nat.reduceAdd, List.set_cons_zero, List.set_cons_succ, bin_add, bin_sub, cmp_gt, cmp_lt, cmp_ge, cmp_le, blt_int, blt_intb, blt_abs, blt_lenL, blt_lenT, blt_lenS, tr_bl, nt_bl, chn_bl, cmp_is, cmp_isnot, cmp_eq_int, cmp_ne_int, newLf0, newLt0, newT0, newLf1, newLt1, newT1, newLf2, newLt2, newT2, newLf3, newLt3, newT3, newLf4, newLt4, newT4, newLf5, newLt5, newT5, newLf6, newLt6, newT6, newLf7, newLt7, newT7, newLf8, newT8, newLf9, newT9, newLf10, newT10, newLf11, newT11, newLf12, newLf13, newLf14, newLf15, newLf16, pairsOf, keyOf, Bool.not_true, Bool.not_false, Bool.true_eq_false, Bool.false_eq_true, false_implies, true_implies, and_true, true_and, forall_const, Bool.not_eq_true', Bool.not_eq_false', decide_eq_true_eq, decide_eq_false_iff_not, reduceCtorEq, Int.not_lt, Int.not_le, Nat.not_lt, Nat.not_le, and_self, implies_true, beq_iff_eq, beq_eq_false_iff_ne, ne_eq, g_need_block, g_holding]
  refine w_need_block (k := k) h2 (fun r hr r16 rb => ?_) fun z => ⟨rfl, x2 (blk_is hl l16 lb) z⟩
  rw [show callK P (k + 5) i_holding [.tup (l.map D.int), .tup (r.map D.int)] S = .ok (tripD (hold (toldL l) (toldL r))) S from c_holding (k := k + 2) l16 r16, wp_ok]
  exact ⟨rfl, hq l r hl l16 hr r16 (blk_is hl l16 lb) (blk_is hr r16 rb)⟩
def bB (l : List Int) : Prop := l.length = 16 ∧ ∀ i ∈ l, 0 ≤ i ∧ i ≤ 65535
theorem seq_ints {l : List Int} (hi : itemsD d = some (l.map D.int)) (hl : l.length ≤ 1000) : okSeq d := by
  refine ⟨?_, fun xs e => ?_⟩
  · cases d <;> first | rfl | cases hi
  · rw [hi] at e
    cases e
    refine ⟨fun x hx => ?_, small (by rw [List.length_map]; omega)⟩
    obtain ⟨i, _, rfl⟩ := List.mem_map.mp hx
    rfl
theorem c_read_heads {a b : D} {l r : List Int} (ha : itemsD a = some (l.map D.int)) (hb : itemsD b = some (r.map D.int)) (bl : bB l) (br : bB r) : callK P (k + 6) i_read_heads [a, b] S = .ok (tripD (hold (toldL l) (toldL r))) S := by
  refine wp_eq (w_read_heads (k := k) (seq_ints ha (by rw [bl.1]; decide)) (seq_ints hb (by rw [br.1]; decide)) (fun l' r' q1 _ q2 _ _ _ => ?_) (fun z => ?_) fun _ z => ?_)
  · rw [ha] at q1
    rw [hb] at q2
    rw [map_int_inj (Option.some.inj q1), map_int_inj (Option.some.inj q2)]
    exact ⟨rfl, rfl⟩
  · rw [blk_is ha bl.1 bl.2] at z; cases z
  · rw [blk_is hb br.1 br.2] at z; cases z
end LW
set_option maxHeartbeats 4000000
namespace LW
open PySem PySem.Spec PD
variable {k : Nat} {S : Store} {d e : D}
theorem c_lhead {l : List Int} (hi : itemsD d = some (l.map D.int)) (hb : bB l) : callK P (k + 1) i__law_head [d] S = .ok (oT (toldL l)) S := by
  obtain ⟨h16, hb⟩ := hb
  match l, h16, hb, hi with
  | a :: e :: h :: f :: r, hl, hb, hi =>
    have b1 := hb e (by simp)
    have b2 := hb h (by simp)
    have b3 := hb f (by simp)
    have hl2 : ((a :: e :: h :: f :: r).map D.int).length ≤ 100000 := by rw [List.length_map, hl]; decide
    have s4 : ∀ S, slcD false d (some 4) none S = .ok (reseq d (r.map D.int)) S := fun S => slc_sf (n := 4) hi hl2 rfl
    have s14 : ∀ S, slcD false d (some 1) (some 4) S = .ok (reseq d [.int e, .int h, .int f]) S := fun S => slc_sp (a := 1) (b := 4) hi hl2 rfl rfl (by decide)
    have hr : r.length = 12 := by simpa using hl
    have lr : ∀ S, bltD .list false [reseq d (r.map D.int)] S = .ok (.lst (r.map D.int)) S := fun S => list_re hi (by rw [List.length_map, hr]; decide)
    have tr : ∀ S, bltD .tuple false [reseq d [.int e, .int h, .int f]] S = .ok (.tup [.int e, .int h, .int f]) S := fun S => tuple_re hi (by show 3 ≤ 100000; decide)
    have i0 : ∀ S, idxD d (.int 0) S = .ok (.int a) S := fun S => idx_seq hi idx0
    have i1 : ∀ S, idxD d (.int 1) S = .ok (.int e) S := fun S => idx_seq hi idx1
    have i2 : ∀ S, idxD d (.int 2) S = .ok (.int h) S := fun S => idx_seq hi at2
    have i3 : ∀ S, idxD d (.int 3) S = .ok (.int f) S := fun S => idx_seq hi at3
    have cr : ∀ S, cmpD .NotEq (.lst (r.map D.int)) (.lst (List.replicate 12 (.int 0))) S = .ok (.bl (!decide (r = List.replicate 12 0))) S := fun S => by
      have := cmp_lstIN (S := S) (a := r) (b := List.replicate 12 0)
      rwa [List.map_replicate] at this
    refine call_pure rfl rfl ?_
    show Ws (sts _ b__law_head _ _) _
    unfold b__law_head b__law_head_0t b__law_head_1
    have cr' : ∀ S, cmpD .NotEq (.lst (r.map D.int)) (.lst [.int 0, .int 0, .int 0, .int 0, .int 0, .int 0, .int 0, .int 0, .int 0, .int 0, .int 0, .int 0]) S = .ok (.bl (!decide (r = List.replicate 12 0))) S := cr
    simp only [i0, i1, i2, i3, s4, s14, lr, tr, rep_l (n := 12) (i := 12) rfl (by decide), ws_cons, ws_raise, ws_try, wp_att, cat_int, rep_int, cat_tup, cat_lst, set1_some, set1_none, wipe1_some, wipe1_none, ev_clsv, ws_exp, ws_retN, ws_brk, ws_cont, ws_ite, ws_ret, ws_asg, ws_iset, ws_pass, wp_bin, wp_cat, wp_rep, wp_neg, wp_and, wp_or, wp_not, wp_ite, wp_cmp, wp_chn, wp_slc, evo_no, wp_osome, wp_callE, wp_idx, wp_blt, wp_tup, wp_lst, wp_dic, wps_cons, wps_star, st_lst, st_tup, evs_nil, wps_ok, wp_ok, ev_lit, ev_var, ev_glo, ev_tyv, sts_nil, ws_nx, List.map_cons, List.map_nil, List.cons_append, List.nil_append, List.append_nil, List.getElem?_cons_zero, List.getElem?_cons_succ, srcs, List.length_cons, List.length_nil, List.replicate, bindT_name, bindT_2, bindT_3, bindT_nest, bindTs_nil, bindTs_cons, Nat.zero_add, Nat.reduceAdd, List.set_cons_zero, List.set_cons_succ, bin_add, bin_sub, cmp_gt, cmp_lt, cmp_ge, cmp_le, blt_int, blt_intb, blt_abs, blt_lenL, blt_lenT, blt_lenS, tr_bl, nt_bl, chn_bl, cmp_is, cmp_isnot, cmp_eq_int, cmp_ne_int, newLf0, newLt0, newT0, newLf1, newLt1, newT1, newLf2, newLt2, newT2, newLf3, newLt3, newT3, newLf4, newLt4, newT4, newLf5, newLt5, newT5, newLf6, newLt6, newT6, newLf7, newLt7, newT7, newLf8, newT8, newLf9, newT9, newLf10, newT10, newLf11, newT11, newLf12, newLf13, newLf14, newLf15, newLf16, pairsOf, keyOf, Bool.not_true, Bool.not_false, Bool.true_eq_false, Bool.false_eq_true, false_implies, true_implies, and_true, true_and, forall_const, Bool.not_eq_true', Bool.not_eq_false', decide_eq_true_eq, decide_eq_false_iff_not, reduceCtorEq, Int.not_lt, Int.not_le, Nat.not_lt, Nat.not_le, and_self, implies_true, beq_iff_eq, beq_eq_false_iff_ne, ne_eq, cr, cr']
    have tl : toldL (a :: e :: h :: f :: r) = if e = 0 ∨ 2 ≤ h ∨ f = 0 ∨ (a :: e :: h :: f :: r) ≠ hd e h f then none else some (e, h, f) := rfl
    have hne : ((a :: e :: h :: f :: r) ≠ hd e h f) ↔ (a ≠ 7 ∨ r ≠ List.replicate 12 0) := by
      unfold hd
      simp only [ne_eq, List.cons.injEq, true_and]
      by_cases c : a = 7 <;> simp [c]
    rw [tl]
    simp only [hne]
    clear hne tl cr cr' s4 s14 lr tr i0 i1 i2 i3 hb hi hl hl2
    by_cases c1 : a = 7 <;> by_cases c2 : r = List.replicate 12 0 <;> simp only [c1, c2, not_true_eq_false, not_false_eq_true, ne_eq, or_false, or_true, false_or, true_or, if_true, false_implies, true_implies, and_true, true_and, implies_true, forall_const, Bool.true_eq_false, decide_true, decide_false]
    all_goals repeat' (first | (intro _h) | (with_reducible apply And.intro))
    all_goals (try split) <;> first | rfl | trivial | (exfalso; omega) | skip
  | [], hl, _, _ => cases hl
  | [_], hl, _, _ => cases hl
  | [_, _], hl, _, _ => cases hl
  | [_, _, _], hl, _, _ => cases hl
end LW
set_option maxHeartbeats 4000000
namespace LW
open PySem PySem.Spec PD
variable {k B : Nat} {S R : Store} {d e : D} {m : MO}
theorem told_pos {l : List Int} {x : Int × Int × Int} (hb : bB l) (h : toldL l = some x) : 0 < x.1 := by
  obtain ⟨h16, hb⟩ := hb
  match l, h16, hb, h with
  | a :: e :: h :: f :: r, _, hb, hh =>
    have tl : toldL (a :: e :: h :: f :: r) = if e = 0 ∨ 2 ≤ h ∨ f = 0 ∨ (a :: e :: h :: f :: r) ≠ hd e h f then none else some (e, h, f) := rfl
    rw [tl] at hh
    split at hh
    · cases hh
    · rename_i c
      cases hh
      have := hb e (by simp)
      show 0 < e
      have : e ≠ 0 := fun z => c (.inl z)
      omega
theorem c_due {a b : D} {l r : List Int} (ha : itemsD a = some (l.map D.int)) (hb : itemsD b = some (r.map D.int)) (bl : bB l) (br : bB r) : callK P (k + 2) i__law_due [a, b] S = .ok (tripD (hold (toldL l) (toldL r))) S := by
  refine call_pure rfl rfl ?_
  show Ws (sts _ b__law_due _ _) _
  unfold b__law_due b__law_due_1 b__law_due_2
  simp only [ws_cons, ws_raise, ws_try, wp_att, cat_int, rep_int, cat_tup, cat_lst, set1_some, set1_none, wipe1_some, wipe1_none, ev_clsv, ws_exp, ws_retN, ws_brk, ws_cont, ws_ite, ws_ret, ws_asg, ws_iset, ws_pass, wp_bin, wp_cat, wp_rep, wp_neg, wp_and, wp_or, wp_not, wp_ite, wp_cmp, wp_chn, wp_slc, evo_no, wp_osome, wp_callE, wp_idx, wp_blt, wp_tup, wp_lst, wp_dic, wps_cons, wps_star, st_lst, st_tup, evs_nil, wps_ok, wp_ok, ev_lit, ev_var, ev_glo, ev_tyv, sts_nil, ws_nx, List.map_cons, List.map_nil, List.cons_append, List.nil_append, List.append_nil, List.getElem?_cons_zero, List.getElem?_cons_succ, srcs, List.length_cons, List.length_nil, List.replicate, bindT_name, bindT_2, bindT_3, bindT_nest, bindTs_nil, bindTs_cons, Nat.zero_add, Nat.reduceAdd, List.set_cons_zero, List.set_cons_succ, bin_add, bin_sub, cmp_gt, cmp_lt, cmp_ge, cmp_le, blt_int, blt_intb, blt_abs, blt_lenL, blt_lenT, blt_lenS, tr_bl, nt_bl, chn_bl, cmp_is, cmp_isnot, cmp_eq_int, cmp_ne_int, newLf0, newLt0, newT0, newLf1, newLt1, newT1, newLf2, newLt2, newT2, newLf3, newLt3, newT3, newLf4, newLt4, newT4, newLf5, newLt5, newT5, newLf6, newLt6, newT6, newLf7, newLt7, newT7, newLf8, newT8, newLf9, newT9, newLf10, newT10, newLf11, newT11, newLf12, newLf13, newLf14, newLf15, newLf16, pairsOf, keyOf, ws_for, wps_val, g__law_head, c_lhead (k := k) ha bl, c_lhead (k := k) hb br, wk_tup]
  have p1 := fun x => told_pos (x := x) bl
  have p2 := fun x => told_pos (x := x) br
  cases h1 : toldL l with
  | none =>
    cases h2 : toldL r with
    | none =>
      simp only [ws_forCons, ws_forNil, ws_turn, bindT_name, oT]
      unfold b__law_due_1f b__law_due_1f_0t
      simp only [ws_cons, ws_raise, ws_try, wp_att, cat_int, rep_int, cat_tup, cat_lst, set1_some, set1_none, wipe1_some, wipe1_none, ev_clsv, ws_exp, ws_retN, ws_brk, ws_cont, ws_ite, ws_ret, ws_asg, ws_iset, ws_pass, wp_bin, wp_cat, wp_rep, wp_neg, wp_and, wp_or, wp_not, wp_ite, wp_cmp, wp_chn, wp_slc, evo_no, wp_osome, wp_callE, wp_idx, wp_blt, wp_tup, wp_lst, wp_dic, wps_cons, wps_star, st_lst, st_tup, evs_nil, wps_ok, wp_ok, ev_lit, ev_var, ev_glo, ev_tyv, sts_nil, ws_nx, List.map_cons, List.map_nil, List.cons_append, List.nil_append, List.append_nil, List.getElem?_cons_zero, List.getElem?_cons_succ, srcs, List.length_cons, List.length_nil, List.replicate, bindT_name, bindT_2, bindT_3, bindT_nest, bindTs_nil, bindTs_cons, Nat.zero_add, Nat.reduceAdd, List.set_cons_zero, List.set_cons_succ, bin_add, bin_sub, cmp_gt, cmp_lt, cmp_ge, cmp_le, blt_int, blt_intb, blt_abs, blt_lenL, blt_lenT, blt_lenS, tr_bl, nt_bl, chn_bl, cmp_is, cmp_isnot, cmp_eq_int, cmp_ne_int, newLf0, newLt0, newT0, newLf1, newLt1, newT1, newLf2, newLt2, newT2, newLf3, newLt3, newT3, newLf4, newLt4, newT4, newLf5, newLt5, newT5, newLf6, newLt6, newT6, newLf7, newLt7, newT7, newLf8, newT8, newLf9, newT9, newLf10, newT10, newLf11, newT11, newLf12, newLf13, newLf14, newLf15, newLf16, pairsOf, keyOf, Bool.not_true, Bool.not_false, Bool.true_eq_false, Bool.false_eq_true, false_implies, true_implies, and_true, true_and, forall_const, Bool.not_eq_true', Bool.not_eq_false', decide_eq_true_eq, decide_eq_false_iff_not, reduceCtorEq, Int.not_lt, Int.not_le, Nat.not_lt, Nat.not_le, and_self, implies_true, beq_iff_eq, beq_eq_false_iff_ne, ne_eq, isNon]
      first | rfl | exact ⟨by first | rfl | trivial, by first | rfl | trivial⟩
    | some y =>
      have := p2 y h2
      simp only [ws_forCons, ws_forNil, ws_turn, bindT_name, oT, tripD]
      unfold b__law_due_1f b__law_due_1f_0t
      simp only [ws_cons, ws_raise, ws_try, wp_att, cat_int, rep_int, cat_tup, cat_lst, set1_some, set1_none, wipe1_some, wipe1_none, ev_clsv, ws_exp, ws_retN, ws_brk, ws_cont, ws_ite, ws_ret, ws_asg, ws_iset, ws_pass, wp_bin, wp_cat, wp_rep, wp_neg, wp_and, wp_or, wp_not, wp_ite, wp_cmp, wp_chn, wp_slc, evo_no, wp_osome, wp_callE, wp_idx, wp_blt, wp_tup, wp_lst, wp_dic, wps_cons, wps_star, st_lst, st_tup, evs_nil, wps_ok, wp_ok, ev_lit, ev_var, ev_glo, ev_tyv, sts_nil, ws_nx, List.map_cons, List.map_nil, List.cons_append, List.nil_append, List.append_nil, List.getElem?_cons_zero, List.getElem?_cons_succ, srcs, List.length_cons, List.length_nil, List.replicate, bindT_name, bindT_2, bindT_3, bindT_nest, bindTs_nil, bindTs_cons, Nat.zero_add, Nat.reduceAdd, List.set_cons_zero, List.set_cons_succ, bin_add, bin_sub, cmp_gt, cmp_lt, cmp_ge, cmp_le, blt_int, blt_intb, blt_abs, blt_lenL, blt_lenT, blt_lenS, tr_bl, nt_bl, chn_bl, cmp_is, cmp_isnot, cmp_eq_int, cmp_ne_int, newLf0, newLt0, newT0, newLf1, newLt1, newT1, newLf2, newLt2, newT2, newLf3, newLt3, newT3, newLf4, newLt4, newT4, newLf5, newLt5, newT5, newLf6, newLt6, newT6, newLf7, newLt7, newT7, newLf8, newT8, newLf9, newT9, newLf10, newT10, newLf11, newT11, newLf12, newLf13, newLf14, newLf15, newLf16, pairsOf, keyOf, Bool.not_true, Bool.not_false, Bool.true_eq_false, Bool.false_eq_true, false_implies, true_implies, and_true, true_and, forall_const, Bool.not_eq_true', Bool.not_eq_false', decide_eq_true_eq, decide_eq_false_iff_not, reduceCtorEq, Int.not_lt, Int.not_le, Nat.not_lt, Nat.not_le, and_self, implies_true, beq_iff_eq, beq_eq_false_iff_ne, ne_eq, isNon, idx_tup idx0]
      exact ⟨fun _ => by first | rfl | exact ⟨rfl, rfl⟩, fun z => by omega⟩
  | some x =>
    have q1 := p1 x h1
    cases h2 : toldL r with
    | none =>
      simp only [ws_forCons, ws_forNil, ws_turn, bindT_name, oT, tripD]
      unfold b__law_due_1f b__law_due_1f_0t
      simp only [ws_cons, ws_raise, ws_try, wp_att, cat_int, rep_int, cat_tup, cat_lst, set1_some, set1_none, wipe1_some, wipe1_none, ev_clsv, ws_exp, ws_retN, ws_brk, ws_cont, ws_ite, ws_ret, ws_asg, ws_iset, ws_pass, wp_bin, wp_cat, wp_rep, wp_neg, wp_and, wp_or, wp_not, wp_ite, wp_cmp, wp_chn, wp_slc, evo_no, wp_osome, wp_callE, wp_idx, wp_blt, wp_tup, wp_lst, wp_dic, wps_cons, wps_star, st_lst, st_tup, evs_nil, wps_ok, wp_ok, ev_lit, ev_var, ev_glo, ev_tyv, sts_nil, ws_nx, List.map_cons, List.map_nil, List.cons_append, List.nil_append, List.append_nil, List.getElem?_cons_zero, List.getElem?_cons_succ, srcs, List.length_cons, List.length_nil, List.replicate, bindT_name, bindT_2, bindT_3, bindT_nest, bindTs_nil, bindTs_cons, Nat.zero_add, Nat.reduceAdd, List.set_cons_zero, List.set_cons_succ, bin_add, bin_sub, cmp_gt, cmp_lt, cmp_ge, cmp_le, blt_int, blt_intb, blt_abs, blt_lenL, blt_lenT, blt_lenS, tr_bl, nt_bl, chn_bl, cmp_is, cmp_isnot, cmp_eq_int, cmp_ne_int, newLf0, newLt0, newT0, newLf1, newLt1, newT1, newLf2, newLt2, newT2, newLf3, newLt3, newT3, newLf4, newLt4, newT4, newLf5, newLt5, newT5, newLf6, newLt6, newT6, newLf7, newLt7, newT7, newLf8, newT8, newLf9, newT9, newLf10, newT10, newLf11, newT11, newLf12, newLf13, newLf14, newLf15, newLf16, pairsOf, keyOf, Bool.not_true, Bool.not_false, Bool.true_eq_false, Bool.false_eq_true, false_implies, true_implies, and_true, true_and, forall_const, Bool.not_eq_true', Bool.not_eq_false', decide_eq_true_eq, decide_eq_false_iff_not, reduceCtorEq, Int.not_lt, Int.not_le, Nat.not_lt, Nat.not_le, and_self, implies_true, beq_iff_eq, beq_eq_false_iff_ne, ne_eq, isNon, idx_tup idx0]
      exact ⟨fun _ => by first | rfl | exact ⟨rfl, rfl⟩, fun z => by omega⟩
    | some y =>
      have q2 := p2 y h2
      simp only [ws_forCons, ws_forNil, ws_turn, bindT_name, oT, tripD]
      unfold b__law_due_1f b__law_due_1f_0t
      simp only [ws_cons, ws_raise, ws_try, wp_att, cat_int, rep_int, cat_tup, cat_lst, set1_some, set1_none, wipe1_some, wipe1_none, ev_clsv, ws_exp, ws_retN, ws_brk, ws_cont, ws_ite, ws_ret, ws_asg, ws_iset, ws_pass, wp_bin, wp_cat, wp_rep, wp_neg, wp_and, wp_or, wp_not, wp_ite, wp_cmp, wp_chn, wp_slc, evo_no, wp_osome, wp_callE, wp_idx, wp_blt, wp_tup, wp_lst, wp_dic, wps_cons, wps_star, st_lst, st_tup, evs_nil, wps_ok, wp_ok, ev_lit, ev_var, ev_glo, ev_tyv, sts_nil, ws_nx, List.map_cons, List.map_nil, List.cons_append, List.nil_append, List.append_nil, List.getElem?_cons_zero, List.getElem?_cons_succ, srcs, List.length_cons, List.length_nil, List.replicate, bindT_name, bindT_2, bindT_3, bindT_nest, bindTs_nil, bindTs_cons, Nat.zero_add, Nat.reduceAdd, List.set_cons_zero, List.set_cons_succ, bin_add, bin_sub, cmp_gt, cmp_lt, cmp_ge, cmp_le, blt_int, blt_intb, blt_abs, blt_lenL, blt_lenT, blt_lenS, tr_bl, nt_bl, chn_bl, cmp_is, cmp_isnot, cmp_eq_int, cmp_ne_int, newLf0, newLt0, newT0, newLf1, newLt1, newT1, newLf2, newLt2, newT2, newLf3, newLt3, newT3, newLf4, newLt4, newT4, newLf5, newLt5, newT5, newLf6, newLt6, newT6, newLf7, newLt7, newT7, newLf8, newT8, newLf9, newT9, newLf10, newT10, newLf11, newT11, newLf12, newLf13, newLf14, newLf15, newLf16, pairsOf, keyOf, Bool.not_true, Bool.not_false, Bool.true_eq_false, Bool.false_eq_true, false_implies, true_implies, and_true, true_and, forall_const, Bool.not_eq_true', Bool.not_eq_false', decide_eq_true_eq, decide_eq_false_iff_not, reduceCtorEq, Int.not_lt, Int.not_le, Nat.not_lt, Nat.not_le, and_self, implies_true, beq_iff_eq, beq_eq_false_iff_ne, ne_eq, isNon, idx_tup idx0, hold]
      refine ⟨fun _ => ⟨fun z => ?_, fun z => ?_⟩, fun z => by omega⟩
      · simp only [if_pos z]
      · simp only [if_neg (show ¬ x.1 < y.1 by omega)]
/-- epoch, half, first stamp -/
def TQ (B : Nat) (R : Store) : QD := fun d S => ∃ (e h f : Int) (m' : MO), d = .tup [.int e, .int h, .int f] ∧ (1 ≤ e ∧ e ≤ 65535) ∧ (0 ≤ h ∧ h ≤ 1) ∧ (1 ≤ f ∧ f ≤ 65535) ∧ S = m' :: R ∧ Sat B m'
theorem w_told (hm : Sat B m) (hB : B + 10 < 2 ^ 20) : Wp (callK P (k + 3) i__law_told [.ref 0] (m :: R)) (TQ (B + 5) R) noX := by
  refine wp_callS rfl rfl ?_
  show Ws (sts _ b__law_told _ _) _
  unfold b__law_told
  simp only [ws_cons, ws_raise, ws_try, wp_att, cat_int, rep_int, cat_tup, cat_lst, set1_some, set1_none, wipe1_some, wipe1_none, ev_clsv, ws_exp, ws_retN, ws_brk, ws_cont, ws_ite, ws_ret, ws_asg, ws_iset, ws_pass, wp_bin, wp_cat, wp_rep, wp_neg, wp_and, wp_or, wp_not, wp_ite, wp_cmp, wp_chn, wp_slc, evo_no, wp_osome, wp_callE, wp_idx, wp_blt, wp_tup, wp_lst, wp_dic, wps_cons, wps_star, st_lst, st_tup, evs_nil, wps_ok, wp_ok, ev_lit, ev_var, ev_glo, ev_tyv, sts_nil, ws_nx, List.map_cons, List.map_nil, List.cons_append, List.nil_append, List.append_nil, List.getElem?_cons_zero, List.getElem?_cons_succ, srcs, List.length_cons, List.length_nil, List.replicate, bindT_name, bindT_2, bindT_3, bindT_nest, bindTs_nil, bindTs_cons, Nat.zero_add, Nat.reduceAdd, List.set_cons_zero, List.set_cons_succ, bin_add, bin_sub, cmp_gt, cmp_lt, cmp_ge, cmp_le, blt_int, blt_intb, blt_abs, blt_lenL, blt_lenT, blt_lenS, tr_bl, nt_bl, chn_bl, cmp_is, cmp_isnot, cmp_eq_int, cmp_ne_int, newLf0, newLt0, newT0, newLf1, newLt1, newT1, newLf2, newLt2, newT2, newLf3, newLt3, newT3, newLf4, newLt4, newT4, newLf5, newLt5, newT5, newLf6, newLt6, newT6, newLf7, newLt7, newT7, newLf8, newT8, newLf9, newT9, newLf10, newT10, newLf11, newT11, newLf12, newLf13, newLf14, newLf15, newLf16, pairsOf, keyOf, g__law_steer, g__law_pick]
  refine (w_coin (k := k + 1) hm (by omega) (by omega) (by omega)).imp fun d S ⟨n, m1, e, n0, n1, e2, s1⟩ => ?_
  subst e e2
  try simp only [ws_cons, ws_raise, ws_try, wp_att, cat_int, rep_int, cat_tup, cat_lst, set1_some, set1_none, wipe1_some, wipe1_none, ev_clsv, ws_exp, ws_retN, ws_brk, ws_cont, ws_ite, ws_ret, ws_asg, ws_iset, ws_pass, wp_bin, wp_cat, wp_rep, wp_neg, wp_and, wp_or, wp_not, wp_ite, wp_cmp, wp_chn, wp_slc, evo_no, wp_osome, wp_callE, wp_idx, wp_blt, wp_tup, wp_lst, wp_dic, wps_cons, wps_star, st_lst, st_tup, evs_nil, wps_ok, wp_ok, ev_lit, ev_var, ev_glo, ev_tyv, sts_nil, ws_nx, List.map_cons, List.map_nil, List.cons_append, List.nil_append, List.append_nil, List.getElem?_cons_zero, List.getElem?_cons_succ, srcs, List.length_cons, List.length_nil, List.replicate, bindT_name, bindT_2, bindT_3, bindT_nest, bindTs_nil, bindTs_cons, Nat.zero_add, Nat.reduceAdd, List.set_cons_zero, List.set_cons_succ, bin_add, bin_sub, cmp_gt, cmp_lt, cmp_ge, cmp_le, blt_int, blt_intb, blt_abs, blt_lenL, blt_lenT, blt_lenS, tr_bl, nt_bl, chn_bl, cmp_is, cmp_isnot, cmp_eq_int, cmp_ne_int, newLf0, newLt0, newT0, newLf1, newLt1, newT1, newLf2, newLt2, newT2, newLf3, newLt3, newT3, newLf4, newLt4, newT4, newLf5, newLt5, newT5, newLf6, newLt6, newT6, newLf7, newLt7, newT7, newLf8, newT8, newLf9, newT9, newLf10, newT10, newLf11, newT11, newLf12, newLf13, newLf14, newLf15, newLf16, pairsOf, keyOf]
  refine (w_any (k := k) s1 (by simp) (by simp) (by omega)).imp fun d S ⟨m2, hd, e, s2⟩ => ?_
  subst e
  obtain ⟨ep, rfl, e0, e1⟩ : ∃ i : Int, d = .int i ∧ 1 ≤ i ∧ i ≤ 65535 := by
    simp only [List.mem_cons, List.not_mem_nil, or_false] at hd
    rcases hd with rfl | rfl | rfl | rfl <;> exact ⟨_, rfl, by omega, by omega⟩
  unfold b__law_told_1
  simp only [ws_cons, ws_raise, ws_try, wp_att, cat_int, rep_int, cat_tup, cat_lst, set1_some, set1_none, wipe1_some, wipe1_none, ev_clsv, ws_exp, ws_retN, ws_brk, ws_cont, ws_ite, ws_ret, ws_asg, ws_iset, ws_pass, wp_bin, wp_cat, wp_rep, wp_neg, wp_and, wp_or, wp_not, wp_ite, wp_cmp, wp_chn, wp_slc, evo_no, wp_osome, wp_callE, wp_idx, wp_blt, wp_tup, wp_lst, wp_dic, wps_cons, wps_star, st_lst, st_tup, evs_nil, wps_ok, wp_ok, ev_lit, ev_var, ev_glo, ev_tyv, sts_nil, ws_nx, List.map_cons, List.map_nil, List.cons_append, List.nil_append, List.append_nil, List.getElem?_cons_zero, List.getElem?_cons_succ, srcs, List.length_cons, List.length_nil, List.replicate, bindT_name, bindT_2, bindT_3, bindT_nest, bindTs_nil, bindTs_cons, Nat.zero_add, Nat.reduceAdd, List.set_cons_zero, List.set_cons_succ, bin_add, bin_sub, cmp_gt, cmp_lt, cmp_ge, cmp_le, blt_int, blt_intb, blt_abs, blt_lenL, blt_lenT, blt_lenS, tr_bl, nt_bl, chn_bl, cmp_is, cmp_isnot, cmp_eq_int, cmp_ne_int, newLf0, newLt0, newT0, newLf1, newLt1, newT1, newLf2, newLt2, newT2, newLf3, newLt3, newT3, newLf4, newLt4, newT4, newLf5, newLt5, newT5, newLf6, newLt6, newT6, newLf7, newLt7, newT7, newLf8, newT8, newLf9, newT9, newLf10, newT10, newLf11, newT11, newLf12, newLf13, newLf14, newLf15, newLf16, pairsOf, keyOf, g__law_steer, g__law_pick]
  refine (w_coin (k := k + 1) s2 (by omega) (by omega) (by omega)).imp fun d S ⟨h, m3, e, h0, h1, e2, s3⟩ => ?_
  subst e e2
  refine (w_coin (k := k + 1) s3 (by omega) (by omega) (by omega)).imp fun d S ⟨n2, m4, e, n20, n21, e2, s4⟩ => ?_
  subst e e2
  try simp only [ws_cons, ws_raise, ws_try, wp_att, cat_int, rep_int, cat_tup, cat_lst, set1_some, set1_none, wipe1_some, wipe1_none, ev_clsv, ws_exp, ws_retN, ws_brk, ws_cont, ws_ite, ws_ret, ws_asg, ws_iset, ws_pass, wp_bin, wp_cat, wp_rep, wp_neg, wp_and, wp_or, wp_not, wp_ite, wp_cmp, wp_chn, wp_slc, evo_no, wp_osome, wp_callE, wp_idx, wp_blt, wp_tup, wp_lst, wp_dic, wps_cons, wps_star, st_lst, st_tup, evs_nil, wps_ok, wp_ok, ev_lit, ev_var, ev_glo, ev_tyv, sts_nil, ws_nx, List.map_cons, List.map_nil, List.cons_append, List.nil_append, List.append_nil, List.getElem?_cons_zero, List.getElem?_cons_succ, srcs, List.length_cons, List.length_nil, List.replicate, bindT_name, bindT_2, bindT_3, bindT_nest, bindTs_nil, bindTs_cons, Nat.zero_add, Nat.reduceAdd, List.set_cons_zero, List.set_cons_succ, bin_add, bin_sub, cmp_gt, cmp_lt, cmp_ge, cmp_le, blt_int, blt_intb, blt_abs, blt_lenL, blt_lenT, blt_lenS, tr_bl, nt_bl, chn_bl, cmp_is, cmp_isnot, cmp_eq_int, cmp_ne_int, newLf0, newLt0, newT0, newLf1, newLt1, newT1, newLf2, newLt2, newT2, newLf3, newLt3, newT3, newLf4, newLt4, newT4, newLf5, newLt5, newT5, newLf6, newLt6, newT6, newLf7, newLt7, newT7, newLf8, newT8, newLf9, newT9, newLf10, newT10, newLf11, newT11, newLf12, newLf13, newLf14, newLf15, newLf16, pairsOf, keyOf]
  refine (w_any (k := k) s4 (by simp) (by simp) (by omega)).imp fun d S ⟨m5, hd, e, s5⟩ => ?_
  subst e
  obtain ⟨f, rfl, f0, f1⟩ : ∃ i : Int, d = .int i ∧ 1 ≤ i ∧ i ≤ 65535 := by
    simp only [List.mem_cons, List.not_mem_nil, or_false] at hd
    rcases hd with rfl | rfl | rfl <;> exact ⟨_, rfl, by omega, by omega⟩
  try simp only [ws_cons, ws_raise, ws_try, wp_att, cat_int, rep_int, cat_tup, cat_lst, set1_some, set1_none, wipe1_some, wipe1_none, ev_clsv, ws_exp, ws_retN, ws_brk, ws_cont, ws_ite, ws_ret, ws_asg, ws_iset, ws_pass, wp_bin, wp_cat, wp_rep, wp_neg, wp_and, wp_or, wp_not, wp_ite, wp_cmp, wp_chn, wp_slc, evo_no, wp_osome, wp_callE, wp_idx, wp_blt, wp_tup, wp_lst, wp_dic, wps_cons, wps_star, st_lst, st_tup, evs_nil, wps_ok, wp_ok, ev_lit, ev_var, ev_glo, ev_tyv, sts_nil, ws_nx, List.map_cons, List.map_nil, List.cons_append, List.nil_append, List.append_nil, List.getElem?_cons_zero, List.getElem?_cons_succ, srcs, List.length_cons, List.length_nil, List.replicate, bindT_name, bindT_2, bindT_3, bindT_nest, bindTs_nil, bindTs_cons, Nat.zero_add, Nat.reduceAdd, List.set_cons_zero, List.set_cons_succ, bin_add, bin_sub, cmp_gt, cmp_lt, cmp_ge, cmp_le, blt_int, blt_intb, blt_abs, blt_lenL, blt_lenT, blt_lenS, tr_bl, nt_bl, chn_bl, cmp_is, cmp_isnot, cmp_eq_int, cmp_ne_int, newLf0, newLt0, newT0, newLf1, newLt1, newT1, newLf2, newLt2, newT2, newLf3, newLt3, newT3, newLf4, newLt4, newT4, newLf5, newLt5, newT5, newLf6, newLt6, newT6, newLf7, newLt7, newT7, newLf8, newT8, newLf9, newT9, newLf10, newT10, newLf11, newT11, newLf12, newLf13, newLf14, newLf15, newLf16, pairsOf, keyOf]
  exact ⟨by first | rfl | trivial, ep, h, f, m5, rfl, ⟨e0, e1⟩, ⟨h0, by omega⟩, ⟨f0, f1⟩, rfl, s5⟩
theorem gR {x : MO} {X : Store} : (m :: (R ++ (x :: X)))[R.length + 1]? = some x := by simp
theorem sR {x y : MO} {X : Store} : (m :: (R ++ (x :: X))).set (R.length + 1) y = m :: (R ++ (y :: X)) := by
  rw [List.set_cons_succ, List.set_append_right _ _ (Nat.le_refl _), Nat.sub_self, List.set_cons_zero]
theorem sR' {x y : MO} {X : Store} : (R ++ (x :: X)).set R.length y = R ++ (y :: X) := by
  rw [List.set_append_right _ _ (Nat.le_refl _), Nat.sub_self, List.set_cons_zero]
theorem bB_hd {e h f : Int} (h1 : 1 ≤ e ∧ e ≤ 65535) (h2 : 0 ≤ h ∧ h ≤ 1) (h3 : 1 ≤ f ∧ f ≤ 65535) : bB (hd e h f) := by
  refine ⟨rfl, fun i hi => ?_⟩
  unfold hd at hi
  simp only [List.mem_cons, List.mem_replicate] at hi
  omega
theorem bB_set {l : List Int} {j : Nat} {v : Int} (h : bB l) (h0 : 0 ≤ v) (h1 : v ≤ 65535) : bB (l.set j v) := by
  refine ⟨by rw [List.length_set]; exact h.1, fun i hi => ?_⟩
  rcases List.mem_or_eq_of_mem_set hi with z | z
  · exact h.2 i z
  · omega
theorem bB_rep {v : Int} (h0 : 0 ≤ v) (h1 : v ≤ 65535) : bB (List.replicate 16 v) := by
  refine ⟨List.length_replicate, fun i hi => ?_⟩
  rw [List.mem_replicate] at hi
  omega
/-- a block in the store -/
def BQ (B : Nat) (R : Store) : QD := fun d S => ∃ (m' : MO) (X : Store) (j : Nat) (l : List Int), d = .ref (R.length + 1 + j) ∧ S = m' :: (R ++ X) ∧ X[j]? = some (.lst (l.map D.int)) ∧ bB l ∧ Sat B m'
/-- behind the changes: a block in the store -/
theorem w_block3 {e h f w : Int} {sp : D} {N : En} (be : 1 ≤ e ∧ e ≤ 65535) (hB : B + 20 < 2 ^ 20) (l : List Int) (m4 : MO) (bl : bB l) (s4 : Sat (B + 8) m4)
    (done : ∀ (j : Nat) (X : Store) (l : List Int) (m5 : MO), X[j]? = some (.lst (l.map D.int)) → bB l → Sat (B + 9) m5 → N.rt (.ref (R.length + 1 + j)) (m5 :: (R ++ X))) :
    Ws (sts (callK P (k + 3)) b__law_block_3 [some (.ref 0), some (.int e), some (.int h), some (.int f), some (.ref (R.length + 1)), some (.int w), some sp] (m4 :: (R ++ [.lst (l.map D.int)]))) { N with ex := fun x _ S' => False } := by
  unfold b__law_block_3 b__law_block_3t b__law_block_4
  have r0 : ∀ S, repD true (.lst [.int 0]) (.int 16) S = .ok (.ref S.length) (S ++ [.lst ((List.replicate 16 (0 : Int)).map D.int)]) := fun S => by rw [List.map_replicate]; exact rep_lr (n := 16) rfl (by decide)
  have r7 : ∀ S, repD true (.lst [.int 7]) (.int 16) S = .ok (.ref S.length) (S ++ [.lst ((List.replicate 16 (7 : Int)).map D.int)]) := fun S => by rw [List.map_replicate]; exact rep_lr (n := 16) rfl (by decide)
  have re : ∀ S, repD true (.lst [.int e]) (.int 16) S = .ok (.ref S.length) (S ++ [.lst ((List.replicate 16 e).map D.int)]) := fun S => by rw [List.map_replicate]; exact rep_lr (n := 16) rfl (by decide)
  simp only [ws_cons, ws_raise, ws_try, wp_att, cat_int, rep_int, cat_tup, cat_lst, set1_some, set1_none, wipe1_some, wipe1_none, ev_clsv, ws_exp, ws_retN, ws_brk, ws_cont, ws_ite, ws_ret, ws_asg, ws_iset, ws_pass, wp_bin, wp_cat, wp_rep, wp_neg, wp_and, wp_or, wp_not, wp_ite, wp_cmp, wp_chn, wp_slc, evo_no, wp_osome, wp_callE, wp_idx, wp_blt, wp_tup, wp_lst, wp_dic, wps_cons, wps_star, st_lst, st_tup, evs_nil, wps_ok, wp_ok, ev_lit, ev_var, ev_glo, ev_tyv, sts_nil, ws_nx, List.map_cons, List.map_nil, List.cons_append, List.nil_append, List.append_nil, List.getElem?_cons_zero, List.getElem?_cons_succ, srcs, List.length_cons, List.length_nil, List.replicate, bindT_name, bindT_2, bindT_3, bindT_nest, bindTs_nil, bindTs_cons, Nat.zero_add, Nat.reduceAdd, List.set_cons_zero, List.set_cons_succ, bin_add, bin_sub, cmp_gt, cmp_lt, cmp_ge, cmp_le, blt_int, blt_intb, blt_abs, blt_lenL, blt_lenT, blt_lenS, tr_bl, nt_bl, chn_bl, cmp_is, cmp_isnot, cmp_eq_int, cmp_ne_int, newLf0, newLt0, newT0, newLf1, newLt1, newT1, newLf2, newLt2, newT2, newLf3, newLt3, newT3, newLf4, newLt4, newT4, newLf5, newLt5, newT5, newLf6, newLt6, newT6, newLf7, newLt7, newT7, newLf8, newT8, newLf9, newT9, newLf10, newT10, newLf11, newT11, newLf12, newLf13, newLf14, newLf15, newLf16, pairsOf, keyOf, Bool.not_true, Bool.not_false, Bool.true_eq_false, Bool.false_eq_true, false_implies, true_implies, and_true, true_and, forall_const, Bool.not_eq_true', Bool.not_eq_false', decide_eq_true_eq, decide_eq_false_iff_not, reduceCtorEq, Int.not_lt, Int.not_le, Nat.not_lt, Nat.not_le, and_self, implies_true, beq_iff_eq, beq_eq_false_iff_ne, ne_eq, g__law_pick, r0, r7, re, List.length_append, List.append_assoc]
  refine ⟨fun _ => ?_, fun _ => done 0 _ l m4 rfl bl (s4.mono (by omega))⟩
  refine (w_any (k := k + 1) s4 (by simp) (by simp) (by omega)).imp fun d S ⟨m5, hd, ed, s5⟩ => ?_
  subst ed
  simp only [List.mem_cons, List.not_mem_nil, or_false] at hd
  rcases hd with rfl | rfl | rfl
  · exact done 1 _ (List.replicate 16 0) m5 rfl (bB_rep (by decide) (by decide)) s5
  · exact done 2 _ (List.replicate 16 7) m5 rfl (bB_rep (by decide) (by decide)) s5
  · exact done 3 _ (List.replicate 16 e) m5 rfl (bB_rep (by omega) (by omega)) s5
theorem ref_keep (d : D) (S : Store) (h : BQ B R d S) : if (d.lows (R.length + 1) && (S.take (R.length + 1)).all (MO.lows (R.length + 1))) = true then BQ B R d (S.take (R.length + 1)) else BQ B R d S := by
  obtain ⟨m', X, j, l, rfl, r⟩ := h
  have : (D.ref (R.length + 1 + j)).lows (R.length + 1) = false := decide_eq_false (by omega)
  rw [this, Bool.false_and, if_neg Bool.false_ne_true]
  exact ⟨m', X, j, l, rfl, r⟩
theorem w_block (hm : Sat B m) (hB : B + 20 < 2 ^ 20) : Wp (callK P (k + 4) i__law_block [.ref 0] (m :: R)) (BQ (B + 9) R) noX := by
  refine wp_call rfl rfl ?_
  show Ws (sts _ b__law_block _ _) _
  unfold b__law_block
  simp only [ws_cons, ws_raise, ws_try, wp_att, cat_int, rep_int, cat_tup, cat_lst, set1_some, set1_none, wipe1_some, wipe1_none, ev_clsv, ws_exp, ws_retN, ws_brk, ws_cont, ws_ite, ws_ret, ws_asg, ws_iset, ws_pass, wp_bin, wp_cat, wp_rep, wp_neg, wp_and, wp_or, wp_not, wp_ite, wp_cmp, wp_chn, wp_slc, evo_no, wp_osome, wp_callE, wp_idx, wp_blt, wp_tup, wp_lst, wp_dic, wps_cons, wps_star, st_lst, st_tup, evs_nil, wps_ok, wp_ok, ev_lit, ev_var, ev_glo, ev_tyv, sts_nil, ws_nx, List.map_cons, List.map_nil, List.cons_append, List.nil_append, List.append_nil, List.getElem?_cons_zero, List.getElem?_cons_succ, srcs, List.length_cons, List.length_nil, List.replicate, bindT_name, bindT_2, bindT_3, bindT_nest, bindTs_nil, bindTs_cons, Nat.zero_add, Nat.reduceAdd, List.set_cons_zero, List.set_cons_succ, bin_add, bin_sub, cmp_gt, cmp_lt, cmp_ge, cmp_le, blt_int, blt_intb, blt_abs, blt_lenL, blt_lenT, blt_lenS, tr_bl, nt_bl, chn_bl, cmp_is, cmp_isnot, cmp_eq_int, cmp_ne_int, newLf0, newLt0, newT0, newLf1, newLt1, newT1, newLf2, newLt2, newT2, newLf3, newLt3, newT3, newLf4, newLt4, newT4, newLf5, newLt5, newT5, newLf6, newLt6, newT6, newLf7, newLt7, newT7, newLf8, newT8, newLf9, newT9, newLf10, newT10, newLf11, newT11, newLf12, newLf13, newLf14, newLf15, newLf16, pairsOf, keyOf, g__law_told]
  refine (w_told (k := k) hm (by omega)).imp fun d S ⟨e, h, f, m1, ed, be, bh, bf, e2, s1⟩ => ?_
  subst ed e2
  have hl12 : ∀ S, repD false (.lst [.int 0]) (.int 12) S = .ok (.lst (List.replicate 12 (.int 0))) S := fun S => rep_l (n := 12) rfl (by decide)
  have hcat : ∀ S, newL true [D.int 7, D.int e, D.int h, D.int f, D.int 0, D.int 0, D.int 0, D.int 0, D.int 0, D.int 0, D.int 0, D.int 0, D.int 0, D.int 0, D.int 0, D.int 0] S = .ok (.ref S.length) (S ++ [.lst ((hd e h f).map D.int)]) := fun S => newL_t (small (by show 16 ≤ 100000; decide))
  unfold b__law_block_1
  simp only [ws_cons, ws_raise, ws_try, wp_att, cat_int, rep_int, cat_tup, cat_lst, set1_some, set1_none, wipe1_some, wipe1_none, ev_clsv, ws_exp, ws_retN, ws_brk, ws_cont, ws_ite, ws_ret, ws_asg, ws_iset, ws_pass, wp_bin, wp_cat, wp_rep, wp_neg, wp_and, wp_or, wp_not, wp_ite, wp_cmp, wp_chn, wp_slc, evo_no, wp_osome, wp_callE, wp_idx, wp_blt, wp_tup, wp_lst, wp_dic, wps_cons, wps_star, st_lst, st_tup, evs_nil, wps_ok, wp_ok, ev_lit, ev_var, ev_glo, ev_tyv, sts_nil, ws_nx, List.map_cons, List.map_nil, List.cons_append, List.nil_append, List.append_nil, List.getElem?_cons_zero, List.getElem?_cons_succ, srcs, List.length_cons, List.length_nil, List.replicate, bindT_name, bindT_2, bindT_3, bindT_nest, bindTs_nil, bindTs_cons, Nat.zero_add, Nat.reduceAdd, List.set_cons_zero, List.set_cons_succ, bin_add, bin_sub, cmp_gt, cmp_lt, cmp_ge, cmp_le, blt_int, blt_intb, blt_abs, blt_lenL, blt_lenT, blt_lenS, tr_bl, nt_bl, chn_bl, cmp_is, cmp_isnot, cmp_eq_int, cmp_ne_int, newLf0, newLt0, newT0, newLf1, newLt1, newT1, newLf2, newLt2, newT2, newLf3, newLt3, newT3, newLf4, newLt4, newT4, newLf5, newLt5, newT5, newLf6, newLt6, newT6, newLf7, newLt7, newT7, newLf8, newT8, newLf9, newT9, newLf10, newT10, newLf11, newT11, newLf12, newLf13, newLf14, newLf15, newLf16, pairsOf, keyOf, g__law_steer, hl12, hcat, List.cons_append]
  refine (w_coin (k := k + 2) s1 (by omega) (by omega) (by omega)).imp fun d S ⟨w, m2, ed, w0, w1, e2, s2⟩ => ?_
  subst ed e2
  refine (w_coin (k := k + 2) s2 (by omega) (by omega) (by omega)).imp fun d S ⟨sp, m3, ed, sp0, sp1, e2, s3⟩ => ?_
  subst ed e2
  try simp only [ws_cons, ws_raise, ws_try, wp_att, cat_int, rep_int, cat_tup, cat_lst, set1_some, set1_none, wipe1_some, wipe1_none, ev_clsv, ws_exp, ws_retN, ws_brk, ws_cont, ws_ite, ws_ret, ws_asg, ws_iset, ws_pass, wp_bin, wp_cat, wp_rep, wp_neg, wp_and, wp_or, wp_not, wp_ite, wp_cmp, wp_chn, wp_slc, evo_no, wp_osome, wp_callE, wp_idx, wp_blt, wp_tup, wp_lst, wp_dic, wps_cons, wps_star, st_lst, st_tup, evs_nil, wps_ok, wp_ok, ev_lit, ev_var, ev_glo, ev_tyv, sts_nil, ws_nx, List.map_cons, List.map_nil, List.cons_append, List.nil_append, List.append_nil, List.getElem?_cons_zero, List.getElem?_cons_succ, srcs, List.length_cons, List.length_nil, List.replicate, bindT_name, bindT_2, bindT_3, bindT_nest, bindTs_nil, bindTs_cons, Nat.zero_add, Nat.reduceAdd, List.set_cons_zero, List.set_cons_succ, bin_add, bin_sub, cmp_gt, cmp_lt, cmp_ge, cmp_le, blt_int, blt_intb, blt_abs, blt_lenL, blt_lenT, blt_lenS, tr_bl, nt_bl, chn_bl, cmp_is, cmp_isnot, cmp_eq_int, cmp_ne_int, newLf0, newLt0, newT0, newLf1, newLt1, newT1, newLf2, newLt2, newT2, newLf3, newLt3, newT3, newLf4, newLt4, newT4, newLf5, newLt5, newT5, newLf6, newLt6, newT6, newLf7, newLt7, newT7, newLf8, newT8, newLf9, newT9, newLf10, newT10, newLf11, newT11, newLf12, newLf13, newLf14, newLf15, newLf16, pairsOf, keyOf]
  obtain ⟨sp, rfl⟩ : ∃ j : Nat, sp = (j : Int) := ⟨sp.toNat, by omega⟩
  have fin : ∀ (l : List Int) (m4 : MO), bB l → Sat (B + 8) m4 → Ws (sts (callK P (k + 3)) b__law_block_3 [some (.ref 0), some (.int e), some (.int h), some (.int f), some (.ref (R.length + 1)), some (.int w), some (.int (sp : Int))] (m4 :: (R ++ [.lst (l.map D.int)]))) { rt := BQ (B + 9) R, ex := fun _ _ _ => False } := fun l m4 bl s4 =>
    w_block3 (k := k) (N := { rt := BQ (B + 9) R }) be hB l m4 bl s4 fun j X l m5 h1 h2 h3 => ⟨m5, X, j, l, rfl, rfl, h1, h2, h3⟩
  unfold b__law_block_2 b__law_block_2t
  simp only [ws_cons, ws_raise, ws_try, wp_att, cat_int, rep_int, cat_tup, cat_lst, set1_some, set1_none, wipe1_some, wipe1_none, ev_clsv, ws_exp, ws_retN, ws_brk, ws_cont, ws_ite, ws_ret, ws_asg, ws_iset, ws_pass, wp_bin, wp_cat, wp_rep, wp_neg, wp_and, wp_or, wp_not, wp_ite, wp_cmp, wp_chn, wp_slc, evo_no, wp_osome, wp_callE, wp_idx, wp_blt, wp_tup, wp_lst, wp_dic, wps_cons, wps_star, st_lst, st_tup, evs_nil, wps_ok, wp_ok, ev_lit, ev_var, ev_glo, ev_tyv, sts_nil, ws_nx, List.map_cons, List.map_nil, List.cons_append, List.nil_append, List.append_nil, List.getElem?_cons_zero, List.getElem?_cons_succ, srcs, List.length_cons, List.length_nil, List.replicate, bindT_name, bindT_2, bindT_3, bindT_nest, bindTs_nil, bindTs_cons, Nat.zero_add, Nat.reduceAdd, List.set_cons_zero, List.set_cons_succ, bin_add, bin_sub, cmp_gt, cmp_lt, cmp_ge, cmp_le, blt_int, blt_intb, blt_abs, blt_lenL, blt_lenT, blt_lenS, tr_bl, nt_bl, chn_bl, cmp_is, cmp_isnot, cmp_eq_int, cmp_ne_int, newLf0, newLt0, newT0, newLf1, newLt1, newT1, newLf2, newLt2, newT2, newLf3, newLt3, newT3, newLf4, newLt4, newT4, newLf5, newLt5, newT5, newLf6, newLt6, newT6, newLf7, newLt7, newT7, newLf8, newT8, newLf9, newT9, newLf10, newT10, newLf11, newT11, newLf12, newLf13, newLf14, newLf15, newLf16, pairsOf, keyOf, Bool.not_true, Bool.not_false, Bool.true_eq_false, Bool.false_eq_true, false_implies, true_implies, and_true, true_and, forall_const, Bool.not_eq_true', Bool.not_eq_false', decide_eq_true_eq, decide_eq_false_iff_not, reduceCtorEq, Int.not_lt, Int.not_le, Nat.not_lt, Nat.not_le, and_self, implies_true, beq_iff_eq, beq_eq_false_iff_ne, ne_eq, g__law_pick]
  refine ⟨fun _ => ?_, fun _ => ?_⟩
  rotate_left
  · have q := fin _ m3 (bB_hd be bh bf) (s3.mono (by omega))
    refine q.mono ?_ ?_ ?_ ?_ ?_
    · intro _ _ z; exact False.elim z
    · exact ref_keep
    · intro _ _ z; exact False.elim z
    · intro _ _ z; exact False.elim z
    · intro _ _ _ z; exact False.elim z
  have bh := bB_hd be bh bf
  have hlt : sp < (hd e h f).length := by rw [hd_len]; omega
  have ha : L2.atI ((hd e h f).map D.int) (sp : Int) = some (.int ((hd e h f)[sp])) := idx_nat (by rw [List.getElem?_map, List.getElem?_eq_getElem hlt]; rfl)
  have bv := bh.2 _ (List.getElem_mem hlt)
  simp only [idx_ref (n := R.length + 1) (xs := (hd e h f).map D.int) gR ha, ws_cons, ws_raise, ws_try, wp_att, cat_int, rep_int, cat_tup, cat_lst, set1_some, set1_none, wipe1_some, wipe1_none, ev_clsv, ws_exp, ws_retN, ws_brk, ws_cont, ws_ite, ws_ret, ws_asg, ws_iset, ws_pass, wp_bin, wp_cat, wp_rep, wp_neg, wp_and, wp_or, wp_not, wp_ite, wp_cmp, wp_chn, wp_slc, evo_no, wp_osome, wp_callE, wp_idx, wp_blt, wp_tup, wp_lst, wp_dic, wps_cons, wps_star, st_lst, st_tup, evs_nil, wps_ok, wp_ok, ev_lit, ev_var, ev_glo, ev_tyv, sts_nil, ws_nx, List.map_cons, List.map_nil, List.cons_append, List.nil_append, List.append_nil, List.getElem?_cons_zero, List.getElem?_cons_succ, srcs, List.length_cons, List.length_nil, List.replicate, bindT_name, bindT_2, bindT_3, bindT_nest, bindTs_nil, bindTs_cons, Nat.zero_add, Nat.reduceAdd, List.set_cons_zero, List.set_cons_succ, bin_add, bin_sub, cmp_gt, cmp_lt, cmp_ge, cmp_le, blt_int, blt_intb, blt_abs, blt_lenL, blt_lenT, blt_lenS, tr_bl, nt_bl, chn_bl, cmp_is, cmp_isnot, cmp_eq_int, cmp_ne_int, newLf0, newLt0, newT0, newLf1, newLt1, newT1, newLf2, newLt2, newT2, newLf3, newLt3, newT3, newLf4, newLt4, newT4, newLf5, newLt5, newT5, newLf6, newLt6, newT6, newLf7, newLt7, newT7, newLf8, newT8, newLf9, newT9, newLf10, newT10, newLf11, newT11, newLf12, newLf13, newLf14, newLf15, newLf16, pairsOf, keyOf]
  refine (w_any (k := k + 1) s3 (by simp) (by simp) (by omega)).imp fun d S ⟨m5, hd', ed, s5⟩ => ?_
  subst ed
  obtain ⟨v, rfl, v0, v1⟩ : ∃ i : Int, d = .int i ∧ 0 ≤ i ∧ i ≤ 65535 := by
    simp only [List.mem_cons, List.not_mem_nil, or_false] at hd'
    rcases hd' with rfl | rfl | rfl | rfl | rfl | rfl
    iterate 5 exact ⟨_, rfl, by omega, by omega⟩
    refine ⟨_, rfl, ?_, ?_⟩ <;> split <;> rename_i c <;> simp only [decide_eq_true_eq] at c <;> omega
  have hix : L2.ixN ((hd e h f).map D.int).length (sp : Int) = some sp := by
    unfold L2.ixN
    rw [if_pos (by omega), if_pos (by rw [List.length_map]; omega)]
    simp
  try simp only [ws_cons, ws_raise, ws_try, wp_att, cat_int, rep_int, cat_tup, cat_lst, set1_some, set1_none, wipe1_some, wipe1_none, ev_clsv, ws_exp, ws_retN, ws_brk, ws_cont, ws_ite, ws_ret, ws_asg, ws_iset, ws_pass, wp_bin, wp_cat, wp_rep, wp_neg, wp_and, wp_or, wp_not, wp_ite, wp_cmp, wp_chn, wp_slc, evo_no, wp_osome, wp_callE, wp_idx, wp_blt, wp_tup, wp_lst, wp_dic, wps_cons, wps_star, st_lst, st_tup, evs_nil, wps_ok, wp_ok, ev_lit, ev_var, ev_glo, ev_tyv, sts_nil, ws_nx, List.map_cons, List.map_nil, List.cons_append, List.nil_append, List.append_nil, List.getElem?_cons_zero, List.getElem?_cons_succ, srcs, List.length_cons, List.length_nil, List.replicate, bindT_name, bindT_2, bindT_3, bindT_nest, bindTs_nil, bindTs_cons, Nat.zero_add, Nat.reduceAdd, List.set_cons_zero, List.set_cons_succ, bin_add, bin_sub, cmp_gt, cmp_lt, cmp_ge, cmp_le, blt_int, blt_intb, blt_abs, blt_lenL, blt_lenT, blt_lenS, tr_bl, nt_bl, chn_bl, cmp_is, cmp_isnot, cmp_eq_int, cmp_ne_int, newLf0, newLt0, newT0, newLf1, newLt1, newT1, newLf2, newLt2, newT2, newLf3, newLt3, newT3, newLf4, newLt4, newT4, newLf5, newLt5, newT5, newLf6, newLt6, newT6, newLf7, newLt7, newT7, newLf8, newT8, newLf9, newT9, newLf10, newT10, newLf11, newT11, newLf12, newLf13, newLf14, newLf15, newLf16, pairsOf, keyOf, setL_ref (n := R.length + 1) (xs := (hd e h f).map D.int) gR hix, sR]
  rw [show ((hd e h f).map D.int).set sp (.int v) = ((hd e h f).set sp v).map D.int by rw [List.map_set]]
  rw [sR']
  have q := fin ((hd e h f).set sp v) m5 (bB_set bh v0 v1) (s5.mono (by omega))
  refine q.mono ?_ ?_ ?_ ?_ ?_
  · intro _ _ z; exact False.elim z
  · exact ref_keep
  · intro _ _ z; exact False.elim z
  · intro _ _ z; exact False.elim z
  · intro _ _ _ z; exact False.elim z
end LW
set_option maxHeartbeats 1000000
namespace LW
open PySem PySem.Spec PD
variable {k B : Nat} {S R : Store} {d e : D} {m : MO}
def tNumber : D := .str (T [110, 117, 109, 98, 101, 114])
def tBlock : D := .str (T [98, 108, 111, 99, 107])
theorem isi_x2 {c a b : Nat} {fs : List (Str × D)} {mm : Bool} : bltD .isi mm [.exc c fs, .tup [.cls a, .cls b]] S = .ok (.bl (subC c a || (subC c b || false))) S := id rfl
theorem w_lheard {b : Store → EOut} {Q : QD} {E : XD} (h : Wp (b S) (fun _ S' => S' = S ∧ Q .non S) (fun x S' => S' = S ∧ ((∃ p, x = xNum p ∧ Q (.tup [tNumber, p]) S) ∨ ∃ p, x = xBlk p ∧ Q (.tup [tBlock, p]) S))) : Wp ((callK P (k + 2)).lam i__law_heard b S) Q E := by
  refine wp_lam rfl rfl ?_
  show Ws (sts _ b__law_heard _ _) _
  unfold b__law_heard b__law_heard_1 b__law_heard_1b
  simp only [ws_cons, ws_raise, ws_try, wp_att, cat_int, rep_int, cat_tup, cat_lst, set1_some, set1_none, wipe1_some, wipe1_none, ev_clsv, ws_exp, ws_retN, ws_brk, ws_cont, ws_ite, ws_ret, ws_asg, ws_iset, ws_pass, wp_bin, wp_cat, wp_rep, wp_neg, wp_and, wp_or, wp_not, wp_ite, wp_cmp, wp_chn, wp_slc, evo_no, wp_osome, wp_callE, wp_idx, wp_blt, wp_tup, wp_lst, wp_dic, wps_cons, wps_star, st_lst, st_tup, evs_nil, wps_ok, wp_ok, ev_lit, ev_var, ev_glo, ev_tyv, sts_nil, ws_nx, List.map_cons, List.map_nil, List.cons_append, List.nil_append, List.append_nil, List.getElem?_cons_zero, List.getElem?_cons_succ, srcs, List.length_cons, List.length_nil, List.replicate, bindT_name, bindT_2, bindT_3, bindT_nest, bindTs_nil, bindTs_cons, Nat.zero_add, Nat.reduceAdd, List.set_cons_zero, List.set_cons_succ, bin_add, bin_sub, cmp_gt, cmp_lt, cmp_ge, cmp_le, blt_int, blt_intb, blt_abs, blt_lenL, blt_lenT, blt_lenS, tr_bl, nt_bl, chn_bl, cmp_is, cmp_isnot, cmp_eq_int, cmp_ne_int, newLf0, newLt0, newT0, newLf1, newLt1, newT1, newLf2, newLt2, newT2, newLf3, newLt3, newT3, newLf4, newLt4, newT4, newLf5, newLt5, newT5, newLf6, newLt6, newT6, newLf7, newLt7, newT7, newLf8, newT8, newLf9, newT9, newLf10, newT10, newLf11, newT11, newLf12, newLf13, newLf14, newLf15, newLf16, pairsOf, keyOf, wp_ask]
  refine h.mono (fun d S' z => ?_) fun x S' z => ?_
  · obtain ⟨rfl, z⟩ := z
    unfold b__law_heard_2
    simp only [ws_cons, ws_raise, ws_try, wp_att, cat_int, rep_int, cat_tup, cat_lst, set1_some, set1_none, wipe1_some, wipe1_none, ev_clsv, ws_exp, ws_retN, ws_brk, ws_cont, ws_ite, ws_ret, ws_asg, ws_iset, ws_pass, wp_bin, wp_cat, wp_rep, wp_neg, wp_and, wp_or, wp_not, wp_ite, wp_cmp, wp_chn, wp_slc, evo_no, wp_osome, wp_callE, wp_idx, wp_blt, wp_tup, wp_lst, wp_dic, wps_cons, wps_star, st_lst, st_tup, evs_nil, wps_ok, wp_ok, ev_lit, ev_var, ev_glo, ev_tyv, sts_nil, ws_nx, List.map_cons, List.map_nil, List.cons_append, List.nil_append, List.append_nil, List.getElem?_cons_zero, List.getElem?_cons_succ, srcs, List.length_cons, List.length_nil, List.replicate, bindT_name, bindT_2, bindT_3, bindT_nest, bindTs_nil, bindTs_cons, Nat.zero_add, Nat.reduceAdd, List.set_cons_zero, List.set_cons_succ, bin_add, bin_sub, cmp_gt, cmp_lt, cmp_ge, cmp_le, blt_int, blt_intb, blt_abs, blt_lenL, blt_lenT, blt_lenS, tr_bl, nt_bl, chn_bl, cmp_is, cmp_isnot, cmp_eq_int, cmp_ne_int, newLf0, newLt0, newT0, newLf1, newLt1, newT1, newLf2, newLt2, newT2, newLf3, newLt3, newT3, newLf4, newLt4, newT4, newLf5, newLt5, newT5, newLf6, newLt6, newT6, newLf7, newLt7, newT7, newLf8, newT8, newLf9, newT9, newLf10, newT10, newLf11, newT11, newLf12, newLf13, newLf14, newLf15, newLf16, pairsOf, keyOf, Bool.not_true, Bool.not_false, Bool.true_eq_false, Bool.false_eq_true, false_implies, true_implies, and_true, true_and, forall_const, Bool.not_eq_true', Bool.not_eq_false', decide_eq_true_eq, decide_eq_false_iff_not, reduceCtorEq, Int.not_lt, Int.not_le, Nat.not_lt, Nat.not_le, and_self, implies_true, beq_iff_eq, beq_eq_false_iff_ne, ne_eq]
    exact z
  · obtain ⟨rfl, z⟩ := z
    rcases z with ⟨p, rfl, z⟩ | ⟨p, rfl, z⟩
    · show if subC 3 1 = true then _ else _
      rw [if_pos (by decide)]
      unfold b__law_heard_1x b__law_heard_1x_1 b__law_heard_1x_1t b__law_heard_2
      simp only [ws_cons, ws_raise, ws_try, wp_att, cat_int, rep_int, cat_tup, cat_lst, set1_some, set1_none, wipe1_some, wipe1_none, ev_clsv, ws_exp, ws_retN, ws_brk, ws_cont, ws_ite, ws_ret, ws_asg, ws_iset, ws_pass, wp_bin, wp_cat, wp_rep, wp_neg, wp_and, wp_or, wp_not, wp_ite, wp_cmp, wp_chn, wp_slc, evo_no, wp_osome, wp_callE, wp_idx, wp_blt, wp_tup, wp_lst, wp_dic, wps_cons, wps_star, st_lst, st_tup, evs_nil, wps_ok, wp_ok, ev_lit, ev_var, ev_glo, ev_tyv, sts_nil, ws_nx, List.map_cons, List.map_nil, List.cons_append, List.nil_append, List.append_nil, List.getElem?_cons_zero, List.getElem?_cons_succ, srcs, List.length_cons, List.length_nil, List.replicate, bindT_name, bindT_2, bindT_3, bindT_nest, bindTs_nil, bindTs_cons, Nat.zero_add, Nat.reduceAdd, List.set_cons_zero, List.set_cons_succ, bin_add, bin_sub, cmp_gt, cmp_lt, cmp_ge, cmp_le, blt_int, blt_intb, blt_abs, blt_lenL, blt_lenT, blt_lenS, tr_bl, nt_bl, chn_bl, cmp_is, cmp_isnot, cmp_eq_int, cmp_ne_int, newLf0, newLt0, newT0, newLf1, newLt1, newT1, newLf2, newLt2, newT2, newLf3, newLt3, newT3, newLf4, newLt4, newT4, newLf5, newLt5, newT5, newLf6, newLt6, newT6, newLf7, newLt7, newT7, newLf8, newT8, newLf9, newT9, newLf10, newT10, newLf11, newT11, newLf12, newLf13, newLf14, newLf15, newLf16, pairsOf, keyOf, Bool.not_true, Bool.not_false, Bool.true_eq_false, Bool.false_eq_true, false_implies, true_implies, and_true, true_and, forall_const, Bool.not_eq_true', Bool.not_eq_false', decide_eq_true_eq, decide_eq_false_iff_not, reduceCtorEq, Int.not_lt, Int.not_le, Nat.not_lt, Nat.not_le, and_self, implies_true, beq_iff_eq, beq_eq_false_iff_ne, ne_eq, isi_x2, isi_xc, show subC x_BadNumber 3 = true by decide, Bool.true_or, att_exc (f := "part") (fs := [("part", p)]) (d := p) (by rfl)]
      exact z
    · show if subC 5 1 = true then _ else _
      rw [if_pos (by decide)]
      unfold b__law_heard_1x b__law_heard_1x_1 b__law_heard_1x_1t b__law_heard_2
      simp only [ws_cons, ws_raise, ws_try, wp_att, cat_int, rep_int, cat_tup, cat_lst, set1_some, set1_none, wipe1_some, wipe1_none, ev_clsv, ws_exp, ws_retN, ws_brk, ws_cont, ws_ite, ws_ret, ws_asg, ws_iset, ws_pass, wp_bin, wp_cat, wp_rep, wp_neg, wp_and, wp_or, wp_not, wp_ite, wp_cmp, wp_chn, wp_slc, evo_no, wp_osome, wp_callE, wp_idx, wp_blt, wp_tup, wp_lst, wp_dic, wps_cons, wps_star, st_lst, st_tup, evs_nil, wps_ok, wp_ok, ev_lit, ev_var, ev_glo, ev_tyv, sts_nil, ws_nx, List.map_cons, List.map_nil, List.cons_append, List.nil_append, List.append_nil, List.getElem?_cons_zero, List.getElem?_cons_succ, srcs, List.length_cons, List.length_nil, List.replicate, bindT_name, bindT_2, bindT_3, bindT_nest, bindTs_nil, bindTs_cons, Nat.zero_add, Nat.reduceAdd, List.set_cons_zero, List.set_cons_succ, bin_add, bin_sub, cmp_gt, cmp_lt, cmp_ge, cmp_le, blt_int, blt_intb, blt_abs, blt_lenL, blt_lenT, blt_lenS, tr_bl, nt_bl, chn_bl, cmp_is, cmp_isnot, cmp_eq_int, cmp_ne_int, newLf0, newLt0, newT0, newLf1, newLt1, newT1, newLf2, newLt2, newT2, newLf3, newLt3, newT3, newLf4, newLt4, newT4, newLf5, newLt5, newT5, newLf6, newLt6, newT6, newLf7, newLt7, newT7, newLf8, newT8, newLf9, newT9, newLf10, newT10, newLf11, newT11, newLf12, newLf13, newLf14, newLf15, newLf16, pairsOf, keyOf, Bool.not_true, Bool.not_false, Bool.true_eq_false, Bool.false_eq_true, false_implies, true_implies, and_true, true_and, forall_const, Bool.not_eq_true', Bool.not_eq_false', decide_eq_true_eq, decide_eq_false_iff_not, reduceCtorEq, Int.not_lt, Int.not_le, Nat.not_lt, Nat.not_le, and_self, implies_true, beq_iff_eq, beq_eq_false_iff_ne, ne_eq, isi_x2, isi_xc, show subC x_BadBlock 3 = false by decide, show subC x_BadBlock 5 = true by decide, Bool.true_or, Bool.false_or, att_exc (f := "part") (fs := [("part", p)]) (d := p) (by rfl)]
      exact z
theorem okq {d : D} (h : known d = true) (h2 : ∀ xs, itemsD d = some xs → (xs.all known && decide (xs.length ≤ 1000)) = true) : okSeq d := ⟨h, fun xs e => by
  obtain ⟨a, b⟩ := PD.ba (h2 xs e)
  exact ⟨fun x hx => List.all_eq_true.mp a x hx, small (by have := of_decide_eq_true b; omega)⟩⟩
def okqB (d : D) : Bool := known d && (match itemsD d with | some xs => xs.all known && decide (xs.length ≤ 1000) | none => true)
theorem okq_of {d : D} (h : okqB d = true) : okSeq d := okq (PD.ba h).1 fun xs e => by
  have := (PD.ba h).2
  rw [e] at this
  exact this
abbrev zz : D := .lst [.int 0, .int 0, .int 0, .int 0, .int 0, .int 0, .int 0, .int 0, .int 0, .int 0, .int 0, .int 0, .int 0, .int 0, .int 0, .int 0]
theorem w_refused (hm : Sat B m) (hB : B + 20 < 2 ^ 20) : Wp (callK P (k + 9) i__law_refused_right [.ref 0] (m :: R)) (fun d S => d = .bl true) noX := by
  refine wp_call rfl rfl ?_
  show Ws (sts _ b__law_refused_right _ _) _
  unfold b__law_refused_right
  simp only [ws_cons, ws_raise, ws_try, wp_att, cat_int, rep_int, cat_tup, cat_lst, set1_some, set1_none, wipe1_some, wipe1_none, ev_clsv, ws_exp, ws_retN, ws_brk, ws_cont, ws_ite, ws_ret, ws_asg, ws_iset, ws_pass, wp_bin, wp_cat, wp_rep, wp_neg, wp_and, wp_or, wp_not, wp_ite, wp_cmp, wp_chn, wp_slc, evo_no, wp_osome, wp_callE, wp_idx, wp_blt, wp_tup, wp_lst, wp_dic, wps_cons, wps_star, st_lst, st_tup, evs_nil, wps_ok, wp_ok, ev_lit, ev_var, ev_glo, ev_tyv, sts_nil, ws_nx, List.map_cons, List.map_nil, List.cons_append, List.nil_append, List.append_nil, List.getElem?_cons_zero, List.getElem?_cons_succ, srcs, List.length_cons, List.length_nil, List.replicate, bindT_name, bindT_2, bindT_3, bindT_nest, bindTs_nil, bindTs_cons, Nat.zero_add, Nat.reduceAdd, List.set_cons_zero, List.set_cons_succ, bin_add, bin_sub, cmp_gt, cmp_lt, cmp_ge, cmp_le, blt_int, blt_intb, blt_abs, blt_lenL, blt_lenT, blt_lenS, tr_bl, nt_bl, chn_bl, cmp_is, cmp_isnot, cmp_eq_int, cmp_ne_int, newLf0, newLt0, newT0, newLf1, newLt1, newT1, newLf2, newLt2, newT2, newLf3, newLt3, newT3, newLf4, newLt4, newT4, newLf5, newLt5, newT5, newLf6, newLt6, newT6, newLf7, newLt7, newT7, newLf8, newT8, newLf9, newT9, newLf10, newT10, newLf11, newT11, newLf12, newLf13, newLf14, newLf15, newLf16, pairsOf, keyOf, g__law_pick, strT]
  refine (w_any (k := k + 6) hm (by simp) (by simp) (by omega)).imp fun a S ⟨m1, ha, e, s1⟩ => ?_
  subst e
  have a1 : known a = true ∧ inB a 1 65535 = false := by
    simp only [List.mem_cons, List.not_mem_nil, or_false] at ha
    rcases ha with rfl | rfl | rfl | rfl | rfl <;> exact ⟨rfl, by decide +kernel⟩
  refine (w_any (k := k + 6) s1 (by simp) (by simp) (by omega)).imp fun b S ⟨m2, hb, e, s2⟩ => ?_
  subst e
  have b1 : known b = true ∧ inB b 0 1 = false := by
    simp only [List.mem_cons, List.not_mem_nil, or_false] at hb
    rcases hb with rfl | rfl | rfl | rfl | rfl | rfl <;> exact ⟨rfl, by decide +kernel⟩
  refine (w_any (k := k + 6) s2 (by simp) (by simp) (by omega)).imp fun c S ⟨m3, hc, e, s3⟩ => ?_
  subst e
  have c1 : known c = true ∧ inB c 1 65535 = false := by
    simp only [List.mem_cons, List.not_mem_nil, or_false] at hc
    rcases hc with rfl | rfl | rfl | rfl | rfl <;> exact ⟨rfl, by decide +kernel⟩
  clear ha hb hc
  try simp only [ws_cons, ws_raise, ws_try, wp_att, cat_int, rep_int, cat_tup, cat_lst, set1_some, set1_none, wipe1_some, wipe1_none, ev_clsv, ws_exp, ws_retN, ws_brk, ws_cont, ws_ite, ws_ret, ws_asg, ws_iset, ws_pass, wp_bin, wp_cat, wp_rep, wp_neg, wp_and, wp_or, wp_not, wp_ite, wp_cmp, wp_chn, wp_slc, evo_no, wp_osome, wp_callE, wp_idx, wp_blt, wp_tup, wp_lst, wp_dic, wps_cons, wps_star, st_lst, st_tup, evs_nil, wps_ok, wp_ok, ev_lit, ev_var, ev_glo, ev_tyv, sts_nil, ws_nx, List.map_cons, List.map_nil, List.cons_append, List.nil_append, List.append_nil, List.getElem?_cons_zero, List.getElem?_cons_succ, srcs, List.length_cons, List.length_nil, List.replicate, bindT_name, bindT_2, bindT_3, bindT_nest, bindTs_nil, bindTs_cons, Nat.zero_add, Nat.reduceAdd, List.set_cons_zero, List.set_cons_succ, bin_add, bin_sub, cmp_gt, cmp_lt, cmp_ge, cmp_le, blt_int, blt_intb, blt_abs, blt_lenL, blt_lenT, blt_lenS, tr_bl, nt_bl, chn_bl, cmp_is, cmp_isnot, cmp_eq_int, cmp_ne_int, newLf0, newLt0, newT0, newLf1, newLt1, newT1, newLf2, newLt2, newT2, newLf3, newLt3, newT3, newLf4, newLt4, newT4, newLf5, newLt5, newT5, newLf6, newLt6, newT6, newLf7, newLt7, newT7, newLf8, newT8, newLf9, newT9, newLf10, newT10, newLf11, newT11, newLf12, newLf13, newLf14, newLf15, newLf16, pairsOf, keyOf]
  have r15 : ∀ S, repD false (.lst [.int 0]) (.int 15) S = .ok (.lst (List.replicate 15 (.int 0))) S := fun S => rep_l (n := 15) rfl (by decide)
  have r16 : ∀ S, repD false (.lst [.int 0]) (.int 16) S = .ok (.lst ((List.replicate 16 (0 : Int)).map D.int)) S := fun S => by rw [List.map_replicate]; exact rep_l (n := 16) rfl (by decide)
  have r17 : ∀ S, repD false (.lst [.int 0]) (.int 17) S = .ok (.lst (List.replicate 17 (.int 0))) S := fun S => rep_l (n := 17) rfl (by decide)
  have rs : ∀ S, repD false (.str (T [48])) (.int 16) S = .ok (strT (List.replicate 16 48)) S := fun S => rep_str (n := 16) rfl (by decide) (by decide)
  have n1 : ∀ S, newL false [.int 65536, .int 0, .int 0, .int 0, .int 0, .int 0, .int 0, .int 0, .int 0, .int 0, .int 0, .int 0, .int 0, .int 0, .int 0, .int 0] S = .ok (.lst (.int 65536 :: List.replicate 15 (.int 0))) S := fun S => newL_f (small (by show 16 ≤ 100000; decide))
  have n2 : ∀ S, newL false [.bl true, .int 0, .int 0, .int 0, .int 0, .int 0, .int 0, .int 0, .int 0, .int 0, .int 0, .int 0, .int 0, .int 0, .int 0, .int 0] S = .ok (.lst (.bl true :: List.replicate 15 (.int 0))) S := fun S => newL_f (small (by show 16 ≤ 100000; decide))
  unfold b__law_refused_right_1
  simp only [ws_cons, ws_raise, ws_try, wp_att, cat_int, rep_int, cat_tup, cat_lst, set1_some, set1_none, wipe1_some, wipe1_none, ev_clsv, ws_exp, ws_retN, ws_brk, ws_cont, ws_ite, ws_ret, ws_asg, ws_iset, ws_pass, wp_bin, wp_cat, wp_rep, wp_neg, wp_and, wp_or, wp_not, wp_ite, wp_cmp, wp_chn, wp_slc, evo_no, wp_osome, wp_callE, wp_idx, wp_blt, wp_tup, wp_lst, wp_dic, wps_cons, wps_star, st_lst, st_tup, evs_nil, wps_ok, wp_ok, ev_lit, ev_var, ev_glo, ev_tyv, sts_nil, ws_nx, List.map_cons, List.map_nil, List.cons_append, List.nil_append, List.append_nil, List.getElem?_cons_zero, List.getElem?_cons_succ, srcs, List.length_cons, List.length_nil, List.replicate, bindT_name, bindT_2, bindT_3, bindT_nest, bindTs_nil, bindTs_cons, Nat.zero_add, Nat.reduceAdd, List.set_cons_zero, List.set_cons_succ, bin_add, bin_sub, cmp_gt, cmp_lt, cmp_ge, cmp_le, blt_int, blt_intb, blt_abs, blt_lenL, blt_lenT, blt_lenS, tr_bl, nt_bl, chn_bl, cmp_is, cmp_isnot, cmp_eq_int, cmp_ne_int, newLf0, newLt0, newT0, newLf1, newLt1, newT1, newLf2, newLt2, newT2, newLf3, newLt3, newT3, newLf4, newLt4, newT4, newLf5, newLt5, newT5, newLf6, newLt6, newT6, newLf7, newLt7, newT7, newLf8, newT8, newLf9, newT9, newLf10, newT10, newLf11, newT11, newLf12, newLf13, newLf14, newLf15, newLf16, pairsOf, keyOf, g__law_pick, r15, r16, r17, rs, n1, n2]
  refine (w_any (k := k + 6) s3 (by simp) (by simp) (by omega)).imp fun v S ⟨m4, hv, e, s4⟩ => ?_
  subst e
  have v1 : okSeq v ∧ blkD v = false := by
    simp only [List.mem_cons, List.not_mem_nil, or_false] at hv
    rcases hv with rfl | rfl | rfl | rfl | rfl | rfl | rfl <;> exact ⟨okq_of (by decide +kernel), by decide +kernel⟩
  clear hv
  have g0 : bB (List.replicate 16 0) := bB_rep (by decide) (by decide)
  have gi : itemsD zz = some ((List.replicate 16 (0 : Int)).map D.int) := rfl
  have gq : okSeq zz := seq_ints gi (by rw [List.length_replicate]; decide)
  have gb : blkD zz = true := blk_is gi g0.1 g0.2
  try simp only [ws_cons, ws_raise, ws_try, wp_att, cat_int, rep_int, cat_tup, cat_lst, set1_some, set1_none, wipe1_some, wipe1_none, ev_clsv, ws_exp, ws_retN, ws_brk, ws_cont, ws_ite, ws_ret, ws_asg, ws_iset, ws_pass, wp_bin, wp_cat, wp_rep, wp_neg, wp_and, wp_or, wp_not, wp_ite, wp_cmp, wp_chn, wp_slc, evo_no, wp_osome, wp_callE, wp_idx, wp_blt, wp_tup, wp_lst, wp_dic, wps_cons, wps_star, st_lst, st_tup, evs_nil, wps_ok, wp_ok, ev_lit, ev_var, ev_glo, ev_tyv, sts_nil, ws_nx, List.map_cons, List.map_nil, List.cons_append, List.nil_append, List.append_nil, List.getElem?_cons_zero, List.getElem?_cons_succ, srcs, List.length_cons, List.length_nil, List.replicate, bindT_name, bindT_2, bindT_3, bindT_nest, bindTs_nil, bindTs_cons, Nat.zero_add, Nat.reduceAdd, List.set_cons_zero, List.set_cons_succ, bin_add, bin_sub, cmp_gt, cmp_lt, cmp_ge, cmp_le, blt_int, blt_intb, blt_abs, blt_lenL, blt_lenT, blt_lenS, tr_bl, nt_bl, chn_bl, cmp_is, cmp_isnot, cmp_eq_int, cmp_ne_int, newLf0, newLt0, newT0, newLf1, newLt1, newT1, newLf2, newLt2, newT2, newLf3, newLt3, newT3, newLf4, newLt4, newT4, newLf5, newLt5, newT5, newLf6, newLt6, newT6, newLf7, newLt7, newT7, newLf8, newT8, newLf9, newT9, newLf10, newT10, newLf11, newT11, newLf12, newLf13, newLf14, newLf15, newLf16, pairsOf, keyOf]
  unfold b__law_refused_right_2
  simp only [ws_cons, ws_raise, ws_try, wp_att, cat_int, rep_int, cat_tup, cat_lst, set1_some, set1_none, wipe1_some, wipe1_none, ev_clsv, ws_exp, ws_retN, ws_brk, ws_cont, ws_ite, ws_ret, ws_asg, ws_iset, ws_pass, wp_bin, wp_cat, wp_rep, wp_neg, wp_and, wp_or, wp_not, wp_ite, wp_cmp, wp_chn, wp_slc, evo_no, wp_osome, wp_callE, wp_idx, wp_blt, wp_tup, wp_lst, wp_dic, wps_cons, wps_star, st_lst, st_tup, evs_nil, wps_ok, wp_ok, ev_lit, ev_var, ev_glo, ev_tyv, sts_nil, ws_nx, List.map_cons, List.map_nil, List.cons_append, List.nil_append, List.append_nil, List.getElem?_cons_zero, List.getElem?_cons_succ, srcs, List.length_cons, List.length_nil, List.replicate, bindT_name, bindT_2, bindT_3, bindT_nest, bindTs_nil, bindTs_cons, Nat.zero_add, Nat.reduceAdd, List.set_cons_zero, List.set_cons_succ, bin_add, bin_sub, cmp_gt, cmp_lt, cmp_ge, cmp_le, blt_int, blt_intb, blt_abs, blt_lenL, blt_lenT, blt_lenS, tr_bl, nt_bl, chn_bl, cmp_is, cmp_isnot, cmp_eq_int, cmp_ne_int, newLf0, newLt0, newT0, newLf1, newLt1, newT1, newLf2, newLt2, newT2, newLf3, newLt3, newT3, newLf4, newLt4, newT4, newLf5, newLt5, newT5, newLf6, newLt6, newT6, newLf7, newLt7, newT7, newLf8, newT8, newLf9, newT9, newLf10, newT10, newLf11, newT11, newLf12, newLf13, newLf14, newLf15, newLf16, pairsOf, keyOf, wp_lamE]
  have i1 : inB (.int 1) 1 65535 = true := by decide +kernel
  have i0 : inB (.int 0) 0 1 = true := by decide +kernel
  refine w_lheard (k := k + 6) ?_
  simp only [ws_cons, ws_raise, ws_try, wp_att, cat_int, rep_int, cat_tup, cat_lst, set1_some, set1_none, wipe1_some, wipe1_none, ev_clsv, ws_exp, ws_retN, ws_brk, ws_cont, ws_ite, ws_ret, ws_asg, ws_iset, ws_pass, wp_bin, wp_cat, wp_rep, wp_neg, wp_and, wp_or, wp_not, wp_ite, wp_cmp, wp_chn, wp_slc, evo_no, wp_osome, wp_callE, wp_idx, wp_blt, wp_tup, wp_lst, wp_dic, wps_cons, wps_star, st_lst, st_tup, evs_nil, wps_ok, wp_ok, ev_lit, ev_var, ev_glo, ev_tyv, sts_nil, ws_nx, List.map_cons, List.map_nil, List.cons_append, List.nil_append, List.append_nil, List.getElem?_cons_zero, List.getElem?_cons_succ, srcs, List.length_cons, List.length_nil, List.replicate, bindT_name, bindT_2, bindT_3, bindT_nest, bindTs_nil, bindTs_cons, Nat.zero_add, Nat.reduceAdd, List.set_cons_zero, List.set_cons_succ, bin_add, bin_sub, cmp_gt, cmp_lt, cmp_ge, cmp_le, blt_int, blt_intb, blt_abs, blt_lenL, blt_lenT, blt_lenS, tr_bl, nt_bl, chn_bl, cmp_is, cmp_isnot, cmp_eq_int, cmp_ne_int, newLf0, newLt0, newT0, newLf1, newLt1, newT1, newLf2, newLt2, newT2, newLf3, newLt3, newT3, newLf4, newLt4, newT4, newLf5, newLt5, newT5, newLf6, newLt6, newT6, newLf7, newLt7, newT7, newLf8, newT8, newLf9, newT9, newLf10, newT10, newLf11, newT11, newLf12, newLf13, newLf14, newLf15, newLf16, pairsOf, keyOf, Bool.not_true, Bool.not_false, Bool.true_eq_false, Bool.false_eq_true, false_implies, true_implies, and_true, true_and, forall_const, Bool.not_eq_true', Bool.not_eq_false', decide_eq_true_eq, decide_eq_false_iff_not, reduceCtorEq, Int.not_lt, Int.not_le, Nat.not_lt, Nat.not_le, and_self, implies_true, beq_iff_eq, beq_eq_false_iff_ne, ne_eq, g_head_block, low_eq]
  refine w_head_block (k := k + 2) a1.1 b1.1 c1.1 (fun e h f e1 e2 e3 z1 z2 z3 => ?_) (fun _ => ⟨rfl, .inl ⟨_, rfl, ?_⟩⟩) (fun z => ?_) fun z => ?_
  · rw [a1.2] at z1; cases z1
  rotate_left
  · rw [a1.2] at z; cases z
  · rw [a1.2] at z; cases z
  refine w_lheard (k := k + 6) ?_
  simp only [ws_cons, ws_raise, ws_try, wp_att, cat_int, rep_int, cat_tup, cat_lst, set1_some, set1_none, wipe1_some, wipe1_none, ev_clsv, ws_exp, ws_retN, ws_brk, ws_cont, ws_ite, ws_ret, ws_asg, ws_iset, ws_pass, wp_bin, wp_cat, wp_rep, wp_neg, wp_and, wp_or, wp_not, wp_ite, wp_cmp, wp_chn, wp_slc, evo_no, wp_osome, wp_callE, wp_idx, wp_blt, wp_tup, wp_lst, wp_dic, wps_cons, wps_star, st_lst, st_tup, evs_nil, wps_ok, wp_ok, ev_lit, ev_var, ev_glo, ev_tyv, sts_nil, ws_nx, List.map_cons, List.map_nil, List.cons_append, List.nil_append, List.append_nil, List.getElem?_cons_zero, List.getElem?_cons_succ, srcs, List.length_cons, List.length_nil, List.replicate, bindT_name, bindT_2, bindT_3, bindT_nest, bindTs_nil, bindTs_cons, Nat.zero_add, Nat.reduceAdd, List.set_cons_zero, List.set_cons_succ, bin_add, bin_sub, cmp_gt, cmp_lt, cmp_ge, cmp_le, blt_int, blt_intb, blt_abs, blt_lenL, blt_lenT, blt_lenS, tr_bl, nt_bl, chn_bl, cmp_is, cmp_isnot, cmp_eq_int, cmp_ne_int, newLf0, newLt0, newT0, newLf1, newLt1, newT1, newLf2, newLt2, newT2, newLf3, newLt3, newT3, newLf4, newLt4, newT4, newLf5, newLt5, newT5, newLf6, newLt6, newT6, newLf7, newLt7, newT7, newLf8, newT8, newLf9, newT9, newLf10, newT10, newLf11, newT11, newLf12, newLf13, newLf14, newLf15, newLf16, pairsOf, keyOf, Bool.not_true, Bool.not_false, Bool.true_eq_false, Bool.false_eq_true, false_implies, true_implies, and_true, true_and, forall_const, Bool.not_eq_true', Bool.not_eq_false', decide_eq_true_eq, decide_eq_false_iff_not, reduceCtorEq, Int.not_lt, Int.not_le, Nat.not_lt, Nat.not_le, and_self, implies_true, beq_iff_eq, beq_eq_false_iff_ne, ne_eq, g_head_block, low_eq]
  refine w_head_block (k := k + 2) (a := .int 1) rfl b1.1 c1.1 (fun e h f e1 e2 e3 z1 z2 z3 => ?_) (fun z => ?_) (fun _ z => ⟨rfl, .inl ⟨_, rfl, ?_⟩⟩) fun _ z => ?_
  · rw [b1.2] at z2; cases z2
  · rw [i1] at z; cases z
  rotate_left
  · rw [b1.2] at z; cases z
  refine w_lheard (k := k + 6) ?_
  simp only [ws_cons, ws_raise, ws_try, wp_att, cat_int, rep_int, cat_tup, cat_lst, set1_some, set1_none, wipe1_some, wipe1_none, ev_clsv, ws_exp, ws_retN, ws_brk, ws_cont, ws_ite, ws_ret, ws_asg, ws_iset, ws_pass, wp_bin, wp_cat, wp_rep, wp_neg, wp_and, wp_or, wp_not, wp_ite, wp_cmp, wp_chn, wp_slc, evo_no, wp_osome, wp_callE, wp_idx, wp_blt, wp_tup, wp_lst, wp_dic, wps_cons, wps_star, st_lst, st_tup, evs_nil, wps_ok, wp_ok, ev_lit, ev_var, ev_glo, ev_tyv, sts_nil, ws_nx, List.map_cons, List.map_nil, List.cons_append, List.nil_append, List.append_nil, List.getElem?_cons_zero, List.getElem?_cons_succ, srcs, List.length_cons, List.length_nil, List.replicate, bindT_name, bindT_2, bindT_3, bindT_nest, bindTs_nil, bindTs_cons, Nat.zero_add, Nat.reduceAdd, List.set_cons_zero, List.set_cons_succ, bin_add, bin_sub, cmp_gt, cmp_lt, cmp_ge, cmp_le, blt_int, blt_intb, blt_abs, blt_lenL, blt_lenT, blt_lenS, tr_bl, nt_bl, chn_bl, cmp_is, cmp_isnot, cmp_eq_int, cmp_ne_int, newLf0, newLt0, newT0, newLf1, newLt1, newT1, newLf2, newLt2, newT2, newLf3, newLt3, newT3, newLf4, newLt4, newT4, newLf5, newLt5, newT5, newLf6, newLt6, newT6, newLf7, newLt7, newT7, newLf8, newT8, newLf9, newT9, newLf10, newT10, newLf11, newT11, newLf12, newLf13, newLf14, newLf15, newLf16, pairsOf, keyOf, Bool.not_true, Bool.not_false, Bool.true_eq_false, Bool.false_eq_true, false_implies, true_implies, and_true, true_and, forall_const, Bool.not_eq_true', Bool.not_eq_false', decide_eq_true_eq, decide_eq_false_iff_not, reduceCtorEq, Int.not_lt, Int.not_le, Nat.not_lt, Nat.not_le, and_self, implies_true, beq_iff_eq, beq_eq_false_iff_ne, ne_eq, g_head_block, low_eq]
  refine w_head_block (k := k + 2) (a := .int 1) (b := .int 0) rfl rfl c1.1 (fun e h f e1 e2 e3 z1 z2 z3 => ?_) (fun z => ?_) (fun _ z => ?_) fun _ _ z => ⟨rfl, .inl ⟨_, rfl, ?_⟩⟩
  · rw [c1.2] at z3; cases z3
  · rw [i1] at z; cases z
  · rw [i0] at z; cases z
  try simp only [ws_cons, ws_raise, ws_try, wp_att, cat_int, rep_int, cat_tup, cat_lst, set1_some, set1_none, wipe1_some, wipe1_none, ev_clsv, ws_exp, ws_retN, ws_brk, ws_cont, ws_ite, ws_ret, ws_asg, ws_iset, ws_pass, wp_bin, wp_cat, wp_rep, wp_neg, wp_and, wp_or, wp_not, wp_ite, wp_cmp, wp_chn, wp_slc, evo_no, wp_osome, wp_callE, wp_idx, wp_blt, wp_tup, wp_lst, wp_dic, wps_cons, wps_star, st_lst, st_tup, evs_nil, wps_ok, wp_ok, ev_lit, ev_var, ev_glo, ev_tyv, sts_nil, ws_nx, List.map_cons, List.map_nil, List.cons_append, List.nil_append, List.append_nil, List.getElem?_cons_zero, List.getElem?_cons_succ, srcs, List.length_cons, List.length_nil, List.replicate, bindT_name, bindT_2, bindT_3, bindT_nest, bindTs_nil, bindTs_cons, Nat.zero_add, Nat.reduceAdd, List.set_cons_zero, List.set_cons_succ, bin_add, bin_sub, cmp_gt, cmp_lt, cmp_ge, cmp_le, blt_int, blt_intb, blt_abs, blt_lenL, blt_lenT, blt_lenS, tr_bl, nt_bl, chn_bl, cmp_is, cmp_isnot, cmp_eq_int, cmp_ne_int, newLf0, newLt0, newT0, newLf1, newLt1, newT1, newLf2, newLt2, newT2, newLf3, newLt3, newT3, newLf4, newLt4, newT4, newLf5, newLt5, newT5, newLf6, newLt6, newT6, newLf7, newLt7, newT7, newLf8, newT8, newLf9, newT9, newLf10, newT10, newLf11, newT11, newLf12, newLf13, newLf14, newLf15, newLf16, pairsOf, keyOf]
  unfold b__law_refused_right_3
  simp only [ws_cons, ws_raise, ws_try, wp_att, cat_int, rep_int, cat_tup, cat_lst, set1_some, set1_none, wipe1_some, wipe1_none, ev_clsv, ws_exp, ws_retN, ws_brk, ws_cont, ws_ite, ws_ret, ws_asg, ws_iset, ws_pass, wp_bin, wp_cat, wp_rep, wp_neg, wp_and, wp_or, wp_not, wp_ite, wp_cmp, wp_chn, wp_slc, evo_no, wp_osome, wp_callE, wp_idx, wp_blt, wp_tup, wp_lst, wp_dic, wps_cons, wps_star, st_lst, st_tup, evs_nil, wps_ok, wp_ok, ev_lit, ev_var, ev_glo, ev_tyv, sts_nil, ws_nx, List.map_cons, List.map_nil, List.cons_append, List.nil_append, List.append_nil, List.getElem?_cons_zero, List.getElem?_cons_succ, srcs, List.length_cons, List.length_nil, List.replicate, bindT_name, bindT_2, bindT_3, bindT_nest, bindTs_nil, bindTs_cons, Nat.zero_add, Nat.reduceAdd, List.set_cons_zero, List.set_cons_succ, bin_add, bin_sub, cmp_gt, cmp_lt, cmp_ge, cmp_le, blt_int, blt_intb, blt_abs, blt_lenL, blt_lenT, blt_lenS, tr_bl, nt_bl, chn_bl, cmp_is, cmp_isnot, cmp_eq_int, cmp_ne_int, newLf0, newLt0, newT0, newLf1, newLt1, newT1, newLf2, newLt2, newT2, newLf3, newLt3, newT3, newLf4, newLt4, newT4, newLf5, newLt5, newT5, newLf6, newLt6, newT6, newLf7, newLt7, newT7, newLf8, newT8, newLf9, newT9, newLf10, newT10, newLf11, newT11, newLf12, newLf13, newLf14, newLf15, newLf16, pairsOf, keyOf, wp_lamE]
  refine w_lheard (k := k + 6) ?_
  simp only [ws_cons, ws_raise, ws_try, wp_att, cat_int, rep_int, cat_tup, cat_lst, set1_some, set1_none, wipe1_some, wipe1_none, ev_clsv, ws_exp, ws_retN, ws_brk, ws_cont, ws_ite, ws_ret, ws_asg, ws_iset, ws_pass, wp_bin, wp_cat, wp_rep, wp_neg, wp_and, wp_or, wp_not, wp_ite, wp_cmp, wp_chn, wp_slc, evo_no, wp_osome, wp_callE, wp_idx, wp_blt, wp_tup, wp_lst, wp_dic, wps_cons, wps_star, st_lst, st_tup, evs_nil, wps_ok, wp_ok, ev_lit, ev_var, ev_glo, ev_tyv, sts_nil, ws_nx, List.map_cons, List.map_nil, List.cons_append, List.nil_append, List.append_nil, List.getElem?_cons_zero, List.getElem?_cons_succ, srcs, List.length_cons, List.length_nil, List.replicate, bindT_name, bindT_2, bindT_3, bindT_nest, bindTs_nil, bindTs_cons, Nat.zero_add, Nat.reduceAdd, List.set_cons_zero, List.set_cons_succ, bin_add, bin_sub, cmp_gt, cmp_lt, cmp_ge, cmp_le, blt_int, blt_intb, blt_abs, blt_lenL, blt_lenT, blt_lenS, tr_bl, nt_bl, chn_bl, cmp_is, cmp_isnot, cmp_eq_int, cmp_ne_int, newLf0, newLt0, newT0, newLf1, newLt1, newT1, newLf2, newLt2, newT2, newLf3, newLt3, newT3, newLf4, newLt4, newT4, newLf5, newLt5, newT5, newLf6, newLt6, newT6, newLf7, newLt7, newT7, newLf8, newT8, newLf9, newT9, newLf10, newT10, newLf11, newT11, newLf12, newLf13, newLf14, newLf15, newLf16, pairsOf, keyOf, Bool.not_true, Bool.not_false, Bool.true_eq_false, Bool.false_eq_true, false_implies, true_implies, and_true, true_and, forall_const, Bool.not_eq_true', Bool.not_eq_false', decide_eq_true_eq, decide_eq_false_iff_not, reduceCtorEq, Int.not_lt, Int.not_le, Nat.not_lt, Nat.not_le, and_self, implies_true, beq_iff_eq, beq_eq_false_iff_ne, ne_eq, g_read_heads, low_eq]
  refine w_read_heads (k := k) v1.1 v1.1 (fun l r q1 q2 q3 q4 z1 z2 => ?_) (fun _ => ⟨rfl, .inr ⟨_, rfl, ?_⟩⟩) fun z => ?_
  · rw [v1.2] at z1; cases z1
  rotate_left
  · rw [v1.2] at z; cases z
  refine w_lheard (k := k + 6) ?_
  simp only [ws_cons, ws_raise, ws_try, wp_att, cat_int, rep_int, cat_tup, cat_lst, set1_some, set1_none, wipe1_some, wipe1_none, ev_clsv, ws_exp, ws_retN, ws_brk, ws_cont, ws_ite, ws_ret, ws_asg, ws_iset, ws_pass, wp_bin, wp_cat, wp_rep, wp_neg, wp_and, wp_or, wp_not, wp_ite, wp_cmp, wp_chn, wp_slc, evo_no, wp_osome, wp_callE, wp_idx, wp_blt, wp_tup, wp_lst, wp_dic, wps_cons, wps_star, st_lst, st_tup, evs_nil, wps_ok, wp_ok, ev_lit, ev_var, ev_glo, ev_tyv, sts_nil, ws_nx, List.map_cons, List.map_nil, List.cons_append, List.nil_append, List.append_nil, List.getElem?_cons_zero, List.getElem?_cons_succ, srcs, List.length_cons, List.length_nil, List.replicate, bindT_name, bindT_2, bindT_3, bindT_nest, bindTs_nil, bindTs_cons, Nat.zero_add, Nat.reduceAdd, List.set_cons_zero, List.set_cons_succ, bin_add, bin_sub, cmp_gt, cmp_lt, cmp_ge, cmp_le, blt_int, blt_intb, blt_abs, blt_lenL, blt_lenT, blt_lenS, tr_bl, nt_bl, chn_bl, cmp_is, cmp_isnot, cmp_eq_int, cmp_ne_int, newLf0, newLt0, newT0, newLf1, newLt1, newT1, newLf2, newLt2, newT2, newLf3, newLt3, newT3, newLf4, newLt4, newT4, newLf5, newLt5, newT5, newLf6, newLt6, newT6, newLf7, newLt7, newT7, newLf8, newT8, newLf9, newT9, newLf10, newT10, newLf11, newT11, newLf12, newLf13, newLf14, newLf15, newLf16, pairsOf, keyOf, Bool.not_true, Bool.not_false, Bool.true_eq_false, Bool.false_eq_true, false_implies, true_implies, and_true, true_and, forall_const, Bool.not_eq_true', Bool.not_eq_false', decide_eq_true_eq, decide_eq_false_iff_not, reduceCtorEq, Int.not_lt, Int.not_le, Nat.not_lt, Nat.not_le, and_self, implies_true, beq_iff_eq, beq_eq_false_iff_ne, ne_eq, g_read_heads, low_eq]
  refine w_read_heads (k := k) gq v1.1 (fun l r q1 q2 q3 q4 z1 z2 => ?_) (fun z => ?_) fun _ z => ⟨rfl, .inr ⟨_, rfl, ?_⟩⟩
  · rw [v1.2] at z2; cases z2
  · rw [gb] at z; cases z
  refine w_lheard (k := k + 6) ?_
  simp only [ws_cons, ws_raise, ws_try, wp_att, cat_int, rep_int, cat_tup, cat_lst, set1_some, set1_none, wipe1_some, wipe1_none, ev_clsv, ws_exp, ws_retN, ws_brk, ws_cont, ws_ite, ws_ret, ws_asg, ws_iset, ws_pass, wp_bin, wp_cat, wp_rep, wp_neg, wp_and, wp_or, wp_not, wp_ite, wp_cmp, wp_chn, wp_slc, evo_no, wp_osome, wp_callE, wp_idx, wp_blt, wp_tup, wp_lst, wp_dic, wps_cons, wps_star, st_lst, st_tup, evs_nil, wps_ok, wp_ok, ev_lit, ev_var, ev_glo, ev_tyv, sts_nil, ws_nx, List.map_cons, List.map_nil, List.cons_append, List.nil_append, List.append_nil, List.getElem?_cons_zero, List.getElem?_cons_succ, srcs, List.length_cons, List.length_nil, List.replicate, bindT_name, bindT_2, bindT_3, bindT_nest, bindTs_nil, bindTs_cons, Nat.zero_add, Nat.reduceAdd, List.set_cons_zero, List.set_cons_succ, bin_add, bin_sub, cmp_gt, cmp_lt, cmp_ge, cmp_le, blt_int, blt_intb, blt_abs, blt_lenL, blt_lenT, blt_lenS, tr_bl, nt_bl, chn_bl, cmp_is, cmp_isnot, cmp_eq_int, cmp_ne_int, newLf0, newLt0, newT0, newLf1, newLt1, newT1, newLf2, newLt2, newT2, newLf3, newLt3, newT3, newLf4, newLt4, newT4, newLf5, newLt5, newT5, newLf6, newLt6, newT6, newLf7, newLt7, newT7, newLf8, newT8, newLf9, newT9, newLf10, newT10, newLf11, newT11, newLf12, newLf13, newLf14, newLf15, newLf16, pairsOf, keyOf, Bool.not_true, Bool.not_false, Bool.true_eq_false, Bool.false_eq_true, false_implies, true_implies, and_true, true_and, forall_const, Bool.not_eq_true', Bool.not_eq_false', decide_eq_true_eq, decide_eq_false_iff_not, reduceCtorEq, Int.not_lt, Int.not_le, Nat.not_lt, Nat.not_le, and_self, implies_true, beq_iff_eq, beq_eq_false_iff_ne, ne_eq, g_read_heads, low_eq]
  refine w_read_heads (k := k) gq gq (fun l r q1 q2 q3 q4 z1 z2 => ⟨rfl, ?_⟩) (fun z => ?_) fun _ z => ?_
  rotate_left
  · rw [gb] at z; cases z
  · rw [gb] at z; cases z
  try simp only [ws_cons, ws_raise, ws_try, wp_att, cat_int, rep_int, cat_tup, cat_lst, set1_some, set1_none, wipe1_some, wipe1_none, ev_clsv, ws_exp, ws_retN, ws_brk, ws_cont, ws_ite, ws_ret, ws_asg, ws_iset, ws_pass, wp_bin, wp_cat, wp_rep, wp_neg, wp_and, wp_or, wp_not, wp_ite, wp_cmp, wp_chn, wp_slc, evo_no, wp_osome, wp_callE, wp_idx, wp_blt, wp_tup, wp_lst, wp_dic, wps_cons, wps_star, st_lst, st_tup, evs_nil, wps_ok, wp_ok, ev_lit, ev_var, ev_glo, ev_tyv, sts_nil, ws_nx, List.map_cons, List.map_nil, List.cons_append, List.nil_append, List.append_nil, List.getElem?_cons_zero, List.getElem?_cons_succ, srcs, List.length_cons, List.length_nil, List.replicate, bindT_name, bindT_2, bindT_3, bindT_nest, bindTs_nil, bindTs_cons, Nat.zero_add, Nat.reduceAdd, List.set_cons_zero, List.set_cons_succ, bin_add, bin_sub, cmp_gt, cmp_lt, cmp_ge, cmp_le, blt_int, blt_intb, blt_abs, blt_lenL, blt_lenT, blt_lenS, tr_bl, nt_bl, chn_bl, cmp_is, cmp_isnot, cmp_eq_int, cmp_ne_int, newLf0, newLt0, newT0, newLf1, newLt1, newT1, newLf2, newLt2, newT2, newLf3, newLt3, newT3, newLf4, newLt4, newT4, newLf5, newLt5, newT5, newLf6, newLt6, newT6, newLf7, newLt7, newT7, newLf8, newT8, newLf9, newT9, newLf10, newT10, newLf11, newT11, newLf12, newLf13, newLf14, newLf15, newLf16, pairsOf, keyOf]
  unfold b__law_refused_right_4
  simp only [ws_cons, ws_raise, ws_try, wp_att, cat_int, rep_int, cat_tup, cat_lst, set1_some, set1_none, wipe1_some, wipe1_none, ev_clsv, ws_exp, ws_retN, ws_brk, ws_cont, ws_ite, ws_ret, ws_asg, ws_iset, ws_pass, wp_bin, wp_cat, wp_rep, wp_neg, wp_and, wp_or, wp_not, wp_ite, wp_cmp, wp_chn, wp_slc, evo_no, wp_osome, wp_callE, wp_idx, wp_blt, wp_tup, wp_lst, wp_dic, wps_cons, wps_star, st_lst, st_tup, evs_nil, wps_ok, wp_ok, ev_lit, ev_var, ev_glo, ev_tyv, sts_nil, ws_nx, List.map_cons, List.map_nil, List.cons_append, List.nil_append, List.append_nil, List.getElem?_cons_zero, List.getElem?_cons_succ, srcs, List.length_cons, List.length_nil, List.replicate, bindT_name, bindT_2, bindT_3, bindT_nest, bindTs_nil, bindTs_cons, Nat.zero_add, Nat.reduceAdd, List.set_cons_zero, List.set_cons_succ, bin_add, bin_sub, cmp_gt, cmp_lt, cmp_ge, cmp_le, blt_int, blt_intb, blt_abs, blt_lenL, blt_lenT, blt_lenS, tr_bl, nt_bl, chn_bl, cmp_is, cmp_isnot, cmp_eq_int, cmp_ne_int, newLf0, newLt0, newT0, newLf1, newLt1, newT1, newLf2, newLt2, newT2, newLf3, newLt3, newT3, newLf4, newLt4, newT4, newLf5, newLt5, newT5, newLf6, newLt6, newT6, newLf7, newLt7, newT7, newLf8, newT8, newLf9, newT9, newLf10, newT10, newLf11, newT11, newLf12, newLf13, newLf14, newLf15, newLf16, pairsOf, keyOf, tNumber, tBlock]
  have hd : dat (.lst [.tup [tNumber, tEpoch], .tup [tNumber, tHalf], .tup [tNumber, tFirst], .tup [tBlock, tOne], .tup [tBlock, tOther], .non]) 3 = true := by decide +kernel
  have he : cmpD .Eq (.lst [.tup [tNumber, tEpoch], .tup [tNumber, tHalf], .tup [tNumber, tFirst], .tup [tBlock, tOne], .tup [tBlock, tOther], .non]) (.lst [.tup [tNumber, tEpoch], .tup [tNumber, tHalf], .tup [tNumber, tFirst], .tup [tBlock, tOne], .tup [tBlock, tOther], .non]) (m4 :: R) = .ok (.bl true) (m4 :: R) := by
    rw [cmp_eq hd hd (by decide) (by decide)]
    congr 1
  unfold tNumber tBlock at he
  rw [he, wp_ok]
  split <;> rfl
end LW
set_option maxHeartbeats 2000000
namespace LW
open PySem PySem.Spec PD
variable {k B : Nat} {S G : Store} {d e s : D} {m : MO} {x2 x3 x4 x5 x6 x7 x8 x9 : Option D}
theorem hold_b {a b : List Int} (ha : bB a) (hb : bB b) : (0 ≤ (hold (toldL a) (toldL b)).1 ∧ (hold (toldL a) (toldL b)).1 ≤ 65535) ∧ (0 ≤ (hold (toldL a) (toldL b)).2.1 ∧ (hold (toldL a) (toldL b)).2.1 ≤ 65535) ∧ (0 ≤ (hold (toldL a) (toldL b)).2.2 ∧ (hold (toldL a) (toldL b)).2.2 ≤ 65535) := by
  have tb : ∀ {l : List Int} {x : Int × Int × Int}, bB l → toldL l = some x → (0 ≤ x.1 ∧ x.1 ≤ 65535) ∧ (0 ≤ x.2.1 ∧ x.2.1 ≤ 65535) ∧ (0 ≤ x.2.2 ∧ x.2.2 ≤ 65535) := fun {l x} hb h0 => by
    obtain ⟨h16, hb⟩ := hb
    match l, h16, hb, h0 with
    | a :: e :: h :: f :: r, _, hb, hh =>
      have tl : toldL (a :: e :: h :: f :: r) = if e = 0 ∨ 2 ≤ h ∨ f = 0 ∨ (a :: e :: h :: f :: r) ≠ hd e h f then none else some (e, h, f) := rfl
      rw [tl] at hh
      split at hh
      · cases hh
      · cases hh
        exact ⟨hb e (by simp), hb h (by simp), hb f (by simp)⟩
  unfold hold
  split
  · decide
  · rename_i x h1 h2; exact tb ha h1
  · rename_i y h1 h2; exact tb hb h2
  · rename_i x y h1 h2
    split
    · exact tb hb h2
    · exact tb ha h1
theorem repr_trip {x : Int × Int × Int} {mm : Bool} (h : (0 ≤ x.1 ∧ x.1 ≤ 65535) ∧ (0 ≤ x.2.1 ∧ x.2.1 ≤ 65535) ∧ (0 ≤ x.2.2 ∧ x.2.2 ≤ 65535)) : bltD .repr mm [tripD x] S = .ok (.str (PyData.shown (.tuple (pdL ([x.1, x.2.1, x.2.2].map D.int))))) S :=
  repr_ints (l := [x.1, x.2.1, x.2.2]) (by show 3 ≤ 1000; decide) fun i hi => by
    simp only [List.mem_cons, List.not_mem_nil, or_false] at hi
    omega
theorem cmp_trip {x : Int × Int × Int} : cmpD .NotEq (tripD x) (tripD x) S = .ok (.bl false) S := by
  have := cmp_tupI (S := S) (a := [x.1, x.2.1, x.2.2]) (b := [x.1, x.2.1, x.2.2])
  rw [decide_eq_true rfl] at this
  exact this
def Lx (s : D) (B : Nat) (ρ : Env') (S : Store) : Prop := ∃ (m : MO) (G : Store) (x2 x3 x4 x5 x6 x7 x8 x9 : Option D), ρ = [some s, some (.ref 0), x2, x3, x4, x5, x6, x7, x8, x9] ∧ S = m :: G ∧ Sat B m
/-- two blocks, fixed by now -/
theorem w_read {a b : List Int} (ha : bB a) (hb : bB b) (hm : Sat B m) : Ws (sts (callK P (k + 6)) b_law_1f_5 [some s, some (.ref 0), x2, x3, x4, x5, x6, x7, some (.lst (a.map D.int)), some (.lst (b.map D.int))] (m :: G)) { nx := Lx s B } := by
  have la : (a.map D.int).length ≤ 100000 := by rw [List.length_map, ha.1]; decide
  have lb : (b.map D.int).length ≤ 100000 := by rw [List.length_map, hb.1]; decide
  have tb : ∀ S, bltD .tuple false [.lst (b.map D.int)] S = .ok (.tup (b.map D.int)) S := fun S => blt_tuple_l lb
  have ta : ∀ S, bltD .list false [.lst (a.map D.int)] S = .ok (.lst (a.map D.int)) S := fun S => list_of (d := .lst (a.map D.int)) rfl la
  have h1 : ∀ S, callK P (k + 6) i_read_heads [.lst (a.map D.int), .tup (b.map D.int)] S = .ok (tripD (hold (toldL a) (toldL b))) S := fun S => c_read_heads (k := k) (a := .lst (a.map D.int)) (b := .tup (b.map D.int)) rfl rfl ha hb
  have h2 : ∀ S, callK P (k + 6) i_read_heads [.lst (a.map D.int), .lst (b.map D.int)] S = .ok (tripD (hold (toldL a) (toldL b))) S := fun S => c_read_heads (k := k) (a := .lst (a.map D.int)) (b := .lst (b.map D.int)) rfl rfl ha hb
  have h3 : ∀ S, callK P (k + 6) i__law_due [.lst (a.map D.int), .lst (b.map D.int)] S = .ok (tripD (hold (toldL a) (toldL b))) S := fun S => c_due (k := k + 4) (a := .lst (a.map D.int)) (b := .lst (b.map D.int)) rfl rfl ha hb
  have hd : dat (.lst [.lst (a.map D.int), .tup (b.map D.int)]) 2 = true := by
    show (datL (a.map D.int) 0 && (datL (b.map D.int) 0 && true)) = true
    rw [datL_ints, datL_ints]; rfl
  have cs : ∀ S, cmpD .NotEq (.lst [.lst (a.map D.int), .tup (b.map D.int)]) (.lst [.lst (a.map D.int), .tup (b.map D.int)]) S = .ok (.bl false) S := fun S => by
    rw [cmp_ne hd hd (by decide) (by decide)]
    show EOut.ok (.bl (!PyData.eqv (.list [.list (pdL (a.map D.int)), .tuple (pdL (b.map D.int))]) (.list [.list (pdL (a.map D.int)), .tuple (pdL (b.map D.int))]))) S = _
    rw [eqv_list, eqvAll_cons, eqvAll_cons, eqvAll_nil, eqv_list, eqv_tuple, eqvAll_ints, eqvAll_ints, decide_eq_true rfl, decide_eq_true rfl]
    rfl
  unfold b_law_1f_5
  simp only [ws_cons, ws_raise, ws_try, wp_att, cat_int, rep_int, cat_tup, cat_lst, set1_some, set1_none, wipe1_some, wipe1_none, ev_clsv, ws_exp, ws_retN, ws_brk, ws_cont, ws_ite, ws_ret, ws_asg, ws_iset, ws_pass, wp_bin, wp_cat, wp_rep, wp_neg, wp_and, wp_or, wp_not, wp_ite, wp_cmp, wp_chn, wp_slc, evo_no, wp_osome, wp_callE, wp_idx, wp_blt, wp_tup, wp_lst, wp_dic, wps_cons, wps_star, st_lst, st_tup, evs_nil, wps_ok, wp_ok, ev_lit, ev_var, ev_glo, ev_tyv, sts_nil, ws_nx, List.map_cons, List.map_nil, List.cons_append, List.nil_append, List.append_nil, List.getElem?_cons_zero, List.getElem?_cons_succ, srcs, List.length_cons, List.length_nil, List.replicate, bindT_name, bindT_2, bindT_3, bindT_nest, bindTs_nil, bindTs_cons, Nat.zero_add, Nat.reduceAdd, List.set_cons_zero, List.set_cons_succ, bin_add, bin_sub, cmp_gt, cmp_lt, cmp_ge, cmp_le, blt_int, blt_intb, blt_abs, blt_lenL, blt_lenT, blt_lenS, tr_bl, nt_bl, chn_bl, cmp_is, cmp_isnot, cmp_eq_int, cmp_ne_int, newLf0, newLt0, newT0, newLf1, newLt1, newT1, newLf2, newLt2, newT2, newLf3, newLt3, newT3, newLf4, newLt4, newT4, newLf5, newLt5, newT5, newLf6, newLt6, newT6, newLf7, newLt7, newT7, newLf8, newT8, newLf9, newT9, newLf10, newT10, newLf11, newT11, newLf12, newLf13, newLf14, newLf15, newLf16, pairsOf, keyOf, ta, tb]
  unfold b_law_1f_6 b_law_1f_6t b_law_1f_7 b_law_1f_7t
  simp only [ws_cons, ws_raise, ws_try, wp_att, cat_int, rep_int, cat_tup, cat_lst, set1_some, set1_none, wipe1_some, wipe1_none, ev_clsv, ws_exp, ws_retN, ws_brk, ws_cont, ws_ite, ws_ret, ws_asg, ws_iset, ws_pass, wp_bin, wp_cat, wp_rep, wp_neg, wp_and, wp_or, wp_not, wp_ite, wp_cmp, wp_chn, wp_slc, evo_no, wp_osome, wp_callE, wp_idx, wp_blt, wp_tup, wp_lst, wp_dic, wps_cons, wps_star, st_lst, st_tup, evs_nil, wps_ok, wp_ok, ev_lit, ev_var, ev_glo, ev_tyv, sts_nil, ws_nx, List.map_cons, List.map_nil, List.cons_append, List.nil_append, List.append_nil, List.getElem?_cons_zero, List.getElem?_cons_succ, srcs, List.length_cons, List.length_nil, List.replicate, bindT_name, bindT_2, bindT_3, bindT_nest, bindTs_nil, bindTs_cons, Nat.zero_add, Nat.reduceAdd, List.set_cons_zero, List.set_cons_succ, bin_add, bin_sub, cmp_gt, cmp_lt, cmp_ge, cmp_le, blt_int, blt_intb, blt_abs, blt_lenL, blt_lenT, blt_lenS, tr_bl, nt_bl, chn_bl, cmp_is, cmp_isnot, cmp_eq_int, cmp_ne_int, newLf0, newLt0, newT0, newLf1, newLt1, newT1, newLf2, newLt2, newT2, newLf3, newLt3, newT3, newLf4, newLt4, newT4, newLf5, newLt5, newT5, newLf6, newLt6, newT6, newLf7, newLt7, newT7, newLf8, newT8, newLf9, newT9, newLf10, newT10, newLf11, newT11, newLf12, newLf13, newLf14, newLf15, newLf16, pairsOf, keyOf, Bool.not_true, Bool.not_false, Bool.true_eq_false, Bool.false_eq_true, false_implies, true_implies, and_true, true_and, forall_const, Bool.not_eq_true', Bool.not_eq_false', decide_eq_true_eq, decide_eq_false_iff_not, reduceCtorEq, Int.not_lt, Int.not_le, Nat.not_lt, Nat.not_le, and_self, implies_true, beq_iff_eq, beq_eq_false_iff_ne, ne_eq, idx_lst idx0, idx_lst idx1, g_read_heads, g_read_heads_0_other_one, g__law_due, h1, h2, h3, repr_trip (hold_b ha hb), cmp_strN, decide_true, Bool.not_true, tb, cs, cmp_trip]
  exact ⟨m, G, _, _, _, _, _, _, _, _, rfl, rfl, hm⟩
theorem w_turn (hm : Sat B m) (hB : B + 100 < 2 ^ 20) : Ws (sts (callK P (k + 6)) b_law_1f [some s, some (.ref 0), x2, x3, x4, x5, x6, x7, x8, x9] (m :: G)) { nx := Lx s (B + 30) } := by
  unfold b_law_1f
  simp only [ws_cons, ws_raise, ws_try, wp_att, cat_int, rep_int, cat_tup, cat_lst, set1_some, set1_none, wipe1_some, wipe1_none, ev_clsv, ws_exp, ws_retN, ws_brk, ws_cont, ws_ite, ws_ret, ws_asg, ws_iset, ws_pass, wp_bin, wp_cat, wp_rep, wp_neg, wp_and, wp_or, wp_not, wp_ite, wp_cmp, wp_chn, wp_slc, evo_no, wp_osome, wp_callE, wp_idx, wp_blt, wp_tup, wp_lst, wp_dic, wps_cons, wps_star, st_lst, st_tup, evs_nil, wps_ok, wp_ok, ev_lit, ev_var, ev_glo, ev_tyv, sts_nil, ws_nx, List.map_cons, List.map_nil, List.cons_append, List.nil_append, List.append_nil, List.getElem?_cons_zero, List.getElem?_cons_succ, srcs, List.length_cons, List.length_nil, List.replicate, bindT_name, bindT_2, bindT_3, bindT_nest, bindTs_nil, bindTs_cons, Nat.zero_add, Nat.reduceAdd, List.set_cons_zero, List.set_cons_succ, bin_add, bin_sub, cmp_gt, cmp_lt, cmp_ge, cmp_le, blt_int, blt_intb, blt_abs, blt_lenL, blt_lenT, blt_lenS, tr_bl, nt_bl, chn_bl, cmp_is, cmp_isnot, cmp_eq_int, cmp_ne_int, newLf0, newLt0, newT0, newLf1, newLt1, newT1, newLf2, newLt2, newT2, newLf3, newLt3, newT3, newLf4, newLt4, newT4, newLf5, newLt5, newT5, newLf6, newLt6, newT6, newLf7, newLt7, newT7, newLf8, newT8, newLf9, newT9, newLf10, newT10, newLf11, newT11, newLf12, newLf13, newLf14, newLf15, newLf16, pairsOf, keyOf, g__law_told]
  refine (w_told (k := k + 3) hm (by omega)).imp fun d S ⟨e, h, f, m1, ed, be, bh, bf, e2, s1⟩ => ?_
  subst ed e2
  have hb : ∀ S, callK P (k + 6) i_head_block [.int e, .int h, .int f] S = .ok (tupI (hd e h f)) S := fun S => c_head_block (k := k + 2) be bh bf
  have bb := bB_hd be bh bf
  have r12 : ∀ S, repD false (.tup [.int 0]) (.int 12) S = .ok (.tup [.int 0, .int 0, .int 0, .int 0, .int 0, .int 0, .int 0, .int 0, .int 0, .int 0, .int 0, .int 0]) S := fun S => rep_t (n := 12) rfl (by decide) (by decide)
  have nT : ∀ S, newT [.int 7, .int e, .int h, .int f, .int 0, .int 0, .int 0, .int 0, .int 0, .int 0, .int 0, .int 0, .int 0, .int 0, .int 0, .int 0] S = .ok (tupI (hd e h f)) S := fun S => newT_ok (small (by show 16 ≤ 100000; decide))
  have rp : ∀ S, bltD .repr false [tupI (hd e h f)] S = .ok (.str (PyData.shown (.tuple (pdL ((hd e h f).map D.int))))) S := fun S => repr_ints (by show 16 ≤ 1000; decide) fun i hi => by have := bb.2 i hi; omega
  have cn : ∀ S, cmpD .NotEq (tupI (hd e h f)) (tupI (hd e h f)) S = .ok (.bl false) S := fun S => by rw [cmp_tupI, decide_eq_true rfl]; rfl
  try simp only [ws_cons, ws_raise, ws_try, wp_att, cat_int, rep_int, cat_tup, cat_lst, set1_some, set1_none, wipe1_some, wipe1_none, ev_clsv, ws_exp, ws_retN, ws_brk, ws_cont, ws_ite, ws_ret, ws_asg, ws_iset, ws_pass, wp_bin, wp_cat, wp_rep, wp_neg, wp_and, wp_or, wp_not, wp_ite, wp_cmp, wp_chn, wp_slc, evo_no, wp_osome, wp_callE, wp_idx, wp_blt, wp_tup, wp_lst, wp_dic, wps_cons, wps_star, st_lst, st_tup, evs_nil, wps_ok, wp_ok, ev_lit, ev_var, ev_glo, ev_tyv, sts_nil, ws_nx, List.map_cons, List.map_nil, List.cons_append, List.nil_append, List.append_nil, List.getElem?_cons_zero, List.getElem?_cons_succ, srcs, List.length_cons, List.length_nil, List.replicate, bindT_name, bindT_2, bindT_3, bindT_nest, bindTs_nil, bindTs_cons, Nat.zero_add, Nat.reduceAdd, List.set_cons_zero, List.set_cons_succ]
  unfold b_law_1f_1
  simp only [ws_cons, ws_raise, ws_try, wp_att, cat_int, rep_int, cat_tup, cat_lst, set1_some, set1_none, wipe1_some, wipe1_none, ev_clsv, ws_exp, ws_retN, ws_brk, ws_cont, ws_ite, ws_ret, ws_asg, ws_iset, ws_pass, wp_bin, wp_cat, wp_rep, wp_neg, wp_and, wp_or, wp_not, wp_ite, wp_cmp, wp_chn, wp_slc, evo_no, wp_osome, wp_callE, wp_idx, wp_blt, wp_tup, wp_lst, wp_dic, wps_cons, wps_star, st_lst, st_tup, evs_nil, wps_ok, wp_ok, ev_lit, ev_var, ev_glo, ev_tyv, sts_nil, ws_nx, List.map_cons, List.map_nil, List.cons_append, List.nil_append, List.append_nil, List.getElem?_cons_zero, List.getElem?_cons_succ, srcs, List.length_cons, List.length_nil, List.replicate, bindT_name, bindT_2, bindT_3, bindT_nest, bindTs_nil, bindTs_cons, Nat.zero_add, Nat.reduceAdd, List.set_cons_zero, List.set_cons_succ, bin_add, bin_sub, cmp_gt, cmp_lt, cmp_ge, cmp_le, blt_int, blt_intb, blt_abs, blt_lenL, blt_lenT, blt_lenS, tr_bl, nt_bl, chn_bl, cmp_is, cmp_isnot, cmp_eq_int, cmp_ne_int, newLf0, newLt0, newT0, newLf1, newLt1, newT1, newLf2, newLt2, newT2, newLf3, newLt3, newT3, newLf4, newLt4, newT4, newLf5, newLt5, newT5, newLf6, newLt6, newT6, newLf7, newLt7, newT7, newLf8, newT8, newLf9, newT9, newLf10, newT10, newLf11, newT11, newLf12, newLf13, newLf14, newLf15, newLf16, pairsOf, keyOf, g_head_block, hb]
  unfold b_law_1f_2 b_law_1f_2t
  simp only [ws_cons, ws_raise, ws_try, wp_att, cat_int, rep_int, cat_tup, cat_lst, set1_some, set1_none, wipe1_some, wipe1_none, ev_clsv, ws_exp, ws_retN, ws_brk, ws_cont, ws_ite, ws_ret, ws_asg, ws_iset, ws_pass, wp_bin, wp_cat, wp_rep, wp_neg, wp_and, wp_or, wp_not, wp_ite, wp_cmp, wp_chn, wp_slc, evo_no, wp_osome, wp_callE, wp_idx, wp_blt, wp_tup, wp_lst, wp_dic, wps_cons, wps_star, st_lst, st_tup, evs_nil, wps_ok, wp_ok, ev_lit, ev_var, ev_glo, ev_tyv, sts_nil, ws_nx, List.map_cons, List.map_nil, List.cons_append, List.nil_append, List.append_nil, List.getElem?_cons_zero, List.getElem?_cons_succ, srcs, List.length_cons, List.length_nil, List.replicate, bindT_name, bindT_2, bindT_3, bindT_nest, bindTs_nil, bindTs_cons, Nat.zero_add, Nat.reduceAdd, List.set_cons_zero, List.set_cons_succ, bin_add, bin_sub, cmp_gt, cmp_lt, cmp_ge, cmp_le, blt_int, blt_intb, blt_abs, blt_lenL, blt_lenT, blt_lenS, tr_bl, nt_bl, chn_bl, cmp_is, cmp_isnot, cmp_eq_int, cmp_ne_int, newLf0, newLt0, newT0, newLf1, newLt1, newT1, newLf2, newLt2, newT2, newLf3, newLt3, newT3, newLf4, newLt4, newT4, newLf5, newLt5, newT5, newLf6, newLt6, newT6, newLf7, newLt7, newT7, newLf8, newT8, newLf9, newT9, newLf10, newT10, newLf11, newT11, newLf12, newLf13, newLf14, newLf15, newLf16, pairsOf, keyOf, Bool.not_true, Bool.not_false, Bool.true_eq_false, Bool.false_eq_true, false_implies, true_implies, and_true, true_and, forall_const, Bool.not_eq_true', Bool.not_eq_false', decide_eq_true_eq, decide_eq_false_iff_not, reduceCtorEq, Int.not_lt, Int.not_le, Nat.not_lt, Nat.not_le, and_self, implies_true, beq_iff_eq, beq_eq_false_iff_ne, ne_eq, rp, r12, nT, List.cons_append, List.nil_append, cmp_strN, decide_true, Bool.not_true, g_head_block_0_first_half_epoch, hb, cn]
  unfold b_law_1f_3
  simp only [ws_cons, ws_raise, ws_try, wp_att, cat_int, rep_int, cat_tup, cat_lst, set1_some, set1_none, wipe1_some, wipe1_none, ev_clsv, ws_exp, ws_retN, ws_brk, ws_cont, ws_ite, ws_ret, ws_asg, ws_iset, ws_pass, wp_bin, wp_cat, wp_rep, wp_neg, wp_and, wp_or, wp_not, wp_ite, wp_cmp, wp_chn, wp_slc, evo_no, wp_osome, wp_callE, wp_idx, wp_blt, wp_tup, wp_lst, wp_dic, wps_cons, wps_star, st_lst, st_tup, evs_nil, wps_ok, wp_ok, ev_lit, ev_var, ev_glo, ev_tyv, sts_nil, ws_nx, List.map_cons, List.map_nil, List.cons_append, List.nil_append, List.append_nil, List.getElem?_cons_zero, List.getElem?_cons_succ, srcs, List.length_cons, List.length_nil, List.replicate, bindT_name, bindT_2, bindT_3, bindT_nest, bindTs_nil, bindTs_cons, Nat.zero_add, Nat.reduceAdd, List.set_cons_zero, List.set_cons_succ, bin_add, bin_sub, cmp_gt, cmp_lt, cmp_ge, cmp_le, blt_int, blt_intb, blt_abs, blt_lenL, blt_lenT, blt_lenS, tr_bl, nt_bl, chn_bl, cmp_is, cmp_isnot, cmp_eq_int, cmp_ne_int, newLf0, newLt0, newT0, newLf1, newLt1, newT1, newLf2, newLt2, newT2, newLf3, newLt3, newT3, newLf4, newLt4, newT4, newLf5, newLt5, newT5, newLf6, newLt6, newT6, newLf7, newLt7, newT7, newLf8, newT8, newLf9, newT9, newLf10, newT10, newLf11, newT11, newLf12, newLf13, newLf14, newLf15, newLf16, pairsOf, keyOf, Bool.not_true, Bool.not_false, Bool.true_eq_false, Bool.false_eq_true, false_implies, true_implies, and_true, true_and, forall_const, Bool.not_eq_true', Bool.not_eq_false', decide_eq_true_eq, decide_eq_false_iff_not, reduceCtorEq, Int.not_lt, Int.not_le, Nat.not_lt, Nat.not_le, and_self, implies_true, beq_iff_eq, beq_eq_false_iff_ne, ne_eq, g__law_block]
  refine (w_block (k := k + 2) s1 (by omega)).imp fun d S ⟨m2, X, j, a, ed, e2, hx, ba, s2⟩ => ?_
  subst ed e2
  try simp only [ws_cons, ws_raise, ws_try, wp_att, cat_int, rep_int, cat_tup, cat_lst, set1_some, set1_none, wipe1_some, wipe1_none, ev_clsv, ws_exp, ws_retN, ws_brk, ws_cont, ws_ite, ws_ret, ws_asg, ws_iset, ws_pass, wp_bin, wp_cat, wp_rep, wp_neg, wp_and, wp_or, wp_not, wp_ite, wp_cmp, wp_chn, wp_slc, evo_no, wp_osome, wp_callE, wp_idx, wp_blt, wp_tup, wp_lst, wp_dic, wps_cons, wps_star, st_lst, st_tup, evs_nil, wps_ok, wp_ok, ev_lit, ev_var, ev_glo, ev_tyv, sts_nil, ws_nx, List.map_cons, List.map_nil, List.cons_append, List.nil_append, List.append_nil, List.getElem?_cons_zero, List.getElem?_cons_succ, srcs, List.length_cons, List.length_nil, List.replicate, bindT_name, bindT_2, bindT_3, bindT_nest, bindTs_nil, bindTs_cons, Nat.zero_add, Nat.reduceAdd, List.set_cons_zero, List.set_cons_succ, bin_add, bin_sub, cmp_gt, cmp_lt, cmp_ge, cmp_le, blt_int, blt_intb, blt_abs, blt_lenL, blt_lenT, blt_lenS, tr_bl, nt_bl, chn_bl, cmp_is, cmp_isnot, cmp_eq_int, cmp_ne_int, newLf0, newLt0, newT0, newLf1, newLt1, newT1, newLf2, newLt2, newT2, newLf3, newLt3, newT3, newLf4, newLt4, newT4, newLf5, newLt5, newT5, newLf6, newLt6, newT6, newLf7, newLt7, newT7, newLf8, newT8, newLf9, newT9, newLf10, newT10, newLf11, newT11, newLf12, newLf13, newLf14, newLf15, newLf16, pairsOf, keyOf]
  refine (w_block (k := k + 2) (R := G ++ X) s2 (by omega)).imp fun d S ⟨m3, Y, i, b, ed, e2, hy, bb2, s3⟩ => ?_
  subst ed e2
  try simp only [ws_cons, ws_raise, ws_try, wp_att, cat_int, rep_int, cat_tup, cat_lst, set1_some, set1_none, wipe1_some, wipe1_none, ev_clsv, ws_exp, ws_retN, ws_brk, ws_cont, ws_ite, ws_ret, ws_asg, ws_iset, ws_pass, wp_bin, wp_cat, wp_rep, wp_neg, wp_and, wp_or, wp_not, wp_ite, wp_cmp, wp_chn, wp_slc, evo_no, wp_osome, wp_callE, wp_idx, wp_blt, wp_tup, wp_lst, wp_dic, wps_cons, wps_star, st_lst, st_tup, evs_nil, wps_ok, wp_ok, ev_lit, ev_var, ev_glo, ev_tyv, sts_nil, ws_nx, List.map_cons, List.map_nil, List.cons_append, List.nil_append, List.append_nil, List.getElem?_cons_zero, List.getElem?_cons_succ, srcs, List.length_cons, List.length_nil, List.replicate, bindT_name, bindT_2, bindT_3, bindT_nest, bindTs_nil, bindTs_cons, Nat.zero_add, Nat.reduceAdd, List.set_cons_zero, List.set_cons_succ, bin_add, bin_sub, cmp_gt, cmp_lt, cmp_ge, cmp_le, blt_int, blt_intb, blt_abs, blt_lenL, blt_lenT, blt_lenS, tr_bl, nt_bl, chn_bl, cmp_is, cmp_isnot, cmp_eq_int, cmp_ne_int, newLf0, newLt0, newT0, newLf1, newLt1, newT1, newLf2, newLt2, newT2, newLf3, newLt3, newT3, newLf4, newLt4, newT4, newLf5, newLt5, newT5, newLf6, newLt6, newT6, newLf7, newLt7, newT7, newLf8, newT8, newLf9, newT9, newLf10, newT10, newLf11, newT11, newLf12, newLf13, newLf14, newLf15, newLf16, pairsOf, keyOf]
  -- where they are
  have ga : (G ++ X ++ Y)[G.length + j]? = some (.lst (a.map D.int)) := by
    have hj : j < X.length := (List.getElem?_eq_some_iff.mp hx).1
    rw [List.append_assoc, List.getElem?_append_right (by omega), List.getElem?_append_left (by omega)]
    rw [show G.length + j - G.length = j by omega]; exact hx
  have gb : (G ++ X ++ Y)[(G ++ X).length + i]? = some (.lst (b.map D.int)) := by
    rw [List.getElem?_append_right (by omega), show (G ++ X).length + i - (G ++ X).length = i by omega]; exact hy
  have hne : G.length + j ≠ (G ++ X).length + i := by
    have hj : j < X.length := (List.getElem?_eq_some_iff.mp hx).1
    rw [List.length_append]; omega
  have ea : G.length + 1 + j = (G.length + j) + 1 := by omega
  have eb : (G ++ X).length + 1 + i = ((G ++ X).length + i) + 1 := by omega
  rw [ea, eb]
  generalize (G ++ X ++ Y) = Z at ga gb
  generalize G.length + j = p at ga hne
  generalize (G ++ X).length + i = q at gb hne
  clear hx hy
  -- both are fixed, then read
  have fin : ∀ (b : List Int) (Z : Store) (m4 : MO), bB b → Sat (B + 24) m4 → Z[p]? = some (.lst (a.map D.int)) → Z[q]? = some (.lst (b.map D.int)) → Ws (sts (callK P (k + 6)) (.fix 9 (.fix 8 b_law_1f_5)) [some s, some (.ref 0), x2, some (tupI (hd e h f)), x4, some (.int e), some (.int h), some (.int f), some (.ref (p + 1)), some (.ref (q + 1))] (m4 :: Z)) { nx := Lx s (B + 30) } := fun b Z m4 bb s4 ga gb => by
    rw [ws_fix]
    refine fx_ref (n := q + 1) (xs := b.map D.int) rfl (by rw [List.getElem?_cons_succ]; exact gb) ?_
    rw [ws_fix]
    refine fx_ref (n := p + 1) (xs := a.map D.int) rfl (by rw [List.set_cons_succ, List.getElem?_cons_succ, List.getElem?_set_ne (Ne.symm hne)]; exact ga) ?_
    have q0 := w_read (k := k) (s := s) (x2 := x2) (x3 := some (tupI (hd e h f))) (x4 := x4) (x5 := some (.int e)) (x6 := some (.int h)) (x7 := some (.int f)) (G := (Z.set q .dead).set p .dead) ba bb s4
    refine q0.mono ?_ ?_ ?_ ?_ ?_
    · rintro ρ S ⟨m, G, a2, a3, a4, a5, a6, a7, a8, a9, e1, e2, e3⟩
      exact ⟨m, G, a2, a3, a4, a5, a6, a7, a8, a9, e1, e2, e3.mono (by omega)⟩
    · intro _ _ z; exact False.elim z
    · intro _ _ z; exact False.elim z
    · intro _ _ z; exact False.elim z
    · intro _ _ _ z; exact False.elim z
  unfold b_law_1f_4 b_law_1f_4t
  simp only [ws_cons, ws_raise, ws_try, wp_att, cat_int, rep_int, cat_tup, cat_lst, set1_some, set1_none, wipe1_some, wipe1_none, ev_clsv, ws_exp, ws_retN, ws_brk, ws_cont, ws_ite, ws_ret, ws_asg, ws_iset, ws_pass, wp_bin, wp_cat, wp_rep, wp_neg, wp_and, wp_or, wp_not, wp_ite, wp_cmp, wp_chn, wp_slc, evo_no, wp_osome, wp_callE, wp_idx, wp_blt, wp_tup, wp_lst, wp_dic, wps_cons, wps_star, st_lst, st_tup, evs_nil, wps_ok, wp_ok, ev_lit, ev_var, ev_glo, ev_tyv, sts_nil, ws_nx, List.map_cons, List.map_nil, List.cons_append, List.nil_append, List.append_nil, List.getElem?_cons_zero, List.getElem?_cons_succ, srcs, List.length_cons, List.length_nil, List.replicate, bindT_name, bindT_2, bindT_3, bindT_nest, bindTs_nil, bindTs_cons, Nat.zero_add, Nat.reduceAdd, List.set_cons_zero, List.set_cons_succ, bin_add, bin_sub, cmp_gt, cmp_lt, cmp_ge, cmp_le, blt_int, blt_intb, blt_abs, blt_lenL, blt_lenT, blt_lenS, tr_bl, nt_bl, chn_bl, cmp_is, cmp_isnot, cmp_eq_int, cmp_ne_int, newLf0, newLt0, newT0, newLf1, newLt1, newT1, newLf2, newLt2, newT2, newLf3, newLt3, newT3, newLf4, newLt4, newT4, newLf5, newLt5, newT5, newLf6, newLt6, newT6, newLf7, newLt7, newT7, newLf8, newT8, newLf9, newT9, newLf10, newT10, newLf11, newT11, newLf12, newLf13, newLf14, newLf15, newLf16, pairsOf, keyOf, Bool.not_true, Bool.not_false, Bool.true_eq_false, Bool.false_eq_true, false_implies, true_implies, and_true, true_and, forall_const, Bool.not_eq_true', Bool.not_eq_false', decide_eq_true_eq, decide_eq_false_iff_not, reduceCtorEq, Int.not_lt, Int.not_le, Nat.not_lt, Nat.not_le, and_self, implies_true, beq_iff_eq, beq_eq_false_iff_ne, ne_eq, g__law_steer]
  refine (w_coin (k := k + 5) s3 (by omega) (by omega) (by omega)).imp fun d S ⟨w, m4, ed, w0, w1, e2, s4⟩ => ?_
  subst ed e2
  try simp only [ws_cons, ws_raise, ws_try, wp_att, cat_int, rep_int, cat_tup, cat_lst, set1_some, set1_none, wipe1_some, wipe1_none, ev_clsv, ws_exp, ws_retN, ws_brk, ws_cont, ws_ite, ws_ret, ws_asg, ws_iset, ws_pass, wp_bin, wp_cat, wp_rep, wp_neg, wp_and, wp_or, wp_not, wp_ite, wp_cmp, wp_chn, wp_slc, evo_no, wp_osome, wp_callE, wp_idx, wp_blt, wp_tup, wp_lst, wp_dic, wps_cons, wps_star, st_lst, st_tup, evs_nil, wps_ok, wp_ok, ev_lit, ev_var, ev_glo, ev_tyv, sts_nil, ws_nx, List.map_cons, List.map_nil, List.cons_append, List.nil_append, List.append_nil, List.getElem?_cons_zero, List.getElem?_cons_succ, srcs, List.length_cons, List.length_nil, List.replicate, bindT_name, bindT_2, bindT_3, bindT_nest, bindTs_nil, bindTs_cons, Nat.zero_add, Nat.reduceAdd, List.set_cons_zero, List.set_cons_succ, bin_add, bin_sub, cmp_gt, cmp_lt, cmp_ge, cmp_le, blt_int, blt_intb, blt_abs, blt_lenL, blt_lenT, blt_lenS, tr_bl, nt_bl, chn_bl, cmp_is, cmp_isnot, cmp_eq_int, cmp_ne_int, newLf0, newLt0, newT0, newLf1, newLt1, newT1, newLf2, newLt2, newT2, newLf3, newLt3, newT3, newLf4, newLt4, newT4, newLf5, newLt5, newT5, newLf6, newLt6, newT6, newLf7, newLt7, newT7, newLf8, newT8, newLf9, newT9, newLf10, newT10, newLf11, newT11, newLf12, newLf13, newLf14, newLf15, newLf16, pairsOf, keyOf, Bool.not_true, Bool.not_false, Bool.true_eq_false, Bool.false_eq_true, false_implies, true_implies, and_true, true_and, forall_const, Bool.not_eq_true', Bool.not_eq_false', decide_eq_true_eq, decide_eq_false_iff_not, reduceCtorEq, Int.not_lt, Int.not_le, Nat.not_lt, Nat.not_le, and_self, implies_true, beq_iff_eq, beq_eq_false_iff_ne, ne_eq]
  refine ⟨fun _ => ?_, fun _ => fin b Z m4 bb2 (s4.mono (by omega)) ga gb⟩
  obtain ⟨v, hv⟩ : ∃ v, a[1]? = some v := ⟨a[1]'(by rw [ba.1]; decide), List.getElem?_eq_getElem _⟩
  have v1 : L2.atI (a.map D.int) 1 = some (.int v) := idx_nat (i := 1) (by rw [List.getElem?_map, hv]; rfl)
  have vb := ba.2 v (List.mem_of_getElem? hv)
  have ix : L2.ixN (b.map D.int).length 1 = some 1 := by
    rw [List.length_map, bb2.1]; rfl
  rw [idx_ref (n := p + 1) (xs := a.map D.int) (by rw [List.getElem?_cons_succ]; exact ga) v1, wp_ok, setL_ref (n := q + 1) (xs := b.map D.int) (by rw [List.getElem?_cons_succ]; exact gb) ix]
  dsimp only
  rw [List.set_cons_succ, show (b.map D.int).set 1 (.int v) = (b.set 1 v).map D.int by rw [List.map_set]]
  refine fin (b.set 1 v) _ m4 (bB_set bb2 vb.1 vb.2) (s4.mono (by omega)) ?_ ?_
  · rw [List.getElem?_set_ne (Ne.symm hne)]; exact ga
  · rw [List.getElem?_set_self (List.getElem?_eq_some_iff.mp gb).1]
end LW
set_option maxHeartbeats 2000000
namespace LW
open PySem PySem.Spec PD
def lvl : Nat := 10
theorem law_true (ns : List Int) : ∃ S', callK P lvl i_law [.lst (ns.map .int)] [] = .ok (.bl true) S' := by
  have h : Wp (callK P (0 + 10) i_law [.lst (ns.map .int)] []) (fun d S => d = .bl true) noX := by
    refine wp_call rfl rfl ?_
    show Ws (sts _ b_law _ _) _
    unfold b_law
    simp only [ws_cons, ws_raise, ws_try, wp_att, cat_int, rep_int, cat_tup, cat_lst, set1_some, set1_none, wipe1_some, wipe1_none, ev_clsv, ws_exp, ws_retN, ws_brk, ws_cont, ws_ite, ws_ret, ws_asg, ws_iset, ws_pass, wp_bin, wp_cat, wp_rep, wp_neg, wp_and, wp_or, wp_not, wp_ite, wp_cmp, wp_chn, wp_slc, evo_no, wp_osome, wp_callE, wp_idx, wp_blt, wp_tup, wp_lst, wp_dic, wps_cons, wps_star, st_lst, st_tup, evs_nil, wps_ok, wp_ok, ev_lit, ev_var, ev_glo, ev_tyv, sts_nil, ws_nx, List.map_cons, List.map_nil, List.cons_append, List.nil_append, List.append_nil, List.getElem?_cons_zero, List.getElem?_cons_succ, srcs, List.length_cons, List.length_nil, List.replicate, bindT_name, bindT_2, bindT_3, bindT_nest, bindTs_nil, bindTs_cons, Nat.zero_add, Nat.reduceAdd, List.set_cons_zero, List.set_cons_succ, bin_add, bin_sub, cmp_gt, cmp_lt, cmp_ge, cmp_le, blt_int, blt_intb, blt_abs, blt_lenL, blt_lenT, blt_lenS, tr_bl, nt_bl, chn_bl, cmp_is, cmp_isnot, cmp_eq_int, cmp_ne_int, newLf0, newLt0, newT0, newLf1, newLt1, newT1, newLf2, newLt2, newT2, newLf3, newLt3, newT3, newLf4, newLt4, newT4, newLf5, newLt5, newT5, newLf6, newLt6, newT6, newLf7, newLt7, newT7, newLf8, newT8, newLf9, newT9, newLf10, newT10, newLf11, newT11, newLf12, newLf13, newLf14, newLf15, newLf16, pairsOf, keyOf, g__law_prow]
    refine (w_purse (k := 8)).imp fun d S ⟨e, m, e2, s0⟩ => ?_
    subst e e2
    try simp only [ws_cons, ws_raise, ws_try, wp_att, cat_int, rep_int, cat_tup, cat_lst, set1_some, set1_none, wipe1_some, wipe1_none, ev_clsv, ws_exp, ws_retN, ws_brk, ws_cont, ws_ite, ws_ret, ws_asg, ws_iset, ws_pass, wp_bin, wp_cat, wp_rep, wp_neg, wp_and, wp_or, wp_not, wp_ite, wp_cmp, wp_chn, wp_slc, evo_no, wp_osome, wp_callE, wp_idx, wp_blt, wp_tup, wp_lst, wp_dic, wps_cons, wps_star, st_lst, st_tup, evs_nil, wps_ok, wp_ok, ev_lit, ev_var, ev_glo, ev_tyv, sts_nil, ws_nx, List.map_cons, List.map_nil, List.cons_append, List.nil_append, List.append_nil, List.getElem?_cons_zero, List.getElem?_cons_succ, srcs, List.length_cons, List.length_nil, List.replicate, bindT_name, bindT_2, bindT_3, bindT_nest, bindTs_nil, bindTs_cons, Nat.zero_add, Nat.reduceAdd, List.set_cons_zero, List.set_cons_succ, bin_add, bin_sub, cmp_gt, cmp_lt, cmp_ge, cmp_le, blt_int, blt_intb, blt_abs, blt_lenL, blt_lenT, blt_lenS, tr_bl, nt_bl, chn_bl, cmp_is, cmp_isnot, cmp_eq_int, cmp_ne_int, newLf0, newLt0, newT0, newLf1, newLt1, newT1, newLf2, newLt2, newT2, newLf3, newLt3, newT3, newLf4, newLt4, newT4, newLf5, newLt5, newT5, newLf6, newLt6, newT6, newLf7, newLt7, newT7, newLf8, newT8, newLf9, newT9, newLf10, newT10, newLf11, newT11, newLf12, newLf13, newLf14, newLf15, newLf16, pairsOf, keyOf]
    unfold b_law_1
    simp only [ws_cons, ws_raise, ws_try, wp_att, cat_int, rep_int, cat_tup, cat_lst, set1_some, set1_none, wipe1_some, wipe1_none, ev_clsv, ws_exp, ws_retN, ws_brk, ws_cont, ws_ite, ws_ret, ws_asg, ws_iset, ws_pass, wp_bin, wp_cat, wp_rep, wp_neg, wp_and, wp_or, wp_not, wp_ite, wp_cmp, wp_chn, wp_slc, evo_no, wp_osome, wp_callE, wp_idx, wp_blt, wp_tup, wp_lst, wp_dic, wps_cons, wps_star, st_lst, st_tup, evs_nil, wps_ok, wp_ok, ev_lit, ev_var, ev_glo, ev_tyv, sts_nil, ws_nx, List.map_cons, List.map_nil, List.cons_append, List.nil_append, List.append_nil, List.getElem?_cons_zero, List.getElem?_cons_succ, srcs, List.length_cons, List.length_nil, List.replicate, bindT_name, bindT_2, bindT_3, bindT_nest, bindTs_nil, bindTs_cons, Nat.zero_add, Nat.reduceAdd, List.set_cons_zero, List.set_cons_succ, bin_add, bin_sub, cmp_gt, cmp_lt, cmp_ge, cmp_le, blt_int, blt_intb, blt_abs, blt_lenL, blt_lenT, blt_lenS, tr_bl, nt_bl, chn_bl, cmp_is, cmp_isnot, cmp_eq_int, cmp_ne_int, newLf0, newLt0, newT0, newLf1, newLt1, newT1, newLf2, newLt2, newT2, newLf3, newLt3, newT3, newLf4, newLt4, newT4, newLf5, newLt5, newT5, newLf6, newLt6, newT6, newLf7, newLt7, newT7, newLf8, newT8, newLf9, newT9, newLf10, newT10, newLf11, newT11, newLf12, newLf13, newLf14, newLf15, newLf16, pairsOf, keyOf, ws_for, wps_rng]
    rw [if_pos ⟨by decide, by decide⟩, wps_ok]
    refine ws_forGo (fun rest ρ S => ∃ B, Lx (.lst (ns.map .int)) B ρ S ∧ B + 30 * rest.length ≤ 300) (fun x r ρ S hI => ?_) (fun ρ S hI => ?_) _ _ _ ⟨0, ⟨m, [], _, _, _, _, _, _, _, _, rfl, rfl, s0⟩, by decide⟩
    · obtain ⟨B, ⟨m, G, x2, x3, x4, x5, x6, x7, x8, x9, rfl, rfl, hs⟩, hB⟩ := hI
      rw [List.length_cons] at hB
      rw [ws_turn]
      simp only [ws_cons, ws_raise, ws_try, wp_att, cat_int, rep_int, cat_tup, cat_lst, set1_some, set1_none, wipe1_some, wipe1_none, ev_clsv, ws_exp, ws_retN, ws_brk, ws_cont, ws_ite, ws_ret, ws_asg, ws_iset, ws_pass, wp_bin, wp_cat, wp_rep, wp_neg, wp_and, wp_or, wp_not, wp_ite, wp_cmp, wp_chn, wp_slc, evo_no, wp_osome, wp_callE, wp_idx, wp_blt, wp_tup, wp_lst, wp_dic, wps_cons, wps_star, st_lst, st_tup, evs_nil, wps_ok, wp_ok, ev_lit, ev_var, ev_glo, ev_tyv, sts_nil, ws_nx, List.map_cons, List.map_nil, List.cons_append, List.nil_append, List.append_nil, List.getElem?_cons_zero, List.getElem?_cons_succ, srcs, List.length_cons, List.length_nil, List.replicate, bindT_name, bindT_2, bindT_3, bindT_nest, bindTs_nil, bindTs_cons, Nat.zero_add, Nat.reduceAdd, List.set_cons_zero, List.set_cons_succ]
      have q := w_turn (k := 3) (s := .lst (ns.map .int)) (x2 := some x) (x3 := x3) (x4 := x4) (x5 := x5) (x6 := x6) (x7 := x7) (x8 := x8) (x9 := x9) (G := G) hs (by omega)
      refine q.mono ?_ ?_ ?_ ?_ ?_
      · intro ρ S z; exact ⟨B + 30, z, by omega⟩
      · intro _ _ z; exact False.elim z
      · intro _ _ z; exact False.elim z
      · intro _ _ z; exact False.elim z
      · intro _ _ _ z; exact False.elim z
    · obtain ⟨B, ⟨m, G, x2, x3, x4, x5, x6, x7, x8, x9, rfl, rfl, hs⟩, hB⟩ := hI
      unfold b_law_2
      simp only [ws_cons, ws_raise, ws_try, wp_att, cat_int, rep_int, cat_tup, cat_lst, set1_some, set1_none, wipe1_some, wipe1_none, ev_clsv, ws_exp, ws_retN, ws_brk, ws_cont, ws_ite, ws_ret, ws_asg, ws_iset, ws_pass, wp_bin, wp_cat, wp_rep, wp_neg, wp_and, wp_or, wp_not, wp_ite, wp_cmp, wp_chn, wp_slc, evo_no, wp_osome, wp_callE, wp_idx, wp_blt, wp_tup, wp_lst, wp_dic, wps_cons, wps_star, st_lst, st_tup, evs_nil, wps_ok, wp_ok, ev_lit, ev_var, ev_glo, ev_tyv, sts_nil, ws_nx, List.map_cons, List.map_nil, List.cons_append, List.nil_append, List.append_nil, List.getElem?_cons_zero, List.getElem?_cons_succ, srcs, List.length_cons, List.length_nil, List.replicate, bindT_name, bindT_2, bindT_3, bindT_nest, bindTs_nil, bindTs_cons, Nat.zero_add, Nat.reduceAdd, List.set_cons_zero, List.set_cons_succ, bin_add, bin_sub, cmp_gt, cmp_lt, cmp_ge, cmp_le, blt_int, blt_intb, blt_abs, blt_lenL, blt_lenT, blt_lenS, tr_bl, nt_bl, chn_bl, cmp_is, cmp_isnot, cmp_eq_int, cmp_ne_int, newLf0, newLt0, newT0, newLf1, newLt1, newT1, newLf2, newLt2, newT2, newLf3, newLt3, newT3, newLf4, newLt4, newT4, newLf5, newLt5, newT5, newLf6, newLt6, newT6, newLf7, newLt7, newT7, newLf8, newT8, newLf9, newT9, newLf10, newT10, newLf11, newT11, newLf12, newLf13, newLf14, newLf15, newLf16, pairsOf, keyOf, Bool.not_true, Bool.not_false, Bool.true_eq_false, Bool.false_eq_true, false_implies, true_implies, and_true, true_and, forall_const, Bool.not_eq_true', Bool.not_eq_false', decide_eq_true_eq, decide_eq_false_iff_not, reduceCtorEq, Int.not_lt, Int.not_le, Nat.not_lt, Nat.not_le, and_self, implies_true, beq_iff_eq, beq_eq_false_iff_ne, ne_eq, g__law_refused_right]
      refine (w_refused (k := 0) hs (by simp at hB; omega)).imp fun d S e => ?_
      subst e
      try simp only [ws_cons, ws_raise, ws_try, wp_att, cat_int, rep_int, cat_tup, cat_lst, set1_some, set1_none, wipe1_some, wipe1_none, ev_clsv, ws_exp, ws_retN, ws_brk, ws_cont, ws_ite, ws_ret, ws_asg, ws_iset, ws_pass, wp_bin, wp_cat, wp_rep, wp_neg, wp_and, wp_or, wp_not, wp_ite, wp_cmp, wp_chn, wp_slc, evo_no, wp_osome, wp_callE, wp_idx, wp_blt, wp_tup, wp_lst, wp_dic, wps_cons, wps_star, st_lst, st_tup, evs_nil, wps_ok, wp_ok, ev_lit, ev_var, ev_glo, ev_tyv, sts_nil, ws_nx, List.map_cons, List.map_nil, List.cons_append, List.nil_append, List.append_nil, List.getElem?_cons_zero, List.getElem?_cons_succ, srcs, List.length_cons, List.length_nil, List.replicate, bindT_name, bindT_2, bindT_3, bindT_nest, bindTs_nil, bindTs_cons, Nat.zero_add, Nat.reduceAdd, List.set_cons_zero, List.set_cons_succ]
      split <;> first | rfl | trivial
  cases e : callK P (0 + 10) i_law [.lst (ns.map .int)] [] with
  | ok d S' => rw [e] at h; exact ⟨S', by show callK P (0 + 10) i_law _ _ = _; rw [e, show d = .bl true from h]⟩
  | exc x S' => rw [e] at h; exact h.elim
  | stuck => rw [e] at h; exact h.elim
end LW
set_option maxHeartbeats 0
namespace LW
open PySem PySem.Spec PyProof.Rows PD
abbrev hk : PySem.W.Hook := hookP 4 ps cn
def ob (s : PySem.W.SharedT) : AlP := obsP 4 ps cn (HandSHeadRun.getT s)
theorem ob_eq (s : PySem.W.SharedT) : ob s = hk.obs s.abs := obsP_eq (HandSHeadRun.getT_eq s)
def names : List PySem.Str := [("MeetError" : PySem.Str), ("BadNumber" : PySem.Str), ("BadBlock" : PySem.Str), ("MOST_NUMBER" : PySem.Str), ("is_integer" : PySem.Str), ("is_within" : PySem.Str), ("are_integers" : PySem.Str), ("is_numbers" : PySem.Str), ("need_number" : PySem.Str), ("WIDTH" : PySem.Str), ("is_block" : PySem.Str), ("need_block" : PySem.Str), ("MARK" : PySem.Str), ("HALVES" : PySem.Str), ("NO_HEAD" : PySem.Str), ("head_of" : PySem.Str), ("told_by" : PySem.Str), ("holding" : PySem.Str), ("head_block" : PySem.Str), ("read_heads" : PySem.Str), ("_law_prow" : PySem.Str), ("_law_steer" : PySem.Str), ("_law_pick" : PySem.Str), ("_law_head" : PySem.Str), ("_law_told" : PySem.Str), ("_law_block" : PySem.Str), ("_law_due" : PySem.Str), ("_law_heard" : PySem.Str), ("_law_refused_right" : PySem.Str)]
theorem run (w : World) : HandSHeadRun.RunEq R (PySem.W.view R.prog [34]) hk ob 4000 names w := by
  intro os
  kernel_rfl
end LW
set_option maxHeartbeats 0
open PySem PySem.W PySem.Calls PyProof.Rows
theorem PySem.Challenge.cw_meettrees_k10_heads_that_hold_holds : PySem.Challenge.rw_meettrees_k10_heads_that_hold.Holds := by
  w_on; o_law
  refine HandSHeadRun.head_any (r := OpenLaw.row PySem.Challenge.rw_meettrees_k10_heads_that_hold) (q := view (OpenLaw.row PySem.Challenge.rw_meettrees_k10_heads_that_hold).prog [34]) (H := LW.hk) (ob := LW.ob) (M := 4000) (loose := LW.names) (d := HandSHeadRun.topDef (OpenLaw.row PySem.Challenge.rw_meettrees_k10_heads_that_hold).prog 34) (kwd := []) LW.ob_eq
    (by kernel_rfl) (fun s => by kernel_rfl) LW.run (by kernel_rfl) (by kernel_rfl) (by kernel_rfl) (by rfl) (by first | assumption | decide +kernel) (by decide +kernel) ⟨rfl, rfl, rfl, rfl, rfl, by decide +kernel⟩ ?hw ?hc
  case hw => w_witness2
  case hc =>
    exact PD.law_walk (n := 63) (k := LW.lvl) (f := 21) (x := "_law_script") (fd := LW.d_law) rfl (by decide) (by kernel_rfl) ⟨rfl, by decide, by decide⟩ LW.text_ok LW.sigs_ok rfl rfl rfl (by kernel_rfl) rfl rfl
      (fun kV doc pm an cdv ct us hl => match us, hl with | [_], _ => rfl) (fun ns _ => LW.law_true ns)
