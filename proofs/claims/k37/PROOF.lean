import PyProof.Rows.All
import HandS.ForMost
import HandS.ForExc
import HandS.Flow
import HandS.Style
import HandS.Zip
import HandS.TupAny
import HandS.TupMul
import HandS.Wide
import HandS.Defaults
import HandS.Ends
import HandS.HeadEnd
import HandS.IsInst
import HandS.SortInts
import HandS.Deep
import PyProof.SumWalkG
import PyProof.ReprRoads
import PyProof.FitsInt
import HandS.Iter
import KE.GoesEnum
import KE.GoesMore
import HandS.SortRule
import HandS.TupSets
import HandS.Dict
import HandS.More
import HandS.Conv
import HandS.List
import HandS.SetFor
import KE.KRevSl
import KE.GoesEnumKw
import HandS.HeadHook1
import HandS.HeadHook2
import HandS.Head0
import HandS.Head1
import HandS.Head2
import HandS.Flt
import HandS.WideBits
import HandS.DictComp
import PyProof.DictUpdate
import PyProof.Rows.SortShellAny
import HandS.DictTup
import Wide.All
import OpenK.AllK
import Wide.FinOn
import KE.KStateDown
import HandS.Base
import HandS.Call
import HandS.Words
import HandS.WordsExc
import PySem.Challenge.RW_domelights_k37_whole_leads_of_scenes_tur
set_option Elab.async false
set_option linter.all false
set_option maxRecDepth 100000
set_option maxHeartbeats 4000000
namespace Q
open PySem PySem.Spec PyProof.Rows L2

abbrev D := PyData
/-- what a slot or an expression holds -/
inductive W where
  | d (x : D)
  | ref (n : Nat)
  | own (xs : List D)
  | ownd (kvs : List (Key × D))
  | tw (xs : List W)
  | fn (x : String)
  | scr (xs : List Int)
/-- what the store holds -/
inductive O where
  | lst (xs : List D)
  | dct (ks : List (List (Int ⊕ List Int)))
  | ins (C : String) (fs : List (Str × W))
/-- keys of dicts that are changed: tuples of ints and of tuples of ints -/
abbrev NK := List (Int ⊕ List Int)
def enc1 : Int ⊕ List Int → D
  | .inl i => .int i
  | .inr ns => .tuple (ns.map .int)
def encN (ks : NK) : D := .tuple (ks.map enc1)
def hash1 : Int ⊕ List Int → Int
  | .inl i => hashInt i
  | .inr ns => reduceHash (Builtin.Tuple.tupleHashOf (ns.map hashInt))
def hashN (ks : NK) : Int := reduceHash (Builtin.Tuple.tupleHashOf (ks.map hash1))
/-- the dict at a has just these keys, True at each -/
def NestD (a : Addr) (es : List (NK × Addr)) (h : Heap) : Prop :=
  (a == sysModules) = false ∧ (es.map (·.1)).Nodup ∧ ∃ (o : Obj) (ar : Array DictEntry) (ep : Nat), h.get? a = some o ∧ o.ExactDict ∧ o.data = .dict ar ep ∧ ar.toList = es.map fun e => { hash := hashN e.1, key := .ref e.2, val := .bool true }
abbrev EnvQ := List (Option W)
abbrev Sto := List O
inductive R (α : Type) where
  | ok (a : α) (S : Sto)
  | exc (c : String) (S : Sto)
  | stuck
abbrev CF := String → List W → Sto → R W
abbrev SE := CF → EnvQ → Sto → R W
abbrev ST := CF → EnvQ → Sto → R Bool
abbrev SA := CF → EnvQ → Sto → R (List W)

/-- a list, a tuple that stays: read, and not among what changes (N); or written by the top -/
def RdL (K : PySem.W.Frag) (H : Hp) (N : Addr → Prop) (a : Addr) (xs : List V) : Prop := ¬ N a ∧ H a = some (.lst xs)
def RdT (K : PySem.W.Frag) (H : Hp) (N : Addr → Prop) (a : Addr) (xs : List V) : Prop := (¬ N a ∧ Rd H a (.tup xs)) ∨ SqT K (fun _ => none) a xs
/-- a dict's flat values, its keys as data -/
inductive Fl : V → D → Prop
  | non : Fl .non .none
  | bl (b : Bool) : Fl (.bl b) (.bool b)
  | int (i : Int) : Fl (.int i) (.int i)
  | str (x : Str) : Fl (.str x) (.str x)
def keyD : Key → D
  | .inl i => .int i
  | .inr x => .str x
inductive KvF : List (Key × V) → List (D × D) → Prop
  | nil : KvF [] []
  | cons (k : Key) {v : V} {d : D} {vs : List (Key × V)} {ds : List (D × D)} : Fl v d → KvF vs ds → KvF ((k, v) :: vs) ((keyD k, d) :: ds)
mutual
inductive Dn (K : PySem.W.Frag) (H : Hp) (N : Addr → Prop) : V → D → Prop
  | non : Dn K H N .non .none
  | bl (b : Bool) : Dn K H N (.bl b) (.bool b)
  | int (i : Int) : Dn K H N (.int i) (.int i)
  | str (x : Str) : Dn K H N (.str x) (.str x)
  | lst {a : Addr} {xs : List V} {ds : List D} : RdL K H N a xs → DnAll K H N xs ds → Dn K H N (.ref a) (.list ds)
  | tup {a : Addr} {xs : List V} {ds : List D} : RdT K H N a xs → DnAll K H N xs ds → Dn K H N (.ref a) (.tuple ds)
  | dic {a : Addr} {o : Obj} {vs : List (Key × V)} {ds : List (D × D)} : ¬ N a → H a = some (.frz o (.dK vs)) → KvF vs ds → Dn K H N (.ref a) (.dict ds)
inductive DnAll (K : PySem.W.Frag) (H : Hp) (N : Addr → Prop) : List V → List D → Prop
  | nil : DnAll K H N [] []
  | cons {v : V} {vs : List V} {d : D} {ds : List D} : Dn K H N v d → DnAll K H N vs ds → DnAll K H N (v :: vs) (d :: ds)
end
/-- a dict's keys and values -/
inductive KvR (K : PySem.W.Frag) (H : Hp) (N : Addr → Prop) : List (Key × V) → List (Key × D) → Prop
  | nil : KvR K H N [] []
  | cons (k : Key) {v : V} {d : D} {vs : List (Key × V)} {ds : List (Key × D)} : Dn K H N v d → KvR K H N vs ds → KvR K H N ((k, v) :: vs) ((k, d) :: ds)
/-- a list that is read, in whatever way it stands (the script) -/
def RdF (K : PySem.W.Frag) (H : Hp) (N : Addr → Prop) (a : Addr) (xs : List V) : Prop := (¬ N a ∧ Rd H a (.lst xs)) ∨ SqL K (fun _ => none) a xs
/-- what was tracked and does not change stays as it is -/
def Keep (N : Addr → Prop) (H : Hp) (N' : Addr → Prop) (H' : Hp) : Prop := ∀ a o, ¬ N a → H a = some o → H' a = some o ∧ ¬ N' a
theorem Keep.trans {N N1 N2 : Addr → Prop} {H H1 H2 : Hp} (x : Keep N H N1 H1) (y : Keep N1 H1 N2 H2) : Keep N H N2 H2 := fun a o n e =>
  let z := x a o n e
  y a o z.2 z.1
section
variable {K : PySem.W.Frag} {mg : Str → Option Value} {H H' : Hp} {N N' : Addr → Prop}
theorem RdL.keep {a : Addr} {xs : List V} (k : Keep N H N' H') (h : RdL K H N a xs) : RdL K H' N' a xs := ⟨(k a _ h.1 h.2).2, (k a _ h.1 h.2).1⟩
theorem RdF.keep {a : Addr} {xs : List V} (k : Keep N H N' H') (h : RdF K H N a xs) : RdF K H' N' a xs := by
  rcases h with ⟨n, h | ⟨o, h⟩⟩ | h
  · obtain ⟨e, n'⟩ := k a _ n h
    exact .inl ⟨n', .inl e⟩
  · obtain ⟨e, n'⟩ := k a _ n h
    exact .inl ⟨n', .inr ⟨o, e⟩⟩
  · exact .inr h
theorem RdT.keep {a : Addr} {xs : List V} (k : Keep N H N' H') (h : RdT K H N a xs) : RdT K H' N' a xs := by
  rcases h with ⟨n, h | ⟨o, h⟩⟩ | h
  · obtain ⟨e, n'⟩ := k a _ n h
    exact .inl ⟨n', .inl e⟩
  · obtain ⟨e, n'⟩ := k a _ n h
    exact .inl ⟨n', .inr ⟨o, e⟩⟩
  · exact .inr h
mutual
theorem Dn.keep (k : Keep N H N' H') : ∀ {v : V} {d : D}, Dn K H N v d → Dn K H' N' v d
  | _, _, .non => .non
  | _, _, .bl b => .bl b
  | _, _, .int i => .int i
  | _, _, .str x => .str x
  | _, _, .lst h t => .lst (h.keep k) (DnAll.keep k t)
  | _, _, .tup h t => .tup (h.keep k) (DnAll.keep k t)
  | _, _, .dic n h f => .dic (k _ _ n h).2 (k _ _ n h).1 f
theorem DnAll.keep (k : Keep N H N' H') : ∀ {vs : List V} {ds : List D}, DnAll K H N vs ds → DnAll K H' N' vs ds
  | _, _, .nil => .nil
  | _, _, .cons h t => .cons (Dn.keep k h) (DnAll.keep k t)
end
theorem KvR.keep (k : Keep N H N' H') : ∀ {vs : List (Key × V)} {ds : List (Key × D)}, KvR K H N vs ds → KvR K H' N' vs ds
  | _, _, .nil => .nil
  | _, _, .cons i h t => .cons i (Dn.keep k h) (KvR.keep k t)
theorem KvR.length : ∀ {vs : List (Key × V)} {ds : List (Key × D)}, KvR K H N vs ds → vs.length = ds.length
  | _, _, .nil => rfl
  | _, _, .cons _ _ t => congrArg (· + 1) (KvR.length t)
theorem DnAll.length : ∀ {vs : List V} {ds : List D}, DnAll K H N vs ds → vs.length = ds.length
  | _, _, .nil => rfl
  | _, _, .cons _ t => congrArg (· + 1) (DnAll.length t)
theorem DnAll.set {v : V} {d : D} (r : Dn K H N v d) : ∀ {xs : List V} {ds : List D} (i : Nat), DnAll K H N xs ds → DnAll K H N (xs.set i v) (ds.set i d)
  | _, _, _, .nil => by simpa using DnAll.nil
  | _, _, 0, .cons _ t => by simpa using DnAll.cons r t
  | _, _, i + 1, .cons q t => by simpa using DnAll.cons q (DnAll.set r i t)
end

mutual
inductive RW (K : PySem.W.Frag) (mg : Str → Option Value) (H : Hp) (N : Addr → Prop) (μ : List Addr) : V → W → Prop
  | d {v : V} {x : D} : Dn K H N v x → RW K mg H N μ v (.d x)
  | ref {a : Addr} {n : Nat} : μ[n]? = some a → RW K mg H N μ (.ref a) (.ref n)
  | own {a : Addr} {vs : List V} {xs : List D} : H a = some (.lst vs) → DnAll K H N vs xs → RW K mg H N μ (.ref a) (.own xs)
  | ownd {a : Addr} {vs : List (Key × V)} {ds : List (Key × D)} : H a = some (.dK vs) → KvR K H N vs ds → RW K mg H N μ (.ref a) (.ownd ds)
  | tw {a : Addr} {vs : List V} {ws : List W} : ¬ N a → H a = some (.tup vs) → RWs K mg H N μ vs ws → RW K mg H N μ (.ref a) (.tw ws)
  | fn {a : Addr} {x : String} : mg (Str.ofString x) = some (.ref a) → RW K mg H N μ (.ref a) (.fn x)
  | scr {a : Addr} {xs : List Int} : RdF K H N a (xs.map V.int) → RW K mg H N μ (.ref a) (.scr xs)
inductive RWs (K : PySem.W.Frag) (mg : Str → Option Value) (H : Hp) (N : Addr → Prop) (μ : List Addr) : List V → List W → Prop
  | nil : RWs K mg H N μ [] []
  | cons {v : V} {vs : List V} {w : W} {ws : List W} : RW K mg H N μ v w → RWs K mg H N μ vs ws → RWs K mg H N μ (v :: vs) (w :: ws)
end
mutual
/-- without anything of one's own -/
def W.plain : W → Bool
  | .d _ => true
  | .ref _ => true
  | .own _ => false
  | .ownd _ => false
  | .tw xs => W.plains xs
  | .fn _ => true
  | .scr _ => true
def W.plains : List W → Bool
  | [] => true
  | w :: ws => W.plain w && W.plains ws
end
section
variable {K : PySem.W.Frag} {mg : Str → Option Value} {H H' : Hp} {N N' : Addr → Prop} {μ μ' : List Addr}
theorem pre_get {μ μ' : List Addr} (p : μ <+: μ') {n : Nat} {a : Addr} (h : μ[n]? = some a) : μ'[n]? = some a := by
  obtain ⟨t, rfl⟩ := p
  have hl : n < μ.length := by
    rcases Nat.lt_or_ge n μ.length with q | q
    · exact q
    · rw [List.getElem?_eq_none q] at h; cases h
  rw [List.getElem?_append_left hl]
  exact h
mutual
theorem RW.keep (k : Keep N H N' H') (p : μ <+: μ') : ∀ {v : V} {w : W}, RW K mg H N μ v w → w.plain = true → RW K mg H' N' μ' v w
  | _, _, .d h, _ => .d (h.keep k)
  | _, _, .ref h, _ => .ref (pre_get p h)
  | _, _, .own _ _, e => by simp [W.plain] at e
  | _, _, .ownd _ _, e => by simp [W.plain] at e
  | _, _, .tw n h t, e => .tw (k _ _ n h).2 (k _ _ n h).1 (RWs.keep k p t (by simpa [W.plain] using e))
  | _, _, .fn h, _ => .fn h
  | _, _, .scr h, _ => .scr (h.keep k)
theorem RWs.keep (k : Keep N H N' H') (p : μ <+: μ') : ∀ {vs : List V} {ws : List W}, RWs K mg H N μ vs ws → W.plains ws = true → RWs K mg H' N' μ' vs ws
  | _, _, .nil, _ => .nil
  | _, _, .cons h t, e => by
    simp only [W.plains, Bool.and_eq_true] at e
    exact .cons (RW.keep k p h e.1) (RWs.keep k p t e.2)
end
theorem RWs.length : ∀ {vs : List V} {ws : List W}, RWs K mg H N μ vs ws → vs.length = ws.length
  | _, _, .nil => rfl
  | _, _, .cons _ t => congrArg (· + 1) (RWs.length t)
end

def W.isOwn : W → Bool
  | .own _ => true
  | .ownd _ => true
  | _ => false
/-- plain or one's own -/
def W.fine (w : W) : Bool := w.plain || w.isOwn
def OwnAt (σ : L2.St) (env : EnvQ) (i : Nat) (a : Addr) : Prop := σ[i]? = some (some (.ref a)) ∧ ∃ w, env[i]? = some (some w) ∧ w.isOwn = true
/-- what this code may change: the store, its own slots -/
def MM (μ : List Addr) (σ : L2.St) (env : EnvQ) : Addr → Prop := fun a => a ∈ μ ∨ ∃ i, OwnAt σ env i a
/-- .. and what its callers may (F): data hang on none of these -/
def NN (F : Addr → Prop) (μ : List Addr) (σ : L2.St) (env : EnvQ) : Addr → Prop := fun a => MM μ σ env a ∨ F a
inductive RO (K : PySem.W.Frag) (mg : Str → Option Value) (H : Hp) (N : Addr → Prop) (μ : List Addr) (a : Addr) : O → Prop
  | lst {vs : List V} {xs : List D} : H a = some (.lst vs) → DnAll K H N vs xs → RO K mg H N μ a (.lst xs)
  | ins {C : String} {c dx : Addr} {fvs : List (Str × V)} {fs : List (Str × W)} : mg (Str.ofString C) = some (.ref c) → H a = some (.ins c dx fvs) → fvs.map (·.1) = fs.map (·.1) →
      RWs K mg H N μ (fvs.map (·.2)) (fs.map (·.2)) → W.plains (fs.map (·.2)) = true → RO K mg H N μ a (.ins C fs)
  | dct {es : List (NK × Addr)} : H a = some (.ext (NestD a es)) → (∀ e ∈ es, Dn K H N (.ref e.2) (encN e.1)) → RO K mg H N μ a (.dct (es.map (·.1)))
/-- the store -/
structure SimS (K : PySem.W.Frag) (mg : Str → Option Value) (H : Hp) (N : Addr → Prop) (S : Sto) (μ : List Addr) : Prop where
  len : μ.length = S.length
  nd : μ.Nodup
  obj : ∀ (n : Nat) (o : O), S[n]? = some o → ∃ a, μ[n]? = some a ∧ RO K mg H N μ a o
structure Sim (K : PySem.W.Frag) (mg : Str → Option Value) (F : Addr → Prop) (σ : L2.St) (H : Hp) (env : EnvQ) (S : Sto) (μ : List Addr) : Prop where
  len : σ.length = env.length
  slot : ∀ (i : Nat) (w : W), env[i]? = some (some w) → ∃ v, σ[i]? = some (some v) ∧ RW K mg H (NN F μ σ env) μ v w
  fin : ∀ (i : Nat) (w : W), env[i]? = some (some w) → w.fine = true
  inj : ∀ (i j : Nat) (a : Addr), OwnAt σ env i a → OwnAt σ env j a → i = j
  apart : ∀ (i : Nat) (a : Addr), OwnAt σ env i a → a ∉ μ
  st : SimS K mg H (NN F μ σ env) S μ
  ftr : ∀ a, F a → ∃ u, H a = some u
  fdis : ∀ a, F a → ¬ MM μ σ env a
/-- from one state to a later one, the slots as they were -/
structure Ext (σ : L2.St) (env : EnvQ) (H : Hp) (μ : List Addr) (H' : Hp) (μ' : List Addr) : Prop where
  keep : Keep (MM μ σ env) H (MM μ' σ env) H'
  pre : μ <+: μ'
theorem Ext.trans {σ : L2.St} {env : EnvQ} {H H1 H2 : Hp} {μ μ1 μ2 : List Addr} (x : Ext σ env H μ H1 μ1) (y : Ext σ env H1 μ1 H2 μ2) : Ext σ env H μ H2 μ2 :=
  ⟨x.keep.trans y.keep, List.IsPrefix.trans x.pre y.pre⟩
section
variable (K : PySem.W.Frag) (mg : Str → Option Value) (EX : WX)
def Post {α : Type} (F : Addr → Prop) (σ : L2.St) (env : EnvQ) (H : Hp) (μ : List Addr) (r : R α) (P : α → Sto → Hp → List Addr → Prop) : Prop :=
  match r with
  | .ok a S' => ∀ H' μ', Sim K mg F σ H' env S' μ' → Ext σ env H μ H' μ' → P a S' H' μ'
  | .exc c S' => ∀ C H' μ', mg (Str.ofString c) = some (.ref C) → Sim K mg F σ H' env S' μ' → Ext σ env H μ H' μ' → EX (.ref C) none σ H'
  | .stuck => False
end
section
variable {K : PySem.W.Frag} {mg : Str → Option Value} {EX : WX} {F : Addr → Prop} {σ : L2.St} {env : EnvQ} {H H' : Hp} {S : Sto} {μ μ' : List Addr} {α β : Type}
theorem Post.ext {r : R α} {P : α → Sto → Hp → List Addr → Prop} (h : Post K mg EX F σ env H μ r P) (x : Ext σ env H μ H' μ') : Post K mg EX F σ env H' μ' r P := by
  cases r with
  | ok a S' => exact fun H2 μ2 s2 x2 => h H2 μ2 s2 (x.trans x2)
  | exc c S' => exact fun C H2 μ2 g s2 x2 => h C H2 μ2 g s2 (x.trans x2)
  | stuck => exact h
end

end Q

namespace Q
open PySem PySem.Spec PyProof.Rows L2

section
variable {K : PySem.W.Frag} {mg : Str → Option Value} {H : Hp} {N N' : Addr → Prop} {μ : List Addr}
theorem Keep.sub (h : ∀ a, N' a → N a) : Keep N H N' H := fun a _ n e => ⟨e, fun q => n (h a q)⟩
mutual
theorem RW.sub (h : ∀ a, N' a → N a) : ∀ {v : V} {w : W}, RW K mg H N μ v w → RW K mg H N' μ v w
  | _, _, .d t => .d (t.keep (Keep.sub h))
  | _, _, .ref t => .ref t
  | _, _, .own e t => .own e (t.keep (Keep.sub h))
  | _, _, .ownd e t => .ownd e (t.keep (Keep.sub h))
  | _, _, .tw n e t => .tw (fun q => n (h _ q)) e (RWs.sub h t)
  | _, _, .fn t => .fn t
  | _, _, .scr t => .scr (t.keep (Keep.sub h))
theorem RWs.sub (h : ∀ a, N' a → N a) : ∀ {vs : List V} {ws : List W}, RWs K mg H N μ vs ws → RWs K mg H N' μ vs ws
  | _, _, .nil => .nil
  | _, _, .cons t r => .cons (RW.sub h t) (RWs.sub h r)
end
theorem RO.sub (h : ∀ a, N' a → N a) {a : Addr} {o : O} (r : RO K mg H N μ a o) : RO K mg H N' μ a o := by
  cases r with
  | lst e t => exact .lst e (t.keep (Keep.sub h))
  | ins g e m t p => exact .ins g e m (RWs.sub h t) p
  | dct e t => exact .dct e fun x hx => (t x hx).keep (Keep.sub h)
theorem SimS.sub {S : Sto} (h : ∀ a, N' a → N a) (s : SimS K mg H N S μ) : SimS K mg H N' S μ := ⟨s.len, s.nd, fun n o e => let ⟨a, ha, r⟩ := s.obj n o e; ⟨a, ha, r.sub h⟩⟩
end

def NR (F : Addr → Prop) (μ : List Addr) : Addr → Prop := fun a => a ∈ μ ∨ F a
structure SimR (K : PySem.W.Frag) (mg : Str → Option Value) (F : Addr → Prop) (H : Hp) (S : Sto) (μ : List Addr) : Prop where
  st : SimS K mg H (NR F μ) S μ
  ftr : ∀ a, F a → ∃ u, H a = some u
  fdis : ∀ a, F a → a ∉ μ
section
variable {X : Cx} {cf : CF} {EX : WX} {F : Addr → Prop} {σ : L2.St} {env : EnvQ} {S S' : Sto} {H H' : Hp} {μ μ' : List Addr} {K : PySem.W.Frag} {mg : Str → Option Value}
/-- what one's own thing holds -/
inductive OwnR (K : PySem.W.Frag) (H : Hp) (N : Addr → Prop) : HO → W → Prop
  | lst {vs : List V} {xs : List D} : DnAll K H N vs xs → OwnR K H N (.lst vs) (.own xs)
  | dct {vs : List (Key × V)} {ds : List (Key × D)} : KvR K H N vs ds → OwnR K H N (.dK vs) (.ownd ds)
theorem OwnR.keep {N N' : Addr → Prop} {H' : Hp} {o : HO} {w : W} (k : Keep N H N' H') (h : OwnR K H N o w) : OwnR K H' N' o w := by
  cases h with
  | lst t => exact .lst (t.keep k)
  | dct t => exact .dct (t.keep k)
theorem OwnR.rw {N : Addr → Prop} {o : HO} {w : W} {a : Addr} (h : OwnR K H N o w) (e : H a = some o) : RW K mg H N μ (.ref a) w := by
  cases h with
  | lst t => exact .own e t
  | dct t => exact .ownd e t
end
end Q

namespace Q
open PySem PySem.Spec PyProof.Rows L2

inductive RS where
  | next (env : EnvQ) (S : Sto)
  | ret (w : W) (S : Sto)
  | brk (env : EnvQ) (S : Sto)
  | cont (env : EnvQ) (S : Sto)
  | exc (c : String) (env : EnvQ) (S : Sto)
  | stuck
abbrev SS := CF → EnvQ → Sto → RS
def RS.seq (r : RS) (f : EnvQ → Sto → RS) : RS := match r with
  | .next env S => f env S
  | r => r
structure ExS (σ : L2.St) (env : EnvQ) (H : Hp) (μ : List Addr) (σ' : L2.St) (env' : EnvQ) (H' : Hp) (μ' : List Addr) : Prop where
  keep : Keep (MM μ σ env) H (MM μ' σ' env') H'
  pre : μ <+: μ'
theorem ExS.trans {σ σ1 σ2 : L2.St} {env env1 env2 : EnvQ} {H H1 H2 : Hp} {μ μ1 μ2 : List Addr} (x : ExS σ env H μ σ1 env1 H1 μ1) (y : ExS σ1 env1 H1 μ1 σ2 env2 H2 μ2) : ExS σ env H μ σ2 env2 H2 μ2 :=
  ⟨x.keep.trans y.keep, List.IsPrefix.trans x.pre y.pre⟩
theorem Ext.s {σ : L2.St} {env : EnvQ} {H H' : Hp} {μ μ' : List Addr} (x : Ext σ env H μ H' μ') : ExS σ env H μ σ env H' μ' := ⟨x.keep, x.pre⟩
section
variable (K : PySem.W.Frag) (mg : Str → Option Value) (EX : WX)
def PostS (F : Addr → Prop) (σ : L2.St) (env : EnvQ) (H : Hp) (μ : List Addr) (r : RS) (D : Ends) : Prop :=
  match r with
  | .next env' S' => ∀ σ' H' μ', Sim K mg F σ' H' env' S' μ' → ExS σ env H μ σ' env' H' μ' → D.nx σ' H'
  | .brk env' S' => ∀ σ' H' μ', Sim K mg F σ' H' env' S' μ' → ExS σ env H μ σ' env' H' μ' → D.bk σ' H'
  | .cont env' S' => ∀ σ' H' μ', Sim K mg F σ' H' env' S' μ' → ExS σ env H μ σ' env' H' μ' → D.ct σ' H'
  | .ret w S' => ∀ v H' μ', SimR K mg F H' S' μ' → Keep (MM μ σ env) H (· ∈ μ') H' → μ <+: μ' → RW K mg H' (NR F μ') μ' v w → D.rt v H'
  | .exc c env' S' => ∀ C σ' H' μ', mg (Str.ofString c) = some (.ref C) → Sim K mg F σ' H' env' S' μ' → ExS σ env H μ σ' env' H' μ' → EX (.ref C) none σ' H'
  | .stuck => False
end
section
variable {K : PySem.W.Frag} {mg : Str → Option Value} {EX : WX} {F : Addr → Prop} {σ σ' : L2.St} {env env' : EnvQ} {H H' : Hp} {S : Sto} {μ μ' : List Addr} {D D' : Ends}
theorem PostS.ext {r : RS} (h : PostS K mg EX F σ env H μ r D) (x : ExS σ env H μ σ' env' H' μ') : PostS K mg EX F σ' env' H' μ' r D := by
  cases r with
  | next e S' => exact fun σ2 H2 μ2 s2 x2 => h σ2 H2 μ2 s2 (x.trans x2)
  | brk e S' => exact fun σ2 H2 μ2 s2 x2 => h σ2 H2 μ2 s2 (x.trans x2)
  | cont e S' => exact fun σ2 H2 μ2 s2 x2 => h σ2 H2 μ2 s2 (x.trans x2)
  | ret w S' => exact fun v H2 μ2 s2 k2 p2 => h v H2 μ2 s2 (x.keep.trans k2) (List.IsPrefix.trans x.pre p2)
  | exc c e S' => exact fun C σ2 H2 μ2 g s2 x2 => h C σ2 H2 μ2 g s2 (x.trans x2)
  | stuck => exact h
theorem PostS.seq {r : RS} {f : EnvQ → Sto → RS} (h : PostS K mg EX F σ env H μ (r.seq f) D) : PostS K mg EX F σ env H μ r { D with nx := fun σ' H' => ∃ env' S' μ', Sim K mg F σ' H' env' S' μ' ∧ PostS K mg EX F σ' env' H' μ' (f env' S') D } := by
  cases r with
  | next e S' => exact fun σ2 H2 μ2 s2 x2 => ⟨e, S', μ2, s2, PostS.ext h x2⟩
  | brk e S' => exact h
  | cont e S' => exact h
  | ret w S' => exact h
  | exc c e S' => exact h
  | stuck => exact h
end
/-- where an item goes -/
inductive Tg where
  | name (i : Nat)
  | names (is : List Nat)
def setAll : List Nat → List D → EnvQ → Option EnvQ
  | [], [], env => some env
  | i :: is, d :: ds, env => setAll is ds (env.set i (some (.d d)))
  | _, _, _ => none
def Tg.set : Tg → D → EnvQ → Option EnvQ
  | .name i, d, env => some (env.set i (some (.d d)))
  | .names is, .tuple ds, env => setAll is ds env
  | _, _, _ => none
section
variable {X : Cx} {cf : CF} {EX : WX} {F : Addr → Prop} {σ : L2.St} {env : EnvQ} {S S' : Sto} {H H' : Hp} {μ μ' : List Addr} {K : PySem.W.Frag} {mg : Str → Option Value} {st : Stmt} {sts body : List Stmt} {e c : Expr} {fa fb : SE} {gc : ST} {ha : SA} {f g : SS} {pos p : Pos} {x : Str}
theorem set_get {α : Type} {l : List α} {i j : Nat} {x y : α} (h : (l.set i x)[j]? = some y) : (j = i ∧ y = x) ∨ (j ≠ i ∧ l[j]? = some y) := by
  by_cases e : j = i
  · subst e
    by_cases hl : j < l.length
    · rw [List.getElem?_set_self hl] at h
      exact .inl ⟨rfl, (Option.some.inj h).symm⟩
    · rw [List.getElem?_eq_none (by simpa using hl)] at h
      cases h
  · rw [List.getElem?_set_ne (Ne.symm e)] at h
    exact .inr ⟨e, h⟩
theorem fine_own {w : W} (h : w.isOwn = true) : w.plain = false := by
  cases w <;> first | rfl | simp [W.isOwn] at h
theorem own_set {i j : Nat} {v : V} {w : W} {a : Addr} (pw : w.isOwn = false) (hl : σ.length = env.length) (h : OwnAt (σ.set i (some v)) (env.set i (some w)) j a) : j ≠ i ∧ OwnAt σ env j a := by
  obtain ⟨h1, u, h2, h3⟩ := h
  rcases set_get h2 with ⟨e, z⟩ | ⟨n, z⟩
  · cases z
    rw [pw] at h3
    cases h3
  · rcases set_get h1 with ⟨e, _⟩ | ⟨_, y⟩
    · exact absurd e n
    · exact ⟨n, y, u, z, h3⟩
theorem plain_notOwn {w : W} (h : w.plain = true) : w.isOwn = false := by
  cases e : w.isOwn with
  | false => rfl
  | true => rw [fine_own e] at h; cases h
theorem Sim.set (s : Sim K mg F σ H env S μ) {i : Nat} {v : V} {w : W} (pw : w.plain = true) (r : RW K mg H (NN F μ σ env) μ v w) : Sim K mg F (σ.set i (some v)) H (env.set i (some w)) S μ ∧ ExS σ env H μ (σ.set i (some v)) (env.set i (some w)) H μ := by
  have no := plain_notOwn pw
  have sub : ∀ a, MM μ (σ.set i (some v)) (env.set i (some w)) a → MM μ σ env a := fun a h => h.elim .inl fun ⟨j, h⟩ => .inr ⟨j, (own_set no s.len h).2⟩
  have subN : ∀ a, NN F μ (σ.set i (some v)) (env.set i (some w)) a → NN F μ σ env a := fun a h => h.elim (fun h => .inl (sub a h)) .inr
  refine ⟨⟨by simpa using s.len, fun j u e => ?_, fun j u e => ?_, fun j k a h1 h2 => s.inj j k a (own_set no s.len h1).2 (own_set no s.len h2).2, fun j a h => s.apart j a (own_set no s.len h).2, s.st.sub subN, s.ftr, fun a f h => s.fdis a f (sub a h)⟩, Keep.sub sub, List.prefix_refl _⟩
  · rcases set_get e with ⟨z, y⟩ | ⟨n, z⟩
    · subst z
      cases y
      have hl : j < σ.length := by
        rw [s.len]
        have q := (List.getElem?_eq_some_iff.mp e).1
        simpa using q
      exact ⟨v, List.getElem?_set_self hl, RW.sub subN r⟩
    · obtain ⟨v', h1, h2⟩ := s.slot j u z
      exact ⟨v', by rw [List.getElem?_set_ne (Ne.symm n)]; exact h1, RW.sub subN h2⟩
  · rcases set_get e with ⟨z, y⟩ | ⟨n, z⟩
    · cases y
      unfold W.fine
      rw [pw, Bool.true_or]
    · exact s.fin j u z
end
end Q

namespace Q
open PySem PySem.Spec PyProof.Rows L2
mutual
/-- the value as the top left it is this datum -/
def datB (K : PySem.W.Frag) : D → Value → Bool
  | .none, .none => true
  | .bool b, .bool c => b == c
  | .int i, .int j _ => decide (i = j)
  | .str i, .str j _ => decide (i = j)
  | .tuple ds, .ref a => (match K.lookup a with
    | some ⟨.type c, _, .seq us _, _⟩ => decide (c = "tuple") && (decide (us.size ≤ sizeLine) && datsB K ds us.toList)
    | _ => false)
  | _, _ => false
def datsB (K : PySem.W.Frag) : List D → List Value → Bool
  | [], [] => true
  | d :: ds, u :: us => datB K d u && datsB K ds us
  | _, _ => false
end
/-- the module's name x holds this datum -/
def conB (K : PySem.W.Frag) (x : Str) (d : D) : Bool := datB K d (.ref (He.ga K x))
def consB (cs : List (Str × D)) (K : PySem.W.Frag) : Bool := cs.all fun p => conB K p.1 p.2
abbrev AlQ : Type := He.AlD × Bool
def obsQ (n : Nat) (fa : List He.Fa) (fn : List He.DefD) (ex : PySem.W.Frag → Bool) (g : Addr → Option Obj) : AlQ := (He.obsD fa fn (He.frG g (He.asD g n)), ex (He.frG g (He.asD g n)))
def hookQ (n : Nat) (fa : List He.Fa) (fn : List He.DefD) (ex : PySem.W.Frag → Bool) : PySem.W.Hook where
  α := AlQ
  obs := fun s => obsQ n fa fn ex s.heap.get?
  val := fun _ => (He.valD fn, true)
  says := fun _ h => ∃ K : PySem.W.Frag, K.In h ∧ He.SaysD fa fn K ∧ ex K = true
  of := fun _ _ e => ⟨_, He.frG_in, congrArg (fun z : AlQ => z.1) e, congrArg (fun z : AlQ => z.2) e⟩
  keeps := fun _ _ _ ⟨K, hK, c⟩ k => ⟨K, PySem.W.Frag.In.keeps hK k, c⟩
end Q

namespace Q
open PySem PySem.Spec PyProof.Rows L2
def top (i : Nat) : Stmt := PySem.Challenge.pw_domelights_k37_whole_leads_of_scenes_tur.main.body.getD i (.Pass ⟨0, 0, 0, 0⟩)
abbrev s_is_whole : Stmt := top 12
abbrev s_is_among : Stmt := top 13
abbrev s_is_row : Stmt := top 14
abbrev s_is_light_of : Stmt := top 15
abbrev s_is_sky : Stmt := top 16
abbrev s_need_sky : Stmt := top 17
abbrev s_is_item : Stmt := top 25
abbrev s_are_items : Stmt := top 26
abbrev s_size_of : Stmt := top 27
abbrev s_is_scene_by : Stmt := top 28
abbrev s_need_scene : Stmt := top 29
abbrev s_need_both_scenes : Stmt := top 30
abbrev s_beats_of : Stmt := top 32
abbrev s_marks_in : Stmt := top 33
abbrev s_marks_of : Stmt := top 34
abbrev s_about : Stmt := top 35
abbrev s_turned_about : Stmt := top 36
abbrev s_is_tune : Stmt := top 42
abbrev s_need_tune : Stmt := top 43
abbrev s_begins_of : Stmt := top 44
abbrev s_marks_by : Stmt := top 45
abbrev s_need_both_tunes : Stmt := top 46
abbrev s_lefts_by : Stmt := top 48
abbrev s_marks_left : Stmt := top 49
abbrev s_is_tied : Stmt := top 50
abbrev s_loose_by : Stmt := top 51
abbrev s_tied : Stmt := top 52
abbrev s_shows_tied : Stmt := top 53
abbrev s__law_cell_at : Stmt := top 55
abbrev s__law_pen : Stmt := top 56
abbrev s__law_draw : Stmt := top 57
abbrev s__law_pick : Stmt := top 58
abbrev s__law_sky : Stmt := top 59
abbrev s__law_item : Stmt := top 60
abbrev s__law_scene : Stmt := top 61
abbrev s__law_tune : Stmt := top 62
abbrev s__law_small_scene : Stmt := top 63
abbrev s__law_many : Stmt := top 64
abbrev s__law_all_leads : Stmt := top 65
abbrev s__law_marks_right : Stmt := top 66
abbrev s__law_leads_right : Stmt := top 67
abbrev s__law_flat : Stmt := top 68
abbrev s__law_deep : Stmt := top 69
abbrev s_law : Stmt := top 70
end Q

set_option maxHeartbeats 0
namespace Q
open PySem PySem.Spec PyProof.Rows L2
def d_is_whole : He.DefD := ⟨("is_whole", none), "is_whole", "is_whole", defArgs s_is_whole, defBody s_is_whole, defScope s_is_whole, [], []⟩
def d_is_among : He.DefD := ⟨("is_among", none), "is_among", "is_among", defArgs s_is_among, defBody s_is_among, defScope s_is_among, [], []⟩
def d_is_row : He.DefD := ⟨("is_row", none), "is_row", "is_row", defArgs s_is_row, defBody s_is_row, defScope s_is_row, [], []⟩
def d_is_light_of : He.DefD := ⟨("is_light_of", none), "is_light_of", "is_light_of", defArgs s_is_light_of, defBody s_is_light_of, defScope s_is_light_of, [], []⟩
def d_is_sky : He.DefD := ⟨("is_sky", none), "is_sky", "is_sky", defArgs s_is_sky, defBody s_is_sky, defScope s_is_sky, [], []⟩
def d_need_sky : He.DefD := ⟨("need_sky", none), "need_sky", "need_sky", defArgs s_need_sky, defBody s_need_sky, defScope s_need_sky, [], []⟩
def d_is_item : He.DefD := ⟨("is_item", none), "is_item", "is_item", defArgs s_is_item, defBody s_is_item, defScope s_is_item, [], []⟩
def d_are_items : He.DefD := ⟨("are_items", none), "are_items", "are_items", defArgs s_are_items, defBody s_are_items, defScope s_are_items, [], []⟩
def d_size_of : He.DefD := ⟨("size_of", none), "size_of", "size_of", defArgs s_size_of, defBody s_size_of, defScope s_size_of, [], []⟩
def d_is_scene_by : He.DefD := ⟨("is_scene_by", none), "is_scene_by", "is_scene_by", defArgs s_is_scene_by, defBody s_is_scene_by, defScope s_is_scene_by, [], []⟩
def d_need_scene : He.DefD := ⟨("need_scene", none), "need_scene", "need_scene", defArgs s_need_scene, defBody s_need_scene, defScope s_need_scene, [], []⟩
def d_need_both_scenes : He.DefD := ⟨("need_both_scenes", none), "need_both", "need_both", defArgs s_need_both_scenes, defBody s_need_both_scenes, defScope s_need_both_scenes, [], []⟩
def d_beats_of : He.DefD := ⟨("beats_of", none), "beats_of", "beats_of", defArgs s_beats_of, defBody s_beats_of, defScope s_beats_of, [], []⟩
def d_marks_in : He.DefD := ⟨("marks_in", none), "marks_in", "marks_in", defArgs s_marks_in, defBody s_marks_in, defScope s_marks_in, [], []⟩
def d_marks_of : He.DefD := ⟨("marks_of", none), "marks_of", "marks_of", defArgs s_marks_of, defBody s_marks_of, defScope s_marks_of, [], []⟩
def d_about : He.DefD := ⟨("about", none), "about", "about", defArgs s_about, defBody s_about, defScope s_about, [], []⟩
def d_turned_about : He.DefD := ⟨("turned_about", none), "turned_about", "turned_about", defArgs s_turned_about, defBody s_turned_about, defScope s_turned_about, [], []⟩
def d_is_tune : He.DefD := ⟨("is_tune", none), "is_tune", "is_tune", defArgs s_is_tune, defBody s_is_tune, defScope s_is_tune, [], []⟩
def d_need_tune : He.DefD := ⟨("need_tune", none), "need_tune", "need_tune", defArgs s_need_tune, defBody s_need_tune, defScope s_need_tune, [], []⟩
def d_begins_of : He.DefD := ⟨("begins_of", none), "begins_of", "begins_of", defArgs s_begins_of, defBody s_begins_of, defScope s_begins_of, [], []⟩
def d_marks_by : He.DefD := ⟨("marks_by", none), "marks_by", "marks_by", defArgs s_marks_by, defBody s_marks_by, defScope s_marks_by, [], []⟩
def d_need_both_tunes : He.DefD := ⟨("need_both_tunes", none), "need_both", "need_both", defArgs s_need_both_tunes, defBody s_need_both_tunes, defScope s_need_both_tunes, [], []⟩
def d_lefts_by : He.DefD := ⟨("lefts_by", none), "lefts_by", "lefts_by", defArgs s_lefts_by, defBody s_lefts_by, defScope s_lefts_by, [], []⟩
def d_marks_left : He.DefD := ⟨("marks_left", none), "marks_left", "marks_left", defArgs s_marks_left, defBody s_marks_left, defScope s_marks_left, [], []⟩
def d_is_tied : He.DefD := ⟨("is_tied", none), "is_tied", "is_tied", defArgs s_is_tied, defBody s_is_tied, defScope s_is_tied, [], []⟩
def d_loose_by : He.DefD := ⟨("loose_by", none), "loose_by", "loose_by", defArgs s_loose_by, defBody s_loose_by, defScope s_loose_by, [], []⟩
def d_tied : He.DefD := ⟨("tied", none), "tied", "tied", defArgs s_tied, defBody s_tied, defScope s_tied, [], []⟩
def d_shows_tied : He.DefD := ⟨("shows_tied", none), "shows_tied", "shows_tied", defArgs s_shows_tied, defBody s_shows_tied, defScope s_shows_tied, [], []⟩
def d__law_cell_at : He.DefD := ⟨("_law_cell_at", none), "_law_cell_at", "_law_cell_at", defArgs s__law_cell_at, defBody s__law_cell_at, defScope s__law_cell_at, [], []⟩
def d__law_pen : He.DefD := ⟨("_law_pen", none), "_law_pen", "_law_pen", defArgs s__law_pen, defBody s__law_pen, defScope s__law_pen, [], []⟩
def d__law_draw : He.DefD := ⟨("_law_draw", none), "_law_draw", "_law_draw", defArgs s__law_draw, defBody s__law_draw, defScope s__law_draw, [], []⟩
def d__law_pick : He.DefD := ⟨("_law_pick", none), "_law_pick", "_law_pick", defArgs s__law_pick, defBody s__law_pick, defScope s__law_pick, [], []⟩
def d__law_sky : He.DefD := ⟨("_law_sky", none), "_law_sky", "_law_sky", defArgs s__law_sky, defBody s__law_sky, defScope s__law_sky, [], []⟩
def d__law_item : He.DefD := ⟨("_law_item", none), "_law_item", "_law_item", defArgs s__law_item, defBody s__law_item, defScope s__law_item, [], []⟩
def d__law_scene : He.DefD := ⟨("_law_scene", none), "_law_scene", "_law_scene", defArgs s__law_scene, defBody s__law_scene, defScope s__law_scene, [], []⟩
def d__law_tune : He.DefD := ⟨("_law_tune", none), "_law_tune", "_law_tune", defArgs s__law_tune, defBody s__law_tune, defScope s__law_tune, [], []⟩
def d__law_small_scene : He.DefD := ⟨("_law_small_scene", none), "_law_small_scene", "_law_small_scene", defArgs s__law_small_scene, defBody s__law_small_scene, defScope s__law_small_scene, [], []⟩
def d__law_many : He.DefD := ⟨("_law_many", none), "_law_many", "_law_many", defArgs s__law_many, defBody s__law_many, defScope s__law_many, [], []⟩
def d__law_all_leads : He.DefD := ⟨("_law_all_leads", none), "_law_all_leads", "_law_all_leads", defArgs s__law_all_leads, defBody s__law_all_leads, defScope s__law_all_leads, [], []⟩
def d__law_marks_right : He.DefD := ⟨("_law_marks_right", none), "_law_marks_right", "_law_marks_right", defArgs s__law_marks_right, defBody s__law_marks_right, defScope s__law_marks_right, [], []⟩
def d__law_leads_right : He.DefD := ⟨("_law_leads_right", none), "_law_leads_right", "_law_leads_right", defArgs s__law_leads_right, defBody s__law_leads_right, defScope s__law_leads_right, [], []⟩
def d__law_flat : He.DefD := ⟨("_law_flat", none), "_law_flat", "_law_flat", defArgs s__law_flat, defBody s__law_flat, defScope s__law_flat, [], []⟩
def d__law_deep : He.DefD := ⟨("_law_deep", none), "_law_deep", "_law_deep", defArgs s__law_deep, defBody s__law_deep, defScope s__law_deep, [], []⟩
def d_law : He.DefD := ⟨("law", none), "law", "law", defArgs s_law, defBody s_law, defScope s_law, [], []⟩
def fn0 : List He.DefD := [d_is_whole, d_is_among, d_is_row, d_is_light_of, d_is_sky, d_need_sky, d_is_item, d_are_items, d_size_of, d_is_scene_by, d_need_scene, d_need_both_scenes, d_beats_of, d_marks_in, d_marks_of, d_about, d_turned_about, d_is_tune, d_need_tune, d_begins_of]
def fn1 : List He.DefD := [d_marks_by, d_need_both_tunes, d_lefts_by, d_marks_left, d_is_tied, d_loose_by, d_tied, d_shows_tied, d__law_cell_at, d__law_pen, d__law_draw, d__law_pick, d__law_sky, d__law_item, d__law_scene, d__law_tune, d__law_small_scene, d__law_many, d__law_all_leads, d__law_marks_right]
def fn2 : List He.DefD := [d__law_leads_right, d__law_flat, d__law_deep, d_law]
def fn : List He.DefD := fn0 ++ fn1 ++ fn2
def fa0 : List He.Fa := [.glo "is_whole", .glo "is_among", .glo "is_row", .glo "is_light_of", .glo "is_sky", .glo "need_sky", .glo "is_item", .glo "are_items", .glo "size_of", .glo "is_scene_by", .glo "need_scene", .glo "need_both_scenes", .glo "beats_of", .glo "marks_in", .glo "marks_of", .glo "about", .glo "turned_about", .glo "is_tune", .glo "need_tune", .glo "begins_of"]
def fa1 : List He.Fa := [.glo "marks_by", .glo "need_both_tunes", .glo "lefts_by", .glo "marks_left", .glo "is_tied", .glo "loose_by", .glo "tied", .glo "shows_tied", .glo "_law_cell_at", .glo "_law_pen", .glo "_law_draw", .glo "_law_pick", .glo "_law_sky", .glo "_law_item", .glo "_law_scene", .glo "_law_tune", .glo "_law_small_scene", .glo "_law_many", .glo "_law_all_leads", .glo "_law_marks_right"]
def fa2 : List He.Fa := [.glo "_law_leads_right", .glo "_law_flat", .glo "_law_deep", .glo "law", .free "all", .free "bool", .free "enumerate", .free "int", .free "isinstance", .free "len", .free "list", .free "max", .free "min", .free "range", .free "set", .free "sorted", .free "str", .free "sum", .free "tuple", .str "AGAIN" "again"]
def fa3 : List He.Fa := [.int "LEAST_WIDE" 4, .int "MOST_BARS" 8, .int "MOST_BEATS" 100000000000, .int "MOST_DEEP" 3, .int "MOST_GO" 99, .int "MOST_HIGH" 5, .int "MOST_ITEMS" 8, .int "MOST_LIGHTS" 6, .int "MOST_LONG" 12, .int "MOST_ROWS" 4, .int "MOST_SPEED" 9, .int "MOST_TIMES" 1000000, .int "MOST_WIDE" 12, .str "NEVER" "never", .str "TIED" "tied"]
def fa : List He.Fa := fa0 ++ fa1 ++ fa2 ++ fa3
def loose0 : List Str := ["_law_all_leads", "_law_cell_at", "_law_deep", "_law_draw", "_law_flat", "_law_item", "_law_leads_right", "_law_many", "_law_marks_right", "_law_pen", "_law_pick", "_law_scene", "_law_sky", "_law_small_scene", "_law_tune", "about", "are_items", "beats_of", "begins_of", "is_among"]
def loose1 : List Str := ["is_item", "is_light_of", "is_row", "is_scene_by", "is_sky", "is_tied", "is_tune", "is_whole", "lefts_by", "loose_by", "marks_by", "marks_in", "marks_left", "marks_of", "need_both", "need_both_scenes", "need_both_tunes", "need_scene", "need_sky", "need_tune"]
def loose2 : List Str := ["shows_tied", "size_of", "tied", "turned_about", "LEAST_WIDE", "MOST_WIDE", "MOST_HIGH", "MOST_LIGHTS", "MOST_SPEED", "MOST_ROWS", "MOST_GO", "MOST_TIMES", "MOST_ITEMS", "MOST_DEEP", "MOST_BEATS", "AGAIN", "MOST_BARS", "MOST_LONG", "TIED", "NEVER"]
def loose3 : List Str := ["DomeError", "NoSky", "NoScene", "NoTune"]
def loose : List Str := loose0 ++ loose1 ++ loose2 ++ loose3
abbrev RR : PySem.W.OpenRow := PySem.W.OpenLaw.row PySem.Challenge.rw_domelights_k37_whole_leads_of_scenes_tur
def cs : List (Str × D) := []
abbrev hk : PySem.W.Hook := hookQ 4 fa fn (consB cs)
def ob (s : PySem.W.SharedT) : AlQ := obsQ 4 fa fn (consB cs) (HandSHeadRun.getT s)
theorem run (w : World) : HandSHeadRun.RunEq RR (PySem.W.view RR.prog [70]) hk ob 40000 loose w := by
  intro os
  kernel_rfl
end Q

open PySem PySem.W PySem.Calls PyProof.Rows
set_option maxHeartbeats 4000000
namespace Q
open PySem PySem.Spec PyProof.Rows L2

def R.bind {α β : Type} : R α → (α → Sto → R β) → R β
  | .ok a S, f => f a S
  | .exc c S, _ => .exc c S
  | .stuck, _ => .stuck
@[simp] theorem R.bind_ok {α β : Type} (a : α) (S : Sto) (f : α → Sto → R β) : (R.ok a S).bind f = f a S := rfl
@[simp] theorem R.bind_exc {α β : Type} (c : String) (S : Sto) (f : α → Sto → R β) : (R.exc c S : R α).bind f = .exc c S := rfl
@[simp] theorem R.bind_stuck {α β : Type} (f : α → Sto → R β) : (R.stuck : R α).bind f = .stuck := rfl
theorem Keep.refl (N : Addr → Prop) (H : Hp) : Keep N H N H := fun _ _ n e => ⟨e, n⟩
section
variable {K : PySem.W.Frag} {mg : Str → Option Value} {H H' : Hp} {N N' : Addr → Prop}
theorem sqL_none {a : Addr} {xs : List V} (h : SqL K (fun _ => none) a xs) (H : Hp) : SqL K H a xs := by
  rcases h with (h | ⟨_, h⟩) | h
  · cases h
  · cases h
  · exact .inr h
theorem sqT_none {a : Addr} {xs : List V} (h : SqT K (fun _ => none) a xs) (H : Hp) : SqT K H a xs := by
  rcases h with (h | ⟨_, h⟩) | h
  · cases h
  · cases h
  · exact .inr h
theorem RdL.sq {a : Addr} {xs : List V} (h : RdL K H N a xs) : SqL K H a xs := SqL.of h.2
theorem RdT.sq {a : Addr} {xs : List V} (h : RdT K H N a xs) : SqT K H a xs := h.elim (fun h => .inl h.2) fun h => sqT_none h H
theorem RdF.sq {a : Addr} {xs : List V} (h : RdF K H N a xs) : SqL K H a xs := h.elim (fun h => .inl h.2) fun h => sqL_none h H
theorem KvR.keys : ∀ {vs : List (Key × V)} {ds : List (Key × D)}, KvR K H N vs ds → vs.map (·.1) = ds.map (·.1)
  | _, _, .nil => rfl
  | _, _, .cons i _ t => congrArg (i :: ·) (KvR.keys t)
theorem DnAll.get : ∀ {vs : List V} {ds : List D} {i : Nat} {d : D}, DnAll K H N vs ds → ds[i]? = some d → ∃ v, vs[i]? = some v ∧ Dn K H N v d
  | _, _, _, _, .nil, e => by simp at e
  | _, _, 0, _, .cons h _, e => by simp at e; subst e; exact ⟨_, rfl, h⟩
  | _, _, i + 1, d, .cons _ t, e => by
    obtain ⟨v, h1, h2⟩ := DnAll.get (i := i) (d := d) t (by simpa using e)
    exact ⟨v, by simpa using h1, h2⟩
theorem DnAll.append : ∀ {xs ys : List V} {ds es : List D}, DnAll K H N xs ds → DnAll K H N ys es → DnAll K H N (xs ++ ys) (ds ++ es)
  | _, _, _, _, .nil, h => h
  | _, _, _, _, .cons r t, h => .cons r (DnAll.append t h)
theorem DnAll.take : ∀ {xs : List V} {ds : List D} (n : Nat), DnAll K H N xs ds → DnAll K H N (xs.take n) (ds.take n)
  | _, _, 0, _ => by simpa using DnAll.nil
  | _, _, _ + 1, .nil => by simpa using DnAll.nil
  | _, _, n + 1, .cons r t => by simpa using DnAll.cons r (DnAll.take n t)
theorem DnAll.drop : ∀ {xs : List V} {ds : List D} (n : Nat), DnAll K H N xs ds → DnAll K H N (xs.drop n) (ds.drop n)
  | _, _, 0, h => by simpa using h
  | _, _, _ + 1, .nil => by simpa using DnAll.nil
  | _, _, n + 1, .cons _ t => by simpa using DnAll.drop n t
theorem DnAll.reverse {xs : List V} {ds : List D} (h : DnAll K H N xs ds) : DnAll K H N xs.reverse ds.reverse := by
  induction xs generalizing ds with
  | nil => cases h; exact .nil
  | cons v vs ih =>
    cases h with
    | cons r t =>
      rw [List.reverse_cons, List.reverse_cons]
      exact (ih t).append (.cons r .nil)
mutual
theorem Dn.dp : ∀ {v : V} {d : D}, Dn K H N v d → (∀ kvs, d ≠ .dict kvs) → d.hasDict = false → Dp K H v d
  | _, _, .non, _, _ => .non
  | _, _, .bl b, _, _ => .bl b
  | _, _, .int i, _, _ => .int i
  | _, _, .str x, _, _ => .str x
  | _, _, .lst h t, _, e => .lst h.sq (DnAll.dp t (by simpa [PyData.hasDict] using e))
  | _, _, .tup h t, _, e => .tup h.sq (DnAll.dp t (by simpa [PyData.hasDict] using e))
  | _, _, .dic _ _ _, h, _ => absurd rfl (h _)
theorem DnAll.dp : ∀ {vs : List V} {ds : List D}, DnAll K H N vs ds → PyData.hasDictAll ds = false → DpAll K H vs ds
  | _, _, .nil, _ => .nil
  | _, d :: ds, .cons h t, e => by
    have e' : d.hasDict = false ∧ PyData.hasDictAll ds = false := by simpa [PyData.hasDictAll] using e
    exact .cons (Dn.dp h (fun kvs q => by subst q; simp [PyData.hasDict] at e') e'.1) (DnAll.dp t e'.2)
end
end

section
variable {K : PySem.W.Frag} {mg : Str → Option Value} {H H' : Hp} {N N' : Addr → Prop} {μ μ' : List Addr}
end

theorem Ext.nn {σ : L2.St} {env : EnvQ} {H H1 : Hp} {μ μ1 : List Addr} (x : Ext σ env H μ H1 μ1) (F : Addr → Prop) : Keep (NN F μ σ env) H (NN F μ1 σ env) H1 := fun a o n e =>
  let z := x.keep a o (fun q => n (.inl q)) e
  ⟨z.1, fun q => q.elim z.2 fun q => n (.inr q)⟩
theorem Ext.refl (σ : L2.St) (env : EnvQ) (H : Hp) (μ : List Addr) : Ext σ env H μ H μ := ⟨Keep.refl _ _, List.prefix_refl _⟩
section
variable {K : PySem.W.Frag} {mg : Str → Option Value} {F : Addr → Prop} {σ : L2.St} {env : EnvQ} {H H' : Hp} {S : Sto} {μ μ' : List Addr}
theorem RO.tracked {N : Addr → Prop} {a : Addr} {o : O} (h : RO K mg H N μ a o) : ∃ u, H a = some u := by
  cases h with
  | lst h _ => exact ⟨_, h⟩
  | ins _ h _ _ _ => exact ⟨_, h⟩
  | dct h _ => exact ⟨_, h⟩
theorem SimS.tracked {N : Addr → Prop} (h : SimS K mg H N S μ) {a : Addr} (m : a ∈ μ) : ∃ u, H a = some u := by
  obtain ⟨n, hn⟩ := List.getElem?_of_mem m
  have hl : n < S.length := by
    rw [← h.len]
    rcases Nat.lt_or_ge n μ.length with q | q
    · exact q
    · rw [List.getElem?_eq_none q] at hn; cases hn
  obtain ⟨b, hb, ro⟩ := h.obj n S[n] (by simp [hl])
  rw [hn] at hb
  cases hb
  exact ro.tracked
theorem RW.ownTracked {N : Addr → Prop} {a : Addr} {w : W} (h : RW K mg H N μ (.ref a) w) (o : w.isOwn = true) : ∃ u, H a = some u := by
  cases h with
  | own e _ => exact ⟨_, e⟩
  | ownd e _ => exact ⟨_, e⟩
  | d _ => simp [W.isOwn] at o
  | ref _ => simp [W.isOwn] at o
  | tw _ _ _ => simp [W.isOwn] at o
  | fn _ => simp [W.isOwn] at o
  | scr _ => simp [W.isOwn] at o
theorem Sim.tracked (h : Sim K mg F σ H env S μ) {a : Addr} (n : NN F μ σ env a) : ∃ u, H a = some u := by
  rcases n with (m | ⟨i, e, w, hw, o⟩) | f
  · exact h.st.tracked m
  · obtain ⟨v, hv, r⟩ := h.slot i w hw
    rw [e] at hv
    cases hv
    exact r.ownTracked o
  · exact h.ftr a f
theorem Sim.fresh (h : Sim K mg F σ H env S μ) {p : Addr} (n : H p = none) : ¬ NN F μ σ env p := fun q => by
  obtain ⟨u, e⟩ := h.tracked q
  rw [n] at e
  cases e
theorem Keep.upd_new {N : Addr → Prop} {p : Addr} {o : HO} (n : H p = none) : Keep N H N (upd H p o) := fun a u na e => by
  refine ⟨?_, na⟩
  rw [upd_ne (ne_of_none e n)]
  exact e
theorem ext_new {p : Addr} {o : HO} (n : H p = none) : Ext σ env H μ (upd H p o) μ := ⟨Keep.upd_new n, List.prefix_refl _⟩
theorem Same.upd_new {p : Addr} {o : HO} (n : H p = none) : Same H (upd H p o) := fun a u e => by
  rw [upd_ne (ne_of_none e n)]
  exact e
mutual
theorem RW.same {N : Addr → Prop} (s : Same H H') : ∀ {v : V} {w : W}, RW K mg H N μ v w → RW K mg H' N μ v w
  | _, _, .d h => .d (h.keep fun a o n e => ⟨s a o e, n⟩)
  | _, _, .ref h => .ref h
  | _, _, .own h t => .own (s _ _ h) (t.keep fun a o n e => ⟨s a o e, n⟩)
  | _, _, .ownd h t => .ownd (s _ _ h) (t.keep fun a o n e => ⟨s a o e, n⟩)
  | _, _, .tw n h t => .tw n (s _ _ h) (RWs.same s t)
  | _, _, .fn h => .fn h
  | _, _, .scr h => .scr (h.keep fun a o n e => ⟨s a o e, n⟩)
theorem RWs.same {N : Addr → Prop} (s : Same H H') : ∀ {vs : List V} {ws : List W}, RWs K mg H N μ vs ws → RWs K mg H' N μ vs ws
  | _, _, .nil => .nil
  | _, _, .cons h t => .cons (RW.same s h) (RWs.same s t)
end
theorem RO.same {N : Addr → Prop} (s : Same H H') {a : Addr} {o : O} (h : RO K mg H N μ a o) : RO K mg H' N μ a o := by
  cases h with
  | lst h t => exact .lst (s _ _ h) (t.keep fun a o n e => ⟨s a o e, n⟩)
  | ins g h m t p => exact .ins g (s _ _ h) m (RWs.same s t) p
  | dct h t => exact .dct (s _ _ h) fun x hx => (t x hx).keep fun a o n e => ⟨s a o e, n⟩
/-- what was tracked is still there: the state stands -/
theorem Sim.same (h : Sim K mg F σ H env S μ) (s : Same H H') : Sim K mg F σ H' env S μ where
  len := h.len
  slot := fun i w e => let ⟨v, hv, r⟩ := h.slot i w e; ⟨v, hv, RW.same s r⟩
  fin := h.fin
  inj := h.inj
  apart := h.apart
  st := ⟨h.st.len, h.st.nd, fun n o e => let ⟨a, ha, r⟩ := h.st.obj n o e; ⟨a, ha, r.same s⟩⟩
  ftr := fun a f => let ⟨u, e⟩ := h.ftr a f; ⟨u, s a u e⟩
  fdis := h.fdis
theorem Sim.new (h : Sim K mg F σ H env S μ) {p : Addr} {o : HO} (n : H p = none) : Sim K mg F σ (upd H p o) env S μ := h.same (Same.upd_new n)
theorem Ext.same (s : Same H H') : Ext σ env H μ H' μ := ⟨fun a o n e => ⟨s a o e, n⟩, List.prefix_refl _⟩
end

section
variable (K : PySem.W.Frag) (mg : Str → Option Value) (EX : WX)
end
section
variable {K : PySem.W.Frag} {mg : Str → Option Value} {EX : WX} {F : Addr → Prop} {σ : L2.St} {env : EnvQ} {H H' : Hp} {S : Sto} {μ μ' : List Addr} {α β : Type}
theorem Post.bind {r : R α} {g : α → Sto → R β} {P : β → Sto → Hp → List Addr → Prop} (h : Post K mg EX F σ env H μ (r.bind g) P) :
    Post K mg EX F σ env H μ r (fun a S' H' μ' => Post K mg EX F σ env H' μ' (g a S') P) := by
  cases r with
  | ok a S' => exact fun H2 μ2 s2 x2 => Post.ext h x2
  | exc c S' => exact h
  | stuck => exact h
theorem Post.mono {r : R α} {P P' : α → Sto → Hp → List Addr → Prop} (h : Post K mg EX F σ env H μ r P) (f : ∀ a S' H' μ', Sim K mg F σ H' env S' μ' → Ext σ env H μ H' μ' → P a S' H' μ' → P' a S' H' μ') :
    Post K mg EX F σ env H μ r P' := by
  cases r with
  | ok a S' => exact fun H2 μ2 s2 x2 => f _ _ _ _ s2 x2 (h H2 μ2 s2 x2)
  | exc c S' => exact h
  | stuck => exact h
theorem Post.ok {a : α} {P : α → Sto → Hp → List Addr → Prop} (h : Post K mg EX F σ env H μ (.ok a S) P) (s : Sim K mg F σ H' env S μ') (x : Ext σ env H μ H' μ') : P a S H' μ' := h H' μ' s x
end

section
variable (K : PySem.W.Frag) (mg : Str → Option Value) (cf : CF) (EX : WX)
def tE (f : SE) : TE := fun σ H Q => ∃ env S μ F, Sim K mg F σ H env S μ ∧ Post K mg EX F σ env H μ (f cf env S) fun w _ H' μ' => ∀ v, RW K mg H' (NN F μ' σ env) μ' v w → Q v H'
def tT (f : ST) : TT := fun σ H Q => ∃ env S μ F, Sim K mg F σ H env S μ ∧ Post K mg EX F σ env H μ (f cf env S) fun b _ H' _ => Q b H'
def tA (f : SA) : TA := fun σ H Q => ∃ env S μ F, Sim K mg F σ H env S μ ∧ Post K mg EX F σ env H μ (f cf env S) fun ws _ H' μ' => ∀ vs, RWs K mg H' (NN F μ' σ env) μ' vs ws → Q vs H'
end
def ME (X : Cx) (cf : CF) (EX : WX) (e : Expr) (f : SE) : Prop := PE X e (tE X.K X.mg cf EX f)
def MT (X : Cx) (cf : CF) (EX : WX) (e : Expr) (f : ST) : Prop := PT X e (tT X.K X.mg cf EX f)
def MW (X : Cx) (cf : CF) (EX : WX) (e : Expr) (f : ST) : Prop := PW X e (tT X.K X.mg cf EX f)
def MA (X : Cx) (cf : CF) (EX : WX) (es : List Expr) (f : SA) : Prop := PA X es (tA X.K X.mg cf EX f)
theorem PE.weak {X : Cx} {e : Expr} {t t' : TE} (h : PE X e t) (w : ∀ σ H Q, t' σ H Q → t σ H Q) : PE X e t' := ⟨fun pins s σ H Q I q => h.run pins s σ H Q I (w σ H Q q)⟩
theorem PT.weak {X : Cx} {e : Expr} {t t' : TT} (h : PT X e t) (w : ∀ σ H Q, t' σ H Q → t σ H Q) : PT X e t' := ⟨fun pins s σ H Q I q => h.run pins s σ H Q I (w σ H Q q)⟩
theorem PW.weak {X : Cx} {e : Expr} {t t' : TT} (h : PW X e t) (w : ∀ σ H Q, t' σ H Q → t σ H Q) : PW X e t' := ⟨fun wh pins s σ H Q I q => h.run wh pins s σ H Q I (w σ H Q q)⟩
theorem PA.weak {X : Cx} {es : List Expr} {t t' : TA} (h : PA X es t) (w : ∀ σ H Q, t' σ H Q → t σ H Q) : PA X es t' := ⟨fun pos pins s σ H Q I q => h.run pos pins s σ H Q I (w σ H Q q)⟩
theorem PS.weak {X : Cx} {st : Stmt} {t t' : TS} (h : PS X st t) (w : ∀ D σ H, t' D σ H → t D σ H) : PS X st t' := ⟨fun pins s σ H D I q => h.run pins s σ H D I (w D σ H q)⟩
theorem PSs.weak {X : Cx} {st : List Stmt} {t t' : TS} (h : PSs X st t) (w : ∀ D σ H, t' D σ H → t D σ H) : PSs X st t' := ⟨fun pins s σ H D I q => h.run pins s σ H D I (w D σ H q)⟩
end Q

namespace Q
open PySem PySem.Spec PyProof.Rows L2

/-- as FnOk, of calls without a guard around -/
structure FnG (P : Program) (w : World) (K : PySem.W.Frag) (mg : Str → Option Value) (base : Heap) (CX : CXT) (k : Nat) (f : Addr) (fd : FuncData) (ps : List Str) (sp : Sp) : Prop where
  len : ∀ vs H Q E, sp vs H Q E → vs.length = ps.length
  run : ∀ (A : Around) (outer : List Env) (s : Shared) (H : Hp) (args : Args) (us : List Value) (vs : List V) (Q : VK) (E : XK), A.guards = some [] → Room k A → Env0 P w K mg base A outer s H → BindsTo s fd args (ps.zip us) → Vals vs us → sp vs H Q E →
    codeAny (model P w) A (.call (.ref f) args) (CR CX outer P w H s Q E) s
section
variable {X : Cx} {k : Nat} {f : Addr} {fd : FuncData} {ps : List Str} {sp : Sp} {EX : WX} {x : Str} {p pos : Pos} {e : Expr} {es : List Expr} {t : TA}
theorem run_G {pins : List (Addr × Obj)} {σ : L2.St} {H : Hp} {s : Shared} {Q : VK} {us : List Value} {vs : List V} (F : FnG X.prog X.w X.K X.mg X.base (L2.CX X.prog X.w) k f fd ps sp) (hg : X.A.guards = some []) (hr : Room k X.A) (hb : Binds X.K fd ps []) (tk : Takes X EX)
    (I : Inv X pins σ H s) (r : Vals vs us) (h : sp vs H Q (WE EX σ)) : wpAny (model X.prog X.w) X.A (call (.ref f) us) (EP X pins σ Q) X.xe s := by
  have hl : us.length = ps.length := by
    rw [← r.length]
    exact F.len _ _ _ _ h
  have bt := hb s us I.kIn (by simpa using hl)
  rw [List.append_nil] at bt
  apply wpAny_call
  apply codeAny_mono (F.run X.A X.stack s H ⟨us, []⟩ us vs Q (WE EX σ) hg hr I.env0 bt r h)
  rintro (e | fl) s' hq
  · exact passAt tk σ pins H s e s' I hq
  · cases fl with
    | ret u => exact I.after hq
    | _ => exact hq.elim
theorem pe_callG (F : FnG X.prog X.w X.K X.mg X.base (L2.CX X.prog X.w) k f fd ps sp) (hA : X.A.guards = some []) (hr : Room k X.A) (hg : Gl X x) (hm : X.mg x = some (.ref f)) (hk : PySem.W.keepIn X.K (.ref f) = true) (hb : Binds X.K fd ps []) (tk : Takes X EX)
    (ha : PA X (e :: es) t) (hdb : (x == ("__debug__" : Str)) = false) (he : starEach (e :: es) X.env = (false, eval e X.env) :: starEach es X.env) (hpl : (backTo pos (starEach es X.env)).any (·.1) = false) :
    PE X (.Call (.Name x p) (e :: es) [] pos) (tCallS sp (WE EX) t) := by
  constructor
  intro pins s σ H Q I h
  apply wpAny_Call_Name_kw
  apply ld_glob I hg hm _ hdb
  exact PySem.W.callWith_K (h₀ := X.base) I.ok.mod.kin hk (thn (ha.run pos pins s σ H _ I h) fun us s1 ⟨vs, H1, I1, r, q⟩ => ⟨I1.kIn, run_G F hA hr hb tk I1 r q⟩) he hpl
end
/-- a def's body keeps its promise -/
theorem ok_G {CX : CXT} {P : Program} {w : World} {K : PySem.W.Frag} {mg : Str → Option Value} {base : Heap} {k : Nat} {f : Addr} {fd : FuncData} {x qual : Str} {params : Arguments} {body : List Stmt} {scope : Scope} {dvs : List V} {kws : List (Str × V)} {N ps : List Str} {sp : Sp} (F : FunD K x qual params body scope dvs kws f fd) (S : FnScope N ps scope)
    (len : ∀ vs H Q E, sp vs H Q E → vs.length = ps.length)
    (hbody : ∀ (cdv : Value) (A : Around) (outer : List Env) (s : Shared) (H : Hp) (vs : List V) (Q : VK) (E : XK), A.guards = some [] → Room k (A.deeper (envOfC qual scope s.heap.objs.size f cdv)) → sp vs H Q E →
      ∃ t, PSs (cxOf CX P w K mg base N qual scope f cdv A outer s H E) body t ∧ t { nx := fun _ H' => Q .non H', rt := Q } (start N vs) H) : FnG P w K mg base CX (k + 1) f fd ps sp := by
  obtain ⟨oc, od, dV, kV, doc, pm, an, cdv, ct, osl, rfl, lk, hcd, _, _⟩ := F.ex
  refine ⟨len, ?_⟩
  intro A outer s H args us vs Q E hg hr e0 hb r hsp
  have up : ∀ b o, base.get? b = some o → s.heap.get? b = some o := fun b o e => (e0.bs b o e).1
  have KX : K.In s.heap := e0.mod.kin.keeps up
  apply codeAny_call_function hr.depth (KX _ _ lk) rfl S.co S.gen rfl (PySem.W.codeRec_of KX hcd)
  apply hb
  have kinds : ∀ y ∈ ps.zip us, scope.names.lookup y.1 = some .local ∨ (scope.names.lookup y.1 = some .cell ∧ ((cellsFrom (s.heap.objs.size + 1) scope.names []).lookup y.1).isSome = true) := by
    rintro ⟨n, v⟩ hy
    rcases S.par n (List.of_mem_zip hy).1 with q | q
    · exact .inl q
    · exact .inr ⟨q, PySem.W.cellsFrom_some _ _ _ (.inl q)⟩
  apply wpAny_newFunctionEnv_cells S.kind kinds
  rintro env rfl s1 xx
  refine ⟨(e0.mod.nolimit.keeps up).keeps xx.toInCall.keep, codeAny_func ?_⟩
  obtain ⟨t, ht, hq⟩ := hbody cdv A outer s H vs Q E hg (hr.deeper _) hsp
  have I : Inv (cxOf CX P w K mg base N qual scope f cdv A outer s H E) [] (start N vs) H s1 := inv_start S hr.hd e0 (len _ _ _ _ hsp) r xx
  apply wpAny_mono (ht.run [] s1 (start N vs) H _ I hq)
  · intro fl s' hs
    cases fl with
    | ret u =>
      obtain ⟨v, σ', H', J, rv, q⟩ := hs
      exact ⟨v, H', J.os, J.bare, J.base, J.hok, rv, q⟩
    | next =>
      obtain ⟨σ', H', J, q⟩ := hs
      exact ⟨V.non, H', J.os, J.bare, J.base, J.hok, rfl, q⟩
    | brk =>
      obtain ⟨_, _, _, q⟩ := hs
      exact q.elim
    | cont =>
      obtain ⟨_, _, _, q⟩ := hs
      exact q.elim
  · exact fun _ _ h => h
section
variable {P : Program} {w : World} {K : PySem.W.Frag} {mg mb : Str → Option Value} {k : Nat} {fa a : Addr} {fd : FuncData} {x : Str} {sp : Sp} {s₁ : Shared} {vs : List Value} {ns : List Int}
/-- what a law's end asks of the state behind the call -/
abbrev EndG (s₁ : Shared) : Result → Shared → Prop := fun r s' => r = .ok (.ret (.bool true)) ∧ OldK s₁.heap s'.heap ∧ s'.os = s₁.os ∧ AllBare s'.gens
/-- from a tracked heap that holds nothing but the script -/
theorem end_core (KX : K.In s₁.heap) (hns : s₁.heap.Ns mainGlobals mg) (hb : s₁.heap.Ns builtinsNs mb) (hbb : ∀ x : Str, x ≠ "__name__" → mb x = bootBuiltins x) (hlim : s₁.heap.NoLimit) (hg : s₁.gens = #[])
    (ha : s₁.heap.get? a = some { cls := .type "list", data := .seq vs.toArray }) (hr : Room k callerA)
    (F : ∀ base : Heap, K.In base → base.Ns mainGlobals mg → FnG P w K mg base (L2.CX P w) k fa fd [x] sp) (hbind : ∀ (s : Shared) (u : Value), BindsTo s fd ⟨[u], []⟩ [(x, u)])
    (hsp : ∀ H : Hp, Only H → SqL K H a (ns.map V.int) → sp [.ref a] H (fun v _ => v = .bl true) fun _ _ _ => False)
    (H : Hp) (hO : Only H) (hS : SqL K H a (ns.map V.int)) (hok : HOk P w H s₁.heap) (hA : ∀ b, H b ≠ none → b = a) (hK : H a ≠ none → K.lookup a = none) :
    codeAny (model P w) callerA (.call (.ref fa) ⟨[.ref a], []⟩) (EndG s₁) s₁ := by
  have off : ∀ {b : Addr} {o : Obj} {es : Array DictEntry} {ep : Nat}, s₁.heap.get? b = some o → o.data = .dict es ep → H b = none := by
    intro b o es ep e d
    by_cases q : H b = none
    · exact q
    · have z := hA b q
      subst z
      rw [ha] at e
      cases e
      cases d
  have ns : ∀ {b : Addr} {m : Str → Option Value}, s₁.heap.Ns b m → (hidT s₁.heap H).Ns b m := by
    rintro b m ⟨o, es, ep, e, d, r⟩
    exact ⟨o, es, ep, hidT_get e (off e d), d, r⟩
  have hKb : K.In (hidT s₁.heap H) := by
    intro b o e
    apply hidT_get (KX b o e)
    by_cases q : H b = none
    · exact q
    · have z := hA b q
      subst z
      rw [hK q] at e
      cases e
  have lim : (hidT s₁.heap H).NoLimit := by
    obtain ⟨mc, h1, h2⟩ := hlim
    exact ⟨mc, ns h1, h2⟩
  have e0 : Env0 P w K mg (hidT s₁.heap H) callerA [] s₁ H :=
    { frames := rfl, mod := ⟨hKb, ns hns, ⟨mb, ns hb, hbb⟩, lim⟩, bs := fun b o e => of_hidT e, bsz := Nat.le_of_eq (hidT_size _ _), funs := trivial, frf := fun b hb => absurd hb (by simp [frs]), hok := hok, bare := .of_eq hg }
  apply codeAny_mono ((F _ hKb (ns hns)).run callerA [] s₁ H ⟨[.ref a], []⟩ [.ref a] [.ref a] _ _ rfl hr e0 (hbind s₁ (.ref a)) (.cons rfl .nil) (hsp H hO hS))
  rintro (e | fl) s' h
  · obtain ⟨_, _, _, _, _, _, _, _, _, _, _, _, z⟩ := h
    exact z.elim
  · cases fl with
    | ret u =>
      obtain ⟨v, H', os, bare, un, hok', r', rfl⟩ := h
      cases r'
      refine ⟨rfl, OldK.of_keep ?_, os, bare⟩
      intro b o e
      by_cases q : H b = none
      · exact un.keep b o e q (by simp [frs]) (by simp)
      · rcases hO b with z | ⟨ob, xs, z⟩
        · exact absurd z q
        · obtain ⟨e1, _⟩ := hok b _ z
          obtain ⟨e2, _⟩ := hok' b _ (un.frzs b ob _ z)
          rw [e] at e1
          cases e1
          exact e2
    | _ => exact h.elim
theorem law_G (KX : K.In s₁.heap) (hns : s₁.heap.Ns mainGlobals mg) (hb : s₁.heap.Ns builtinsNs mb) (hbb : ∀ x : Str, x ≠ "__name__" → mb x = bootBuiltins x) (hlim : s₁.heap.NoLimit) (hg : s₁.gens = #[])
    (ha : s₁.heap.get? a = some { cls := .type "list", data := .seq vs.toArray }) (hi : IntsAre vs ns) (hl : ns.length ≤ sizeLine) (hr : Room k callerA)
    (F : ∀ base : Heap, K.In base → base.Ns mainGlobals mg → FnG P w K mg base (L2.CX P w) k fa fd [x] sp) (hbind : ∀ (s : Shared) (u : Value), BindsTo s fd ⟨[u], []⟩ [(x, u)])
    (hsp : ∀ H : Hp, Only H → SqL K H a (ns.map V.int) → sp [.ref a] H (fun v _ => v = .bl true) fun _ _ _ => False) :
    codeAny (model P w) callerA (.call (.ref fa) ⟨[.ref a], []⟩) (EndG s₁) s₁ := by
  have rv := vals_ints hi
  have core := end_core KX hns hb hbb hlim hg ha hr F hbind hsp
  cases hk : K.lookup a with
  | some o =>
    have e := KX a o hk
    rw [ha] at e
    cases e
    apply core (fun _ => none)
    · exact fun _ => .inl rfl
    · exact .inr ⟨_, vs.toArray, _, hk, rfl, rfl, rfl, by rw [List.size_toArray, hi.length]; exact hl, by simpa using rv⟩
    · intro b u z
      cases z
    · exact fun b z => absurd rfl z
    · exact fun z => absurd rfl z
  | none =>
    have at_a : upd (fun _ => none) a (.frz { cls := .type "list", data := .seq vs.toArray } (.lst (ns.map V.int))) a = some (.frz { cls := .type "list", data := .seq vs.toArray } (.lst (ns.map V.int))) := upd_same
    apply core (upd (fun _ => none) a (.frz { cls := .type "list", data := .seq vs.toArray } (.lst (ns.map V.int))))
    · intro b
      by_cases hb : b = a
      · subst hb
        exact .inr ⟨_, _, at_a⟩
      · exact .inl (upd_ne hb)
    · exact .inl (.inr ⟨_, at_a⟩)
    · intro b u z
      by_cases hb : b = a
      · subst hb
        rw [at_a] at z
        cases z
        exact ⟨ha, by rw [List.length_map]; exact hl, vs, _, rv, ha⟩
      · rw [upd_ne hb] at z
        cases z
    · intro b z
      by_cases hb : b = a
      · exact hb
      · exact absurd (upd_ne hb) z
    · exact fun _ => hk
end
theorem walk_G {l : PySem.W.OpenLaw} {n k : Nat} {q : Program} {loose : List Str} {XP : (Str → Option Value) → Heap → Prop} {YP : World → Heap → Prop} {d : DefRec} {x : Str}
    (hn : l.most = some n) (hn2 : n ≤ sizeLine) (hdf : d.params.defaults = []) (hr : Room k callerA)
    (F : ∀ (w : World) (mg : Str → Option Value) (fa : Addr) (h : Heap), YP w h → h.Ns mainGlobals mg → mg d.name = some (.ref fa) →
      ∃ (K : PySem.W.Frag) (fd : FuncData) (sp : Sp), K.In h ∧ (∀ (s : Shared) (u : Value), BindsTo s fd ⟨[u], []⟩ [(x, u)]) ∧
        (∀ (H : Hp) (a : Addr) (ns : List Int), ns.length ≤ n → Only H → SqL K H a (ns.map V.int) → sp [.ref a] H (fun v _ => v = .bl true) fun _ _ _ => False) ∧
        ∀ base : Heap, K.In base → base.Ns mainGlobals mg → FnG l.prog w K mg base (L2.CX l.prog w) k fa fd [x] sp) :
    PySem.W.WalkO q loose XP YP l.row.toRowW d [] (fun f vs => PySem.call f vs) := by
  apply Att.attach_call hn hdf
  intro w s₀ s₁ mg mb fa o pm cd doc a vs ns G Y ho hd hcd hmg hobj hints hlen hg
  obtain ⟨K, fd, sp, KX, hb, hsp, hF⟩ := F w mg fa _ Y G.T.g hmg
  exact law_G KX G.T.g G.T.b G.T.builtins G.T.nolimit hg hobj hints (Nat.le_trans hlen hn2) hr hF hb fun H hO hS => hsp H a ns hlen hO hS
end Q

namespace Q
open PySem PySem.Spec PyProof.Rows L2

def fW (w : W) : SE := fun _ _ S => .ok w S
def fInt (i : Int) : SE := fW (.d (.int i))
def fBl (b : Bool) : SE := fW (.d (.bool b))
def fNon : SE := fW (.d .none)
def fStr (s : Str) : SE := fW (.d (.str s))
def fVar (i : Nat) : SE := fun _ env S => match env[i]? with
  | some (some w) => if w.plain then .ok w S else .stuck
  | _ => .stuck
abbrev G2 := W → W → Sto → R W
def fBin (g : G2) (a b : SE) : SE := fun cf env S => (a cf env S).bind fun x S1 => (b cf env S1).bind fun y S2 => g x y S2
abbrev LIM : Nat := 16777216
def gAdd : G2
  | .d (.int i), .d (.int j), S => .ok (.d (.int (i + j))) S
  | .d (.str a), .d (.str b), S => if a.length + b.length ≤ LIM then .ok (.d (.str (a ++ b))) S else .stuck
  | .d (.tuple a), .d (.tuple b), S => if a.length + b.length ≤ LIM then .ok (.d (.tuple (a ++ b))) S else .stuck
  | .d (.list a), .d (.list b), S => if a.length + b.length ≤ LIM then .ok (.d (.list (a ++ b))) S else .stuck
  | _, _, _ => .stuck
def gSub : G2
  | .d (.int i), .d (.int j), S => .ok (.d (.int (i - j))) S
  | _, _, _ => .stuck
/-- a number small enough for products -/
def sm (i : Int) : Bool := Nat.ble i.natAbs 18446744073709551615
theorem sm_iff {i : Int} (h : sm i = true) : -(2 ^ 64) < i ∧ i < 2 ^ 64 := by
  have := Nat.le_of_ble_eq_true h
  omega
def gMod : G2
  | .d (.int i), .d (.int j), S => if 0 < j then .ok (.d (.int (i % j))) S else .stuck
  | _, _, _ => .stuck
def gDiv : G2
  | .d (.int i), .d (.int j), S => if 0 < j ∧ Nat.ble j.natAbs 18446744073709551615 = true then .ok (.d (.int (i / j))) S else .stuck
  | _, _, _ => .stuck
def gPow : G2
  | .d (.int i), .d (.int j), S => if 0 ≤ j ∧ j ≤ 1000000 ∧ i.natAbs < 2 ^ 64 then .ok (.d (.int (i ^ j.toNat))) S else .stuck
  | _, _, _ => .stuck
def gCmp (p : Int → Int → Bool) : G2
  | .d (.int i), .d (.int j), S => .ok (.d (.bool (p i j))) S
  | _, _, _ => .stuck
def gLt : G2 := gCmp fun i j => decide (i < j)
def gLe : G2 := gCmp fun i j => decide (i ≤ j)
def gGt : G2 := gCmp fun i j => decide (j < i)
def gGe : G2 := gCmp fun i j => decide (j ≤ i)
/-- data that == may look at -/
def okEq (d : D) : Bool := d.canLay0 && decide (d.depth ≤ 64)
def gEq : G2
  | .d (.str a), .d (.str b), S => .ok (.d (.bool (decide (a = b)))) S
  | .d x, .d y, S => if okEq x && okEq y then .ok (.d (.bool (PyData.eqv x y))) S else .stuck
  | _, _, _ => .stuck
def gNe : G2
  | .d (.str a), .d (.str b), S => .ok (.d (.bool (!decide (a = b)))) S
  | .d x, .d y, S => if okEq x && okEq y then .ok (.d (.bool (!PyData.eqv x y))) S else .stuck
  | _, _, _ => .stuck
def W.isNone : W → Bool
  | .d .none => true
  | _ => false
def fIsNone (a : SE) : SE := fun cf env S => (a cf env S).bind fun x S1 => .ok (.d (.bool x.isNone)) S1
def fNotNone (a : SE) : SE := fun cf env S => (a cf env S).bind fun x S1 => .ok (.d (.bool (!x.isNone))) S1
def fNeg (a : SE) : SE := fun cf env S => (a cf env S).bind fun x S1 => match x with
  | .d (.int i) => .ok (.d (.int (-i))) S1
  | _ => .stuck
/-- tests -/
def cVal (a : SE) : ST := fun cf env S => (a cf env S).bind fun x S1 => match x with
  | .d (.bool b) => .ok b S1
  | _ => .stuck
def cNot (a : ST) : ST := fun cf env S => (a cf env S).bind fun b S1 => .ok (!b) S1
def cAnd (a b : ST) : ST := fun cf env S => (a cf env S).bind fun x S1 => if x = true then b cf env S1 else .ok false S1
def cOr (a b : ST) : ST := fun cf env S => (a cf env S).bind fun x S1 => if x = true then .ok true S1 else b cf env S1
def fAnd (a b : SE) : SE := fun cf env S => (a cf env S).bind fun x S1 => match x with
  | .d (.bool c) => if c = true then b cf env S1 else .ok (.d (.bool false)) S1
  | _ => .stuck
def fOr (a b : SE) : SE := fun cf env S => (a cf env S).bind fun x S1 => match x with
  | .d (.bool c) => if c = true then .ok (.d (.bool true)) S1 else b cf env S1
  | _ => .stuck
def fNot (a : SE) : SE := fun cf env S => (a cf env S).bind fun x S1 => match x with
  | .d (.bool c) => .ok (.d (.bool (!c))) S1
  | _ => .stuck
def fIf (c : ST) (a b : SE) : SE := fun cf env S => (c cf env S).bind fun x S1 => if x = true then a cf env S1 else b cf env S1
def aNil : SA := fun _ _ S => .ok [] S
def aCons (a : SE) (r : SA) : SA := fun cf env S => (a cf env S).bind fun x S1 => (r cf env S1).bind fun xs S2 => if x.plain then .ok (x :: xs) S2 else .stuck
def datas : List W → Option (List D)
  | [] => some []
  | .d x :: ws => (datas ws).map (x :: ·)
  | _ :: _ => none
def fTup (a : SA) : SE := fun cf env S => (a cf env S).bind fun ws S1 => if ws.length ≤ LIM then (match datas ws with
  | some ds => .ok (.d (.tuple ds)) S1
  | none => .ok (.tw ws) S1) else .stuck
def fLst (a : SA) : SE := fun cf env S => (a cf env S).bind fun ws S1 => if ws.length ≤ LIM then (match datas ws with
  | some ds => .ok (.d (.list ds)) S1
  | none => .stuck) else .stuck
def tyName : D → String
  | .none => "NoneType" | .bool _ => "bool" | .int _ => "int" | .str _ => "str" | .list _ => "list" | .tuple _ => "tuple" | .dict _ => "dict"
def isTy (T : String) (d : D) : Bool := tyName d == T || (tyName d == "bool" && T == "int")
def fIsI (T : String) (a : SE) : SE := fun cf env S => (a cf env S).bind fun x S1 => match x with
  | .d d => .ok (.d (.bool (isTy T d))) S1
  | _ => .stuck

section
variable {X : Cx} {cf : CF} {EX : WX} {e a b c : Expr} {es : List Expr} {fa fb fc : SE} {ga gb gc : ST} {ha hb : SA} {pos p : Pos}
theorem me_w {v : V} {w : W} (h : PE X e (tC v)) (r : ∀ H N μ, RW X.K X.mg H N μ v w) : ME X cf EX e (fW w) :=
  PE.weak h fun σ H Q ⟨env, S, μ, F, s, q⟩ => q H μ s (Ext.refl _ _ _ _) v (r _ _ _)
theorem me_int {i : Int} {j} : ME X cf EX (.Constant (.int i) j pos) (fInt i) := me_w pe_int fun _ _ _ => .d (.int i)
theorem me_bl {k : Bool} {j} : ME X cf EX (.Constant (.bool k) j pos) (fBl k) := me_w pe_bl fun _ _ _ => .d (.bl k)
theorem me_str {x : Str} {j} : ME X cf EX (.Constant (.str x) j pos) (fStr x) := me_w pe_str fun _ _ _ => .d (.str x)
theorem me_var {i : Nat} {x : Str} (h : PE X (.Name x pos) (tVar i)) : ME X cf EX (.Name x pos) (fVar i) :=
  PE.weak h fun σ H Q ⟨env, S, μ, F, s, q⟩ => by
    unfold fVar at q
    cases e : env[i]? with
    | none => rw [e] at q; exact q.elim
    | some ow =>
      cases ow with
      | none => rw [e] at q; exact q.elim
      | some w =>
        rw [e] at q
        simp only at q
        cases pw : w.plain with
        | false => rw [pw] at q; exact q.elim
        | true =>
          rw [pw] at q
          obtain ⟨v, hv, r⟩ := s.slot i w e
          exact ⟨v, hv, q H μ s (Ext.refl _ _ _ _) v r⟩
/-- a module's whole number -/
theorem me_globI {x : Str} {i : Int} (hg : Gl X x) (hm : ∃ t, X.mg x = some (.int i t)) (hd : (x == ("__debug__" : Str)) = false := by decide) : ME X cf EX (.Name x pos) (fInt i) :=
  let ⟨t, e⟩ := hm; me_w (pe_glob (v := .int i) hg e ⟨_, rfl⟩ hd) fun _ _ _ => .d (.int i)
theorem me_globS {x y : Str} (hg : Gl X x) (hm : ∃ t, X.mg x = some (.str y t)) (hd : (x == ("__debug__" : Str)) = false := by decide) : ME X cf EX (.Name x pos) (fStr y) :=
  let ⟨t, e⟩ := hm; me_w (pe_glob (v := .str y) hg e ⟨_, rfl⟩ hd) fun _ _ _ => .d (.str y)
/-- a rule by values says no more than g -/
def Op (X : Cx) (EX : WX) (r : R2) (g : G2) : Prop := ∀ (F : Addr → Prop) (σ : L2.St) (env : EnvQ) (S : Sto) (H : Hp) (μ : List Addr) (x y : V) (w u : W) (Q : VK), Sim X.K X.mg F σ H env S μ → RW X.K X.mg H (NN F μ σ env) μ x w → w.plain = true → RW X.K X.mg H (NN F μ σ env) μ y u → u.plain = true →
  Post X.K X.mg EX F σ env H μ (g w u S) (fun w _ H' μ' => ∀ v, RW X.K X.mg H' (NN F μ' σ env) μ' v w → Q v H') → r x y H Q
theorem tE_bin {r : R2} {g : G2} (o : Op X EX r g) (hp : ∀ w u S, w.plain = false ∨ u.plain = false → g w u S = .stuck) (σ : L2.St) (H : Hp) (Q : VK) (q : tE X.K X.mg cf EX (fBin g fa fb) σ H Q) : tOp r (tE X.K X.mg cf EX fa) (tE X.K X.mg cf EX fb) σ H Q := by
  obtain ⟨env, S, μ, F, s, q⟩ := q
  refine ⟨env, S, μ, F, s, (Post.bind q).mono fun w S1 H1 μ1 s1 x1 q1 v rv => ?_⟩
  refine ⟨env, S1, μ1, F, s1, (Post.bind q1).mono fun u S2 H2 μ2 s2 x2 q2 v2 rv2 => ?_⟩
  by_cases pw : w.plain = true
  · by_cases pu : u.plain = true
    · exact o F σ env S2 H2 μ2 v v2 w u Q s2 (RW.keep (x2.nn F) x2.pre rv pw) pw rv2 pu q2
    · rw [hp w u S2 (.inr (by simpa using pu))] at q2
      exact q2.elim
  · rw [hp w u S2 (.inl (by simpa using pw))] at q2
    exact q2.elim
theorem me_bin {op : Operator} {r : R2} {g : G2} (ho : OpR X (binaryOp op) r) (o : Op X EX r g) (hp : ∀ w u S, w.plain = false ∨ u.plain = false → g w u S = .stuck) (h1 : ME X cf EX a fa) (h2 : ME X cf EX b fb) : ME X cf EX (.BinOp a op b pos) (fBin g fa fb) :=
  PE.weak (pe_op ho h1 h2) (tE_bin o hp)
theorem me_cmp {op : CmpOp} {r : R2} {g : G2} (ho : OpR X (compareOp op) r) (o : Op X EX r g) (hp : ∀ w u S, w.plain = false ∨ u.plain = false → g w u S = .stuck) (h1 : ME X cf EX a fa) (h2 : ME X cf EX b fb) (hm : behindInMarks op b = false) : ME X cf EX (.Compare a [op] [b] pos) (fBin g fa fb) :=
  PE.weak (pe_cmpR ho h1 h2 hm) (tE_bin o hp)
/-- ints -/
theorem rw_int {K : PySem.W.Frag} {mg : Str → Option Value} {H : Hp} {N : Addr → Prop} {μ : List Addr} {v : V} {i : Int} (h : RW K mg H N μ v (.d (.int i))) : v = .int i := by
  cases h with | d h => cases h; rfl
theorem rw_bl {K : PySem.W.Frag} {mg : Str → Option Value} {H : Hp} {N : Addr → Prop} {μ : List Addr} {v : V} {i : Bool} (h : RW K mg H N μ v (.d (.bool i))) : v = .bl i := by
  cases h with | d h => cases h; rfl
theorem rw_str {K : PySem.W.Frag} {mg : Str → Option Value} {H : Hp} {N : Addr → Prop} {μ : List Addr} {v : V} {i : Str} (h : RW K mg H N μ v (.d (.str i))) : v = .str i := by
  cases h with | d h => cases h; rfl
theorem lim_line : LIM = sizeLine := sizeLine_eq.symm
end
end Q

namespace Q
open PySem PySem.Spec PyProof.Rows L2
section
variable {X : Cx} {cf : CF} {EX : WX} {F : Addr → Prop} {K : PySem.W.Frag} {mg : Str → Option Value} {H : Hp} {N : Addr → Prop} {μ : List Addr} {v : V}
theorem rw_tup {xs : List D} (h : RW K mg H N μ v (.d (.tuple xs))) : ∃ a vs, v = .ref a ∧ RdT K H N a vs ∧ DnAll K H N vs xs := by
  cases h with | d h => cases h with | tup h t => exact ⟨_, _, rfl, h, t⟩
theorem rw_lst {xs : List D} (h : RW K mg H N μ v (.d (.list xs))) : ∃ a vs, v = .ref a ∧ ¬ N a ∧ H a = some (.lst vs) ∧ DnAll K H N vs xs := by
  cases h with | d h => cases h with | lst h t => exact ⟨_, _, rfl, h.1, h.2, t⟩
/-- a new tuple, a new list -/
theorem post_tup {α : Type} {σ : L2.St} {env : EnvQ} {S : Sto} {xs : List D} {vs : List V} {P : V → Hp → Prop} (s : Sim K mg F σ H env S μ) (t : DnAll K H (NN F μ σ env) vs xs)
    (q : Post K mg EX F σ env H μ (.ok (.d (.tuple xs)) S) (fun w _ H' μ' => ∀ v, RW K mg H' (NN F μ' σ env) μ' v w → P v H')) {p : Addr} (n : H p = none) : P (.ref p) (upd H p (.tup vs)) :=
  q _ μ (s.new n) (ext_new n) _ (.d (.tup (.inl ⟨s.fresh n, .inl upd_same⟩) (t.keep (Keep.upd_new n))))
theorem post_lst {σ : L2.St} {env : EnvQ} {S : Sto} {xs : List D} {vs : List V} {P : V → Hp → Prop} (s : Sim K mg F σ H env S μ) (t : DnAll K H (NN F μ σ env) vs xs)
    (q : Post K mg EX F σ env H μ (.ok (.d (.list xs)) S) (fun w _ H' μ' => ∀ v, RW K mg H' (NN F μ' σ env) μ' v w → P v H')) {p : Addr} (n : H p = none) : P (.ref p) (upd H p (.lst vs)) :=
  q _ μ (s.new n) (ext_new n) _ (.d (.lst ⟨s.fresh n, upd_same⟩ (t.keep (Keep.upd_new n))))
theorem post_here {σ : L2.St} {env : EnvQ} {S : Sto} {w : W} {P : V → Hp → Prop} (s : Sim K mg F σ H env S μ) (r : RW K mg H (NN F μ σ env) μ v w)
    (q : Post K mg EX F σ env H μ (.ok w S) (fun w _ H' μ' => ∀ v, RW K mg H' (NN F μ' σ env) μ' v w → P v H')) : P v H := q H μ s (Ext.refl _ _ _ _) v r

theorem o_add : Op X EX (fun x y H Q => (rI0 fun i j => .int (i + j)) x y H Q ∨ (∃ i j, x = .str i ∧ y = .str j ∧ i.length + j.length ≤ sizeLine ∧ Q (.str (i ++ j)) H) ∨ rCatA X.K x y H Q ∨ rCat x y H Q) gAdd := by
  intro F σ env S H μ x y w u Q s rx pw ry pu q
  unfold gAdd at q
  split at q
  · rw [rw_int rx, rw_int ry]
    exact .inl ⟨_, _, rfl, rfl, post_here s (.d (.int _)) q⟩
  · rw [rw_str rx, rw_str ry]
    split at q
    · rename_i h
      exact .inr (.inl ⟨_, _, rfl, rfl, by rw [← lim_line]; exact h, post_here s (.d (.str _)) q⟩)
    · exact q.elim
  · obtain ⟨a, vs, rfl, ha, ta⟩ := rw_tup rx
    obtain ⟨b, us, rfl, hb, tb⟩ := rw_tup ry
    split at q
    · rename_i h
      refine .inr (.inr (.inl ⟨a, b, vs, us, rfl, rfl, ha.sq, hb.sq, by rw [← lim_line, ta.length, tb.length]; exact h, fun e => ?_, fun e1 e2 => ?_, fun _ _ p n => post_tup (α := Unit) s (ta.append tb) q n⟩))
      · subst e
        cases ta
        exact post_here s ry q
      · subst e2
        cases tb
        rw [List.append_nil] at q
        exact post_here s rx q
    · exact q.elim
  · obtain ⟨a, vs, rfl, na, ha, ta⟩ := rw_lst rx
    obtain ⟨b, us, rfl, nb, hb, tb⟩ := rw_lst ry
    split at q
    · rename_i h
      exact .inr (.inr (.inr ⟨a, b, vs, us, rfl, rfl, ha, hb, by rw [← lim_line, ta.length, tb.length]; exact h, fun p n => post_lst s (ta.append tb) q n⟩))
    · exact q.elim
  · exact q.elim
theorem g_plain (g : G2) (h : ∀ w u S, g w u S ≠ .stuck → w.plain = true ∧ u.plain = true) : ∀ w u S, w.plain = false ∨ u.plain = false → g w u S = .stuck := by
  intro w u S e
  by_cases k : g w u S = .stuck
  · exact k
  · obtain ⟨h1, h2⟩ := h w u S k
    rcases e with e | e
    · rw [h1] at e; cases e
    · rw [h2] at e; cases e
theorem gp_add : ∀ w u S, w.plain = false ∨ u.plain = false → gAdd w u S = .stuck := g_plain _ fun w u S k => by
  unfold gAdd at k
  split at k <;> first | exact ⟨rfl, rfl⟩ | exact absurd rfl k
theorem me_add {a b : Expr} {fa fb : SE} {pos : Pos} (h1 : ME X cf EX a fa) (h2 : ME X cf EX b fb) : ME X cf EX (.BinOp a .Add b pos) (fBin gAdd fa fb) :=
  me_bin (OpR.or op_add (OpR.or op_add_str (OpR.or op_catA op_cat))) o_add gp_add h1 h2
/-- ints -/
theorem o_int {C : Int → Int → Prop} {g : Int → Int → V} {gg : G2} (h : ∀ w u S, (∃ i j, w = .d (.int i) ∧ u = .d (.int j) ∧ C i j ∧ ∃ x, (∀ H N, Dn X.K H N (g i j) x) ∧ gg w u S = .ok (.d x) S) ∨ gg w u S = .stuck) : Op X EX (rI C g) gg := by
  intro F σ env S H μ x y w u Q s rx pw ry pu q
  rcases h w u S with ⟨i, j, rfl, rfl, c, z, r, e⟩ | e
  · rw [e] at q
    rw [rw_int rx, rw_int ry]
    exact ⟨i, j, rfl, rfl, c, post_here s (.d (r _ _)) q⟩
  · rw [e] at q
    exact q.elim
theorem o_int0 {g : Int → Int → V} {gg : G2} (h : ∀ w u S, (∃ i j, w = .d (.int i) ∧ u = .d (.int j) ∧ ∃ x, (∀ H N, Dn X.K H N (g i j) x) ∧ gg w u S = .ok (.d x) S) ∨ gg w u S = .stuck) : Op X EX (rI0 g) gg := by
  intro F σ env S H μ x y w u Q s rx pw ry pu q
  rcases h w u S with ⟨i, j, rfl, rfl, z, r, e⟩ | e
  · rw [e] at q
    rw [rw_int rx, rw_int ry]
    exact ⟨i, j, rfl, rfl, post_here s (.d (r _ _)) q⟩
  · rw [e] at q
    exact q.elim
theorem gp_int {gg : G2} (h : ∀ w u S, gg w u S ≠ .stuck → ∃ i j, w = .d (.int i) ∧ u = .d (.int j)) : ∀ w u S, w.plain = false ∨ u.plain = false → gg w u S = .stuck := g_plain _ fun w u S k => by
  obtain ⟨i, j, rfl, rfl⟩ := h w u S k
  exact ⟨rfl, rfl⟩
section
variable {a b : Expr} {fa fb : SE} {pos : Pos}
theorem me_sub (h1 : ME X cf EX a fa) (h2 : ME X cf EX b fb) : ME X cf EX (.BinOp a .Sub b pos) (fBin gSub fa fb) := by
  refine me_bin op_sub (o_int0 fun w u S => ?_) (gp_int fun w u S k => ?_) h1 h2
  · unfold gSub
    split
    · exact .inl ⟨_, _, rfl, rfl, _, fun _ _ => .int _, rfl⟩
    · exact .inr rfl
  · unfold gSub at k
    split at k
    · exact ⟨_, _, rfl, rfl⟩
    · exact absurd rfl k
theorem sm_ok {i j : Int} (h : (sm i || sm j) = true) : CMul i j := by
  rw [Bool.or_eq_true] at h
  exact h.elim (fun h => .inl (sm_iff h)) fun h => .inr (sm_iff h)
theorem me_mod (h1 : ME X cf EX a fa) (h2 : ME X cf EX b fb) : ME X cf EX (.BinOp a .Mod b pos) (fBin gMod fa fb) := by
  refine me_bin op_mod (o_int fun w u S => ?_) (gp_int fun w u S k => ?_) h1 h2
  · unfold gMod
    split
    · split
      · rename_i h
        exact .inl ⟨_, _, rfl, rfl, h, _, fun _ _ => .int _, rfl⟩
      · exact .inr rfl
    · exact .inr rfl
  · unfold gMod at k
    split at k
    · exact ⟨_, _, rfl, rfl⟩
    · exact absurd rfl k
theorem noPyl {x y : Int} (h : y.natAbs < 18446744073709551616) : Builtin.divisionGoesByPylong x y = false := by
  have k : ¬ (if (y == 0) = true then 0 else y.natAbs.log2 / 30 + 1) > 300 := by
    split
    · omega
    · rename_i z
      have hz : y.natAbs ≠ 0 := by
        intro q
        exact z (by simp; omega)
      have : y.natAbs.log2 < 64 := (Nat.log2_lt hz).mpr h
      omega
  unfold Builtin.divisionGoesByPylong
  show (decide ((if (y == 0) = true then 0 else y.natAbs.log2 / 30 + 1) > 300) && _) = false
  rw [decide_eq_false k, Bool.false_and]
def CDivW (i j : Int) : Prop := 0 < j ∧ j < 18446744073709551616
theorem op_fdivW : OpR X (binaryOp .FloorDiv) (rI CDivW fun i j => .int (i / j)) := opI fun i j _ _ _ _ _ hc q => by
  have h1 : (0 : Int) < j := hc.1
  have h2 : j < 18446744073709551616 := hc.2
  exact floordiv_int (by omega) (by rw [Int.fdiv_eq_ediv_of_nonneg i (by omega)]; exact q) (.inl (noPyl (by omega)))
theorem me_div (h1 : ME X cf EX a fa) (h2 : ME X cf EX b fb) : ME X cf EX (.BinOp a .FloorDiv b pos) (fBin gDiv fa fb) := by
  refine me_bin op_fdivW (o_int fun w u S => ?_) (gp_int fun w u S k => ?_) h1 h2
  · unfold gDiv
    split
    · split
      · rename_i h
        exact .inl ⟨_, _, rfl, rfl, ⟨h.1, by have := Nat.le_of_ble_eq_true h.2; omega⟩, _, fun _ _ => .int _, rfl⟩
      · exact .inr rfl
    · exact .inr rfl
  · unfold gDiv at k
    split at k
    · exact ⟨_, _, rfl, rfl⟩
    · exact absurd rfl k
theorem me_pow (h1 : ME X cf EX a fa) (h2 : ME X cf EX b fb) : ME X cf EX (.BinOp a .Pow b pos) (fBin gPow fa fb) := by
  refine me_bin op_pow (o_int fun w u S => ?_) (gp_int fun w u S k => ?_) h1 h2
  · unfold gPow
    split
    · split
      · rename_i h
        exact .inl ⟨_, _, rfl, rfl, h, _, fun _ _ => .int _, rfl⟩
      · exact .inr rfl
    · exact .inr rfl
  · unfold gPow at k
    split at k
    · exact ⟨_, _, rfl, rfl⟩
    · exact absurd rfl k
/-- products: of ints, a list so often, a tuple so often -/
def gMul2 : G2
  | .d (.int i), .d (.int j), S => if sm i || sm j then .ok (.d (.int (i * j))) S else .stuck
  | .d (.list xs), .d (.int k), S => if (Nat.ble k.natAbs 9223372036854775807 && Nat.ble (xs.length * k.toNat) LIM) = true then .ok (.d (.list (List.replicate k.toNat xs).flatten)) S else .stuck
  | .d (.tuple xs), .d (.int k), S => if xs ≠ [] ∧ 2 ≤ k ∧ k ≤ 1000 ∧ xs.length ≤ 1000 then .ok (.d (.tuple (List.replicate k.toNat xs).flatten)) S else .stuck
  | _, _, _ => .stuck
theorem DnAll.rep {vs : List V} {xs : List D} (t : DnAll K H N vs xs) : ∀ n : Nat, DnAll K H N (List.replicate n vs).flatten (List.replicate n xs).flatten
  | 0 => by simpa using DnAll.nil
  | n + 1 => by
    rw [List.replicate_succ, List.replicate_succ, List.flatten_cons, List.flatten_cons]
    exact t.append (DnAll.rep t n)
theorem o_mul : Op X EX (fun x y H Q => (rI CMul fun i j => .int (i * j)) x y H Q ∨ rRep x y H Q ∨ rRepT X.K x y H Q) gMul2 := by
  intro F σ env S H μ x y w u Q s rx pw ry pu q
  unfold gMul2 at q
  split at q
  · rw [rw_int rx, rw_int ry]
    split at q
    · rename_i h
      exact .inl ⟨_, _, rfl, rfl, sm_ok h, post_here s (.d (.int _)) q⟩
    · exact q.elim
  · obtain ⟨a, vs, rfl, na, ha, ta⟩ := rw_lst rx
    rw [rw_int ry]
    split at q
    · rename_i h
      rw [Bool.and_eq_true] at h
      have h1 := Nat.le_of_ble_eq_true h.1
      have h2 := Nat.le_of_ble_eq_true h.2
      exact .inr (.inl ⟨a, _, vs, rfl, rfl, ha, by omega, by omega, by rw [← lim_line, ta.length]; exact h2, fun p n => post_lst s (ta.rep _) q n⟩)
    · exact q.elim
  · obtain ⟨a, vs, rfl, ha, ta⟩ := rw_tup rx
    rw [rw_int ry]
    split at q
    · rename_i h
      refine .inr (.inr ⟨a, _, vs, rfl, rfl, ha.sq, fun e => h.1 ?_, h.2.1, h.2.2.1, by rw [ta.length]; exact h.2.2.2, fun p n => post_tup (α := Unit) s (ta.rep _) q n⟩)
      subst e
      cases ta
      rfl
    · exact q.elim
  · exact q.elim
theorem gp_mul : ∀ w u S, w.plain = false ∨ u.plain = false → gMul2 w u S = .stuck := g_plain _ fun w u S k => by
  unfold gMul2 at k
  split at k <;> first | exact ⟨rfl, rfl⟩ | exact absurd rfl k
theorem me_mul (h1 : ME X cf EX a fa) (h2 : ME X cf EX b fb) : ME X cf EX (.BinOp a .Mult b pos) (fBin gMul2 fa fb) :=
  me_bin (OpR.or op_mul (OpR.or op_rep op_repT)) o_mul gp_mul h1 h2
/-- order -/
theorem o_cmp {p : Int → Int → Bool} : Op X EX (rI0 fun i j => .bl (p i j)) (gCmp p) := o_int0 fun w u S => by
  unfold gCmp
  split
  · exact .inl ⟨_, _, rfl, rfl, _, fun _ _ => .bl _, rfl⟩
  · exact .inr rfl
theorem gp_cmp {p : Int → Int → Bool} : ∀ w u S, w.plain = false ∨ u.plain = false → gCmp p w u S = .stuck := gp_int fun w u S k => by
  unfold gCmp at k
  split at k
  · exact ⟨_, _, rfl, rfl⟩
  · exact absurd rfl k
/-- == of data -/
theorem noDict_of {d : D} (h : d.canLay0 = true) : d.hasDict = false := PyData.hasDict_of_canLay d h
theorem dn_dp {x : V} {d : D} (h : Dn K H N x d) (e : okEq d = true) : Dp K H x d ∧ SeqAt.shaped d = true := by
  have e' : (d.canLay0 && decide (d.depth ≤ 64)) = true := e
  refine ⟨Dn.dp h (fun kvs q => ?_) (noDict_of (by rw [Bool.and_eq_true] at e'; exact e'.1)), e'⟩
  subst q
  simp [PyData.canLay0] at e'
theorem o_eq : Op X EX (fun x y H Q => rEqD X.K x y H Q ∨ rEq x y H Q) gEq := by
  intro F σ env S H μ x y w u Q s rx pw ry pu q
  unfold gEq at q
  split at q
  · rename_i a b S
    cases rx with
    | d hx =>
      cases ry with
      | d hy =>
        cases hx
        cases hy
        refine .inr ⟨rfl, post_here (EX := EX) s (.d (.bl _)) ?_⟩
        simpa [V.str.injEq] using q
  · split at q
    · rename_i h
      rw [Bool.and_eq_true] at h
      cases rx with
      | d hx =>
        cases ry with
        | d hy =>
          obtain ⟨p1, s1⟩ := dn_dp hx h.1
          obtain ⟨p2, s2⟩ := dn_dp hy h.2
          exact .inl ⟨_, _, p1, p2, s1, s2, post_here s (.d (.bl _)) q⟩
    · exact q.elim
  · exact q.elim
theorem o_ne : Op X EX (fun x y H Q => rNeD X.K x y H Q ∨ rNe x y H Q) gNe := by
  intro F σ env S H μ x y w u Q s rx pw ry pu q
  unfold gNe at q
  split at q
  · rename_i a b S
    cases rx with
    | d hx =>
      cases ry with
      | d hy =>
        cases hx
        cases hy
        refine .inr ⟨rfl, post_here (EX := EX) s (.d (.bl _)) ?_⟩
        simpa [V.str.injEq] using q
  · split at q
    · rename_i h
      rw [Bool.and_eq_true] at h
      cases rx with
      | d hx =>
        cases ry with
        | d hy =>
          obtain ⟨p1, s1⟩ := dn_dp hx h.1
          obtain ⟨p2, s2⟩ := dn_dp hy h.2
          exact .inl ⟨_, _, p1, p2, s1, s2, post_here s (.d (.bl _)) q⟩
    · exact q.elim
  · exact q.elim
theorem gp_eq : ∀ w u S, w.plain = false ∨ u.plain = false → gEq w u S = .stuck := g_plain _ fun w u S k => by
  unfold gEq at k
  split at k <;> first | exact ⟨rfl, rfl⟩ | exact absurd rfl k
theorem gp_ne : ∀ w u S, w.plain = false ∨ u.plain = false → gNe w u S = .stuck := g_plain _ fun w u S k => by
  unfold gNe at k
  split at k <;> first | exact ⟨rfl, rfl⟩ | exact absurd rfl k
theorem op_eqU {k : Nat} (hr : Room k X.A) : OpR X (compareOp .Eq) (fun x y H Q => rEqD X.K x y H Q ∨ rEq x y H Q) := fun pins s σ H x y v u Q I rx ry h => h.elim (op_eqD hr.units pins s σ H x y v u Q I rx ry) (op_eq pins s σ H x y v u Q I rx ry)
theorem op_neU {k : Nat} (hr : Room k X.A) : OpR X (compareOp .NotEq) (fun x y H Q => rNeD X.K x y H Q ∨ rNe x y H Q) := fun pins s σ H x y v u Q I rx ry h => h.elim (op_neD hr.units pins s σ H x y v u Q I rx ry) (op_ne pins s σ H x y v u Q I rx ry)
end
end
end Q

namespace Q
open PySem PySem.Spec PyProof.Rows L2
section
variable {X : Cx} {cf : CF} {EX : WX} {F : Addr → Prop} {e a b c : Expr} {es : List Expr} {fa fb fc : SE} {ga gb gc : ST} {ha hb : SA} {pos p : Pos} {x : Str}

theorem mt_val (h : ME X cf EX e fa) (he : ∀ whole, isTrue e X.env whole = (do let v ← whole; standAt e.pos; holding [v] (truthy v)) := by intro _; rfl) : MT X cf EX e (cVal fa) :=
  PT.weak (pt_val h he) fun σ H Q ⟨env, S, μ, F, s, q⟩ => ⟨env, S, μ, F, s, (Post.bind q).mono fun w S1 H1 μ1 s1 x1 q1 v rv => by
    split at q1
    · exact ⟨_, rw_bl rv, q1 H1 μ1 s1 (Ext.refl _ _ _ _)⟩
    · exact q1.elim⟩
/-- a comparison as a test -/
theorem mt_cmp {op : CmpOp} {r : R2} {g : G2} (ho : OpR X (compareOp op) r) (o : Op X EX r g) (hp : ∀ w u S, w.plain = false ∨ u.plain = false → g w u S = .stuck) (h1 : ME X cf EX a fa) (h2 : ME X cf EX b fb) (hm : behindInMarks op b = false) : MT X cf EX (.Compare a [op] [b] pos) (cVal (fBin g fa fb)) :=
  PT.weak (pt_cmpR ho h1 h2 hm) fun σ H Q ⟨env, S, μ, F, s, q⟩ => tE_bin o hp σ H _ ⟨env, S, μ, F, s, (Post.bind q).mono fun w S1 H1 μ1 s1 x1 q1 v rv => by
    split at q1
    · exact ⟨_, rw_bl rv, q1 H1 μ1 s1 (Ext.refl _ _ _ _)⟩
    · exact q1.elim⟩
/-- comparisons, by one fact each -/
structure Cm (X : Cx) (EX : WX) (op : CmpOp) (g : G2) : Prop where
  ex : ∃ r, OpR X (compareOp op) r ∧ Op X EX r g
  pl : ∀ w u S, w.plain = false ∨ u.plain = false → g w u S = .stuck
theorem cm_lt : Cm X EX .Lt gLt := ⟨⟨_, op_lt, o_cmp⟩, gp_cmp⟩
theorem cm_le : Cm X EX .LtE gLe := ⟨⟨_, op_le, o_cmp⟩, gp_cmp⟩
theorem cm_gt : Cm X EX .Gt gGt := ⟨⟨_, op_gt, o_cmp⟩, gp_cmp⟩
theorem cm_eq {k : Nat} (hr : Room k X.A) : Cm X EX .Eq gEq := ⟨⟨_, op_eqU hr, o_eq⟩, gp_eq⟩
theorem cm_ne {k : Nat} (hr : Room k X.A) : Cm X EX .NotEq gNe := ⟨⟨_, op_neU hr, o_ne⟩, gp_ne⟩
theorem me_c {op : CmpOp} {g : G2} (h : Cm X EX op g) (h1 : ME X cf EX a fa) (h2 : ME X cf EX b fb) (hm : behindInMarks op b = false) : ME X cf EX (.Compare a [op] [b] pos) (fBin g fa fb) :=
  let ⟨_, ho, o⟩ := h.ex; me_cmp ho o h.pl h1 h2 hm
theorem mt_c {op : CmpOp} {g : G2} (h : Cm X EX op g) (h1 : ME X cf EX a fa) (h2 : ME X cf EX b fb) (hm : behindInMarks op b = false) : MT X cf EX (.Compare a [op] [b] pos) (cVal (fBin g fa fb)) :=
  let ⟨_, ho, o⟩ := h.ex; mt_cmp ho o h.pl h1 h2 hm
/-- a < b < c -/
def fChain (g g' : G2) (a b c : SE) : SE := fun cf env S => (a cf env S).bind fun x S1 => (b cf env S1).bind fun y S2 => (g x y S2).bind fun z S3 => match z with
  | .d (.bool k) => if k = true then (c cf env S3).bind fun w S4 => g' y w S4 else .ok (.d (.bool false)) S3
  | _ => .stuck
theorem tE_chain {r r' : R2} {g g' : G2} (o : Op X EX r g) (o' : Op X EX r' g') (hp : ∀ w u S, w.plain = false ∨ u.plain = false → g w u S = .stuck) (hp' : ∀ w u S, w.plain = false ∨ u.plain = false → g' w u S = .stuck)
    (σ : L2.St) (H : Hp) (Q : VK) (q : tE X.K X.mg cf EX (fChain g g' fa fb fc) σ H Q) : tChain r r' (tE X.K X.mg cf EX fa) (tE X.K X.mg cf EX fb) (tE X.K X.mg cf EX fc) σ H Q := by
  obtain ⟨env, S, μ, F, s, q⟩ := q
  refine ⟨env, S, μ, F, s, (Post.bind q).mono fun w S1 H1 μ1 s1 x1 q1 v rv => ?_⟩
  refine ⟨env, S1, μ1, F, s1, (Post.bind q1).mono fun u S2 H2 μ2 s2 x2 q2 v2 rv2 => ?_⟩
  have pl : w.plain = true ∧ u.plain = true := by
    by_cases pw : w.plain = true
    · by_cases pu : u.plain = true
      · exact ⟨pw, pu⟩
      · rw [hp w u S2 (.inr (by simpa using pu))] at q2
        exact q2.elim
    · rw [hp w u S2 (.inl (by simpa using pw))] at q2
      exact q2.elim
  refine o F σ env S2 H2 μ2 v v2 w u _ s2 (RW.keep (x2.nn F) x2.pre rv pl.1) pl.1 rv2 pl.2 ((Post.bind q2).mono fun z S3 H3 μ3 s3 x3 q3 v3 rv3 => ?_)
  split at q3
  · rename_i k
    refine ⟨k, rw_bl rv3, ?_⟩
    cases k with
    | false =>
      rw [if_neg Bool.false_ne_true] at q3 ⊢
      exact post_here s3 (.d (.bl false)) q3
    | true =>
      rw [if_pos rfl] at q3 ⊢
      refine ⟨env, S3, μ3, F, s3, (Post.bind q3).mono fun t S4 H4 μ4 s4 x4 q4 v4 rv4 => ?_⟩
      by_cases pt : t.plain = true
      · exact o' F σ env S4 H4 μ4 v2 v4 u t Q s4 (RW.keep ((x3.nn F).trans (x4.nn F)) (List.IsPrefix.trans x3.pre x4.pre) rv2 pl.2) pl.2 rv4 pt q4
      · rw [hp' u t S4 (.inr (by simpa using pt))] at q4
        exact q4.elim
  · exact q3.elim
theorem me_chain {op op' : CmpOp} {g g' : G2} (h : Cm X EX op g) (h' : Cm X EX op' g') (h1 : ME X cf EX a fa) (h2 : ME X cf EX b fb) (h3 : ME X cf EX c fc) (hm : lastMarks [op, op'] [b, c] = false := by rfl) :
    ME X cf EX (.Compare a [op, op'] [b, c] pos) (fChain g g' fa fb fc) := by
  obtain ⟨_, ho, o⟩ := h.ex
  obtain ⟨_, ho', o'⟩ := h'.ex
  exact PE.weak (pe_chain ho ho' h1 h2 h3 hm) (tE_chain o o' h.pl h'.pl)
theorem mt_not (h : MT X cf EX a ga) : MT X cf EX (.UnaryOp .Not a pos) (cNot ga) :=
  PT.weak (pt_not h) fun σ H Q ⟨env, S, μ, F, s, q⟩ => ⟨env, S, μ, F, s, (Post.bind q).mono fun w S1 H1 μ1 s1 x1 q1 => q1 H1 μ1 s1 (Ext.refl _ _ _ _)⟩
theorem mw_and1 (h : MT X cf EX a ga) : MW X cf EX (.BoolOp .And [a] pos) ga := pw_and1 h
theorem mw_or1 (h : MT X cf EX a ga) : MW X cf EX (.BoolOp .Or [a] pos) ga := pw_or1 h
theorem mw_and {rest : List Expr} (h1 : MT X cf EX a ga) (h2 : MW X cf EX (.BoolOp .And (b :: rest) pos) gb) : MW X cf EX (.BoolOp .And (a :: b :: rest) pos) (cAnd ga gb) :=
  PW.weak (pw_and h1 h2) fun σ H Q ⟨env, S, μ, F, s, q⟩ => ⟨env, S, μ, F, s, (Post.bind q).mono fun w S1 H1 μ1 s1 x1 q1 => by
    cases w with
    | true => rw [if_pos rfl] at q1 ⊢; exact ⟨env, S1, μ1, F, s1, q1⟩
    | false => rw [if_neg Bool.false_ne_true] at q1 ⊢; exact q1 H1 μ1 s1 (Ext.refl _ _ _ _)⟩
theorem mw_or {rest : List Expr} (h1 : MT X cf EX a ga) (h2 : MW X cf EX (.BoolOp .Or (b :: rest) pos) gb) : MW X cf EX (.BoolOp .Or (a :: b :: rest) pos) (cOr ga gb) :=
  PW.weak (pw_or h1 h2) fun σ H Q ⟨env, S, μ, F, s, q⟩ => ⟨env, S, μ, F, s, (Post.bind q).mono fun w S1 H1 μ1 s1 x1 q1 => by
    cases w with
    | false => rw [if_neg Bool.false_ne_true] at q1 ⊢; exact ⟨env, S1, μ1, F, s1, q1⟩
    | true => rw [if_pos rfl] at q1 ⊢; exact q1 H1 μ1 s1 (Ext.refl _ _ _ _)⟩
theorem mt_w (h : MW X cf EX a ga) : MT X cf EX a ga := PW.pt h
theorem me_one {op} (h : ME X cf EX a fa) : ME X cf EX (.BoolOp op [a] pos) fa := pe_one h
theorem me_and {rest : List Expr} (h1 : ME X cf EX a fa) (h2 : ME X cf EX (.BoolOp .And (b :: rest) pos) fb) : ME X cf EX (.BoolOp .And (a :: b :: rest) pos) (fAnd fa fb) :=
  PE.weak (pe_and h1 h2) fun σ H Q ⟨env, S, μ, F, s, q⟩ => ⟨env, S, μ, F, s, (Post.bind q).mono fun w S1 H1 μ1 s1 x1 q1 v rv => by
    split at q1
    · rename_i k
      refine ⟨k, rw_bl rv, ?_⟩
      cases k with
      | true => rw [if_pos rfl] at q1 ⊢; exact ⟨env, S1, μ1, F, s1, q1⟩
      | false => rw [if_neg Bool.false_ne_true] at q1 ⊢; exact post_here s1 (.d (.bl false)) q1
    · exact q1.elim⟩
theorem me_or {rest : List Expr} (h1 : ME X cf EX a fa) (h2 : ME X cf EX (.BoolOp .Or (b :: rest) pos) fb) : ME X cf EX (.BoolOp .Or (a :: b :: rest) pos) (fOr fa fb) :=
  PE.weak (pe_or h1 h2) fun σ H Q ⟨env, S, μ, F, s, q⟩ => ⟨env, S, μ, F, s, (Post.bind q).mono fun w S1 H1 μ1 s1 x1 q1 v rv => by
    split at q1
    · rename_i k
      refine ⟨k, rw_bl rv, ?_⟩
      cases k with
      | false => rw [if_neg Bool.false_ne_true] at q1 ⊢; exact ⟨env, S1, μ1, F, s1, q1⟩
      | true => rw [if_pos rfl] at q1 ⊢; exact post_here s1 (.d (.bl true)) q1
    · exact q1.elim⟩
theorem me_not (h : ME X cf EX a fa) : ME X cf EX (.UnaryOp .Not a pos) (fNot fa) :=
  PE.weak (pe_not h) fun σ H Q ⟨env, S, μ, F, s, q⟩ => ⟨env, S, μ, F, s, (Post.bind q).mono fun w S1 H1 μ1 s1 x1 q1 v rv => by
    split at q1
    · exact ⟨_, rw_bl rv, post_here s1 (.d (.bl _)) q1⟩
    · exact q1.elim⟩
theorem me_if (h : MT X cf EX c gc) (h1 : ME X cf EX a fa) (h2 : ME X cf EX b fb) : ME X cf EX (.IfExp c a b pos) (fIf gc fa fb) :=
  PE.weak (pe_ifExp h h1 h2) fun σ H Q ⟨env, S, μ, F, s, q⟩ => ⟨env, S, μ, F, s, (Post.bind q).mono fun w S1 H1 μ1 s1 x1 q1 => by
    cases w with
    | true => rw [if_pos rfl] at q1 ⊢; exact ⟨env, S1, μ1, F, s1, q1⟩
    | false => rw [if_neg Bool.false_ne_true] at q1 ⊢; exact ⟨env, S1, μ1, F, s1, q1⟩⟩
theorem me_neg (h : ME X cf EX a fa) : ME X cf EX (.UnaryOp .USub a pos) (fNeg fa) :=
  PE.weak (pe_un un_neg h) fun σ H Q ⟨env, S, μ, F, s, q⟩ => ⟨env, S, μ, F, s, (Post.bind q).mono fun w S1 H1 μ1 s1 x1 q1 v rv => by
    split at q1
    · exact ⟨_, rw_int rv, post_here s1 (.d (.int _)) q1⟩
    · exact q1.elim⟩

theorem ma_nil : MA X cf EX [] aNil := PA.weak pa_nil fun σ H Q ⟨env, S, μ, F, s, q⟩ => q H μ s (Ext.refl _ _ _ _) [] .nil
theorem ma_cons (h1 : ME X cf EX e fa) (h2 : MA X cf EX es ha) (hs : starEach (e :: es) X.env = (false, eval e X.env) :: starEach es X.env := by rfl) : MA X cf EX (e :: es) (aCons fa ha) :=
  PA.weak (pa_cons h1 h2 hs) fun σ H Q ⟨env, S, μ, F, s, q⟩ => ⟨env, S, μ, F, s, (Post.bind q).mono fun w S1 H1 μ1 s1 x1 q1 v rv => ⟨env, S1, μ1, F, s1, (Post.bind q1).mono fun ws S2 H2 μ2 s2 x2 q2 vs rvs => by
    split at q2
    · rename_i pw
      exact q2 H2 μ2 s2 (Ext.refl _ _ _ _) _ (.cons (RW.keep (x2.nn F) x2.pre rv pw) rvs)
    · exact q2.elim⟩⟩
theorem datas_dn {K : PySem.W.Frag} {mg : Str → Option Value} {H : Hp} {N : Addr → Prop} {μ : List Addr} : ∀ {vs : List V} {ws : List W} {ds : List D}, RWs K mg H N μ vs ws → datas ws = some ds → DnAll K H N vs ds
  | _, _, _, .nil, e => by
    simp only [datas, Option.some.injEq] at e
    subst e
    exact .nil
  | _, _, _, .cons (ws := ws) (.d h) t, e => by
    cases q : datas ws with
    | none => simp [datas, q] at e
    | some r =>
      simp only [datas, q, Option.map_some, Option.some.injEq] at e
      subst e
      exact .cons h (datas_dn t q)
  | _, _, _, .cons (.ref _) _, e => by simp [datas] at e
  | _, _, _, .cons (.own _ _) _, e => by simp [datas] at e
  | _, _, _, .cons (.tw _ _ _) _, e => by simp [datas] at e
  | _, _, _, .cons (.fn _) _, e => by simp [datas] at e
  | _, _, _, .cons (.scr _) _, e => by simp [datas] at e
theorem me_tup {k} (h : MA X cf EX es ha) : ME X cf EX (.Tuple es k pos) (fTup ha) :=
  PE.weak (pe_tup h) fun σ H Q ⟨env, S, μ, F, s, q⟩ => ⟨env, S, μ, F, s, (Post.bind q).mono fun ws S1 H1 μ1 s1 x1 q1 vs rvs => by
    split at q1
    · rename_i hl
      refine ⟨by rw [← lim_line, rvs.length]; exact hl, fun p n => ?_⟩
      split at q1
      · rename_i ds e
        exact post_tup (α := Unit) s1 (datas_dn rvs e) q1 n
      · exact q1 _ μ1 (s1.new n) (ext_new n) _ (.tw (s1.fresh n) upd_same (RWs.same (Same.upd_new n) rvs))
    · exact q1.elim⟩
theorem me_lst (h : MA X cf EX es ha) : ME X cf EX (.List es pos) (fLst ha) :=
  PE.weak (pe_lst h) fun σ H Q ⟨env, S, μ, F, s, q⟩ => ⟨env, S, μ, F, s, (Post.bind q).mono fun ws S1 H1 μ1 s1 x1 q1 vs rvs => by
    split at q1
    · rename_i hl
      refine ⟨by rw [← lim_line, rvs.length]; exact hl, fun p n => ?_⟩
      split at q1
      · rename_i ds e
        exact post_lst s1 (datas_dn rvs e) q1 n
      · exact q1.elim
    · exact q1.elim⟩

abbrev GN := List W → Sto → R W
def CallOp (X : Cx) (EX : WX) (r : List V → Hp → VK → Prop) (g : GN) : Prop := ∀ (F : Addr → Prop) (σ : L2.St) (env : EnvQ) (S : Sto) (H : Hp) (μ : List Addr) (vs : List V) (ws : List W) (Q : VK), Sim X.K X.mg F σ H env S μ → RWs X.K X.mg H (NN F μ σ env) μ vs ws →
  Post X.K X.mg EX F σ env H μ (g ws S) (fun w _ H' μ' => ∀ v, RW X.K X.mg H' (NN F μ' σ env) μ' v w → Q v H') → r vs H Q
def fB (g : GN) (a : SA) : SE := fun cf env S => (a cf env S).bind fun ws S1 => g ws S1
theorem me_callB {id : String} {r : List V → Hp → VK → Prop} {g : GN} (hc : CallR X (.builtin id) r) (o : CallOp X EX r g) (hg : Gl X x) (hm : X.mg x = none) (hv : bootBuiltins x = some (.builtin id)) (h : MA X cf EX (e :: es) ha) (hn : x ≠ "__name__" := by decide) (hdb : (x == ("__debug__" : Str)) = false := by decide)
    (he : starEach (e :: es) X.env = (false, eval e X.env) :: starEach es X.env := by rfl) (hpl : (backTo pos (starEach es X.env)).any (·.1) = false := by rfl) : ME X cf EX (.Call (.Name x p) (e :: es) [] pos) (fB g ha) :=
  PE.weak (pe_callB hc hg hm hv h hn hdb he hpl) fun σ H Q ⟨env, S, μ, F, s, q⟩ => ⟨env, S, μ, F, s, (Post.bind q).mono fun ws S1 H1 μ1 s1 x1 q1 vs rvs => o F σ env S1 H1 μ1 vs ws Q s1 rvs q1⟩
theorem me_callTy {T : String} {r : List V → Hp → VK → Prop} {g : GN} (hc : CallR X (.type T) r) (o : CallOp X EX r g) (hg : Gl X x) (hm : X.mg x = none) (hv : bootBuiltins x = some (.type T)) (h : MA X cf EX (e :: es) ha) (hn : x ≠ "__name__" := by decide) (hdb : (x == ("__debug__" : Str)) = false := by decide)
    (he : starEach (e :: es) X.env = (false, eval e X.env) :: starEach es X.env := by rfl) (hpl : (backTo pos (starEach es X.env)).any (·.1) = false := by rfl) : ME X cf EX (.Call (.Name x p) (e :: es) [] pos) (fB g ha) :=
  PE.weak (pe_callTy hc hg hm hv h hn hdb he hpl) fun σ H Q ⟨env, S, μ, F, s, q⟩ => ⟨env, S, μ, F, s, (Post.bind q).mono fun ws S1 H1 μ1 s1 x1 q1 vs rvs => o F σ env S1 H1 μ1 vs ws Q s1 rvs q1⟩
theorem rws1 {K : PySem.W.Frag} {mg : Str → Option Value} {H : Hp} {N : Addr → Prop} {μ : List Addr} {vs : List V} {w : W} (h : RWs K mg H N μ vs [w]) : ∃ v, vs = [v] ∧ RW K mg H N μ v w := by
  cases h with | cons h t => cases t; exact ⟨_, rfl, h⟩
theorem rws2 {K : PySem.W.Frag} {mg : Str → Option Value} {H : Hp} {N : Addr → Prop} {μ : List Addr} {vs : List V} {w u : W} (h : RWs K mg H N μ vs [w, u]) : ∃ v v', vs = [v, v'] ∧ RW K mg H N μ v w ∧ RW K mg H N μ v' u := by
  cases h with | cons h t => cases t with | cons h' t => cases t; exact ⟨_, _, rfl, h, h'⟩
/-- len -/
def gLen : GN
  | [.d (.tuple xs)], S => .ok (.d (.int xs.length)) S
  | [.d (.list xs)], S => .ok (.d (.int xs.length)) S
  | [.d (.str x)], S => if x.length ≤ LIM then .ok (.d (.int x.length)) S else .stuck
  | [.own xs], S => .ok (.d (.int xs.length)) S
  | [.scr xs], S => .ok (.d (.int xs.length)) S
  | _, _ => .stuck
theorem co_len : CallOp X EX (fun xs H Q => ∃ x n, xs = [x] ∧ LenV X.K x H n ∧ Q (.int n) H) gLen := by
  intro F σ env S H μ vs ws Q s rvs q
  unfold gLen at q
  split at q
  · obtain ⟨v, rfl, rv⟩ := rws1 rvs
    obtain ⟨a, us, rfl, ha, ta⟩ := rw_tup rv
    refine ⟨_, us.length, rfl, .inr ⟨_, ha.sq, rfl⟩, ?_⟩
    rw [ta.length]
    exact post_here s (.d (.int _)) q
  · obtain ⟨v, rfl, rv⟩ := rws1 rvs
    obtain ⟨a, us, rfl, na, ha, ta⟩ := rw_lst rv
    refine ⟨_, us.length, rfl, .inl ⟨_, SqL.of ha, rfl⟩, ?_⟩
    rw [ta.length]
    exact post_here s (.d (.int _)) q
  · obtain ⟨v, rfl, rv⟩ := rws1 rvs
    rw [rw_str rv]
    split at q
    · exact ⟨_, _, rfl, ⟨by rw [← lim_line]; assumption, rfl⟩, post_here s (.d (.int _)) q⟩
    · exact q.elim
  · obtain ⟨v, rfl, rv⟩ := rws1 rvs
    cases rv with
    | @own _ us _ ha ta =>
      refine ⟨_, us.length, rfl, .inl ⟨_, SqL.of ha, rfl⟩, ?_⟩
      rw [ta.length]
      exact post_here s (.d (.int _)) q
  · obtain ⟨v, rfl, rv⟩ := rws1 rvs
    cases rv with
    | scr ha =>
      refine ⟨_, _, rfl, .inl ⟨_, ha.sq, rfl⟩, ?_⟩
      rw [List.length_map]
      exact post_here s (.d (.int _)) q
  · exact q.elim
theorem me_len (hg : Gl X "len") (hm : X.mg "len" = none) (h : MA X cf EX [e] ha) (he : starEach [e] X.env = (false, eval e X.env) :: starEach [] X.env := by rfl) (hpl : (backTo pos (starEach [] X.env)).any (·.1) = false := by rfl) :
    ME X cf EX (.Call (.Name "len" p) [e] [] pos) (fB gLen ha) := me_callB call_len co_len hg hm boot_len h (he := he) (hpl := hpl)
/-- tuple(x), list(x) -/
def gTuple : GN
  | [.d (.tuple xs)], S => .ok (.d (.tuple xs)) S
  | [.d (.list xs)], S => .ok (.d (.tuple xs)) S
  | [.own xs], S => .ok (.d (.tuple xs)) S
  | _, _ => .stuck
def gList : GN
  | [.d (.tuple xs)], S => .ok (.d (.list xs)) S
  | [.d (.list xs)], S => .ok (.d (.list xs)) S
  | [.own xs], S => .ok (.d (.list xs)) S
  | _, _ => .stuck
theorem co_tuple : CallOp X EX (fun xs H Q => ∃ p ys, xs = [.ref p] ∧ ((SqL X.K H p ys ∧ ∀ l, H l = none → Q (.ref l) (upd H l (.tup ys))) ∨ (SqT X.K H p ys ∧ Q (.ref p) H))) gTuple := by
  intro F σ env S H μ vs ws Q s rvs q
  unfold gTuple at q
  split at q
  · obtain ⟨v, rfl, rv⟩ := rws1 rvs
    obtain ⟨a, us, rfl, ha, ta⟩ := rw_tup rv
    exact ⟨a, us, rfl, .inr ⟨ha.sq, post_here s rv q⟩⟩
  · obtain ⟨v, rfl, rv⟩ := rws1 rvs
    obtain ⟨a, us, rfl, na, ha, ta⟩ := rw_lst rv
    exact ⟨a, us, rfl, .inl ⟨SqL.of ha, fun l n => post_tup (α := Unit) s ta q n⟩⟩
  · obtain ⟨v, rfl, rv⟩ := rws1 rvs
    cases rv with
    | own ha ta => exact ⟨_, _, rfl, .inl ⟨SqL.of ha, fun l n => post_tup (α := Unit) s ta q n⟩⟩
  · exact q.elim
theorem co_list : CallOp X EX (fun xs H Q => ∃ p ys, xs = [.ref p] ∧ (SqL X.K H p ys ∨ SqT X.K H p ys) ∧ ∀ l, H l = none → Q (.ref l) (upd H l (.lst ys))) gList := by
  intro F σ env S H μ vs ws Q s rvs q
  unfold gList at q
  split at q
  · obtain ⟨v, rfl, rv⟩ := rws1 rvs
    obtain ⟨a, us, rfl, ha, ta⟩ := rw_tup rv
    exact ⟨a, us, rfl, .inr ha.sq, fun l n => post_lst s ta q n⟩
  · obtain ⟨v, rfl, rv⟩ := rws1 rvs
    obtain ⟨a, us, rfl, na, ha, ta⟩ := rw_lst rv
    exact ⟨a, us, rfl, .inl (SqL.of ha), fun l n => post_lst s ta q n⟩
  · obtain ⟨v, rfl, rv⟩ := rws1 rvs
    cases rv with
    | own ha ta => exact ⟨_, _, rfl, .inl (SqL.of ha), fun l n => post_lst s ta q n⟩
  · exact q.elim
theorem me_tuple (hg : Gl X "tuple") (hm : X.mg "tuple" = none) (h : MA X cf EX [e] ha) (he : starEach [e] X.env = (false, eval e X.env) :: starEach [] X.env := by rfl) (hpl : (backTo pos (starEach [] X.env)).any (·.1) = false := by rfl) :
    ME X cf EX (.Call (.Name "tuple" p) [e] [] pos) (fB gTuple ha) := me_callTy call_tuple_of co_tuple hg hm (by decide +kernel) h (he := he) (hpl := hpl)
theorem me_list (hg : Gl X "list") (hm : X.mg "list" = none) (h : MA X cf EX [e] ha) (he : starEach [e] X.env = (false, eval e X.env) :: starEach [] X.env := by rfl) (hpl : (backTo pos (starEach [] X.env)).any (·.1) = false := by rfl) :
    ME X cf EX (.Call (.Name "list" p) [e] [] pos) (fB gList ha) := me_callTy call_list_of co_list hg hm (by decide +kernel) h (he := he) (hpl := hpl)
/-- a list of truths, of whole numbers -/
def bools : List D → Option (List Bool)
  | [] => some []
  | .bool b :: ds => (bools ds).map (b :: ·)
  | _ => none
def intsOf : List D → Option (List Int)
  | [] => some []
  | .int b :: ds => (intsOf ds).map (b :: ·)
  | _ => none
theorem bools_dn {K : PySem.W.Frag} {H : Hp} {N : Addr → Prop} : ∀ {vs : List V} {ds : List D} {bs : List Bool}, DnAll K H N vs ds → bools ds = some bs → vs = bs.map V.bl
  | _, _, _, .nil, e => by
    simp only [bools, Option.some.injEq] at e
    subst e
    rfl
  | _, _, _, .cons (ds := ds) (.bl b) t, e => by
    cases q : bools ds with
    | none => simp [bools, q] at e
    | some r =>
      simp only [bools, q, Option.map_some, Option.some.injEq] at e
      subst e
      rw [List.map_cons, ← bools_dn t q]
  | _, _, _, .cons .non _, e => by simp [bools] at e
  | _, _, _, .cons (.int _) _, e => by simp [bools] at e
  | _, _, _, .cons (.str _) _, e => by simp [bools] at e
  | _, _, _, .cons (.lst _ _) _, e => by simp [bools] at e
  | _, _, _, .cons (.tup _ _) _, e => by simp [bools] at e
  | _, _, _, .cons (.dic _ _ _) _, e => by simp [bools] at e
theorem ints_dn {K : PySem.W.Frag} {H : Hp} {N : Addr → Prop} : ∀ {vs : List V} {ds : List D} {bs : List Int}, DnAll K H N vs ds → intsOf ds = some bs → vs = bs.map V.int
  | _, _, _, .nil, e => by
    simp only [intsOf, Option.some.injEq] at e
    subst e
    rfl
  | _, _, _, .cons (ds := ds) (.int b) t, e => by
    cases q : intsOf ds with
    | none => simp [intsOf, q] at e
    | some r =>
      simp only [intsOf, q, Option.map_some, Option.some.injEq] at e
      subst e
      rw [List.map_cons, ← ints_dn t q]
  | _, _, _, .cons .non _, e => by simp [intsOf] at e
  | _, _, _, .cons (.bl _) _, e => by simp [intsOf] at e
  | _, _, _, .cons (.str _) _, e => by simp [intsOf] at e
  | _, _, _, .cons (.lst _ _) _, e => by simp [intsOf] at e
  | _, _, _, .cons (.tup _ _) _, e => by simp [intsOf] at e
  | _, _, _, .cons (.dic _ _ _) _, e => by simp [intsOf] at e
theorem ints_all {K : PySem.W.Frag} {H : Hp} {N : Addr → Prop} : ∀ (is : List Int), DnAll K H N (is.map V.int) (is.map PyData.int)
  | [] => .nil
  | i :: is => .cons (.int i) (ints_all is)
def gAll : GN
  | [.d (.list xs)], S => match bools xs with | some bs => .ok (.d (.bool (bs.all id))) S | none => .stuck
  | _, _ => .stuck
def gAny : GN
  | [.d (.list xs)], S => match bools xs with | some bs => .ok (.d (.bool (bs.any id))) S | none => .stuck
  | _, _ => .stuck
theorem co_all : CallOp X EX (rAll X.K) gAll := by
  intro F σ env S H μ vs ws Q s rvs q
  unfold gAll at q
  split at q
  · obtain ⟨v, rfl, rv⟩ := rws1 rvs
    obtain ⟨a, us, rfl, na, ha, ta⟩ := rw_lst rv
    split at q
    · rename_i bs e
      have h := bools_dn ta e
      subst h
      exact ⟨a, bs, rfl, SqL.of ha, post_here s (.d (.bl _)) q⟩
    · exact q.elim
  · exact q.elim
theorem me_all (hc : X.calm = true) (hg : Gl X "all") (hm : X.mg "all" = none) (h : MA X cf EX [e] ha) (he : starEach [e] X.env = (false, eval e X.env) :: starEach [] X.env := by rfl) (hpl : (backTo pos (starEach [] X.env)).any (·.1) = false := by rfl) :
    ME X cf EX (.Call (.Name "all" p) [e] [] pos) (fB gAll ha) := me_callB (cr_all hc) co_all hg hm (by decide +kernel) h (he := he) (hpl := hpl)
/-- max, min of two numbers; abs; int of a truth or a number -/
def gMax2 : GN
  | [.d (.int i), .d (.int j)], S => .ok (.d (.int (if j > i then j else i))) S
  | _, _ => .stuck
def gMin2 : GN
  | [.d (.int i), .d (.int j)], S => .ok (.d (.int (if j < i then j else i))) S
  | _, _ => .stuck
def gInt : GN
  | [.d (.int i)], S => .ok (.d (.int i)) S
  | [.d (.bool k)], S => .ok (.d (.int (if k then 1 else 0))) S
  | _, _ => .stuck
theorem co_max2 : CallOp X EX (fun xs H Q => ∃ i j, xs = [.int i, .int j] ∧ Q (.int (if j > i then j else i)) H) gMax2 := by
  intro F σ env S H μ vs ws Q s rvs q
  unfold gMax2 at q
  split at q
  · obtain ⟨v, v', rfl, r1, r2⟩ := rws2 rvs
    rw [rw_int r1, rw_int r2]
    exact ⟨_, _, rfl, post_here s (.d (.int _)) q⟩
  · exact q.elim
theorem co_min2 : CallOp X EX (fun xs H Q => ∃ i j, xs = [.int i, .int j] ∧ Q (.int (if j < i then j else i)) H) gMin2 := by
  intro F σ env S H μ vs ws Q s rvs q
  unfold gMin2 at q
  split at q
  · obtain ⟨v, v', rfl, r1, r2⟩ := rws2 rvs
    rw [rw_int r1, rw_int r2]
    exact ⟨_, _, rfl, post_here s (.d (.int _)) q⟩
  · exact q.elim
theorem co_int : CallOp X EX (fun xs H Q => (∃ i, xs = [.int i] ∧ Q (.int i) H) ∨ ∃ k, xs = [.bl k] ∧ Q (.int (if k then 1 else 0)) H) gInt := by
  intro F σ env S H μ vs ws Q s rvs q
  unfold gInt at q
  split at q
  · obtain ⟨v, rfl, r1⟩ := rws1 rvs
    rw [rw_int r1]
    exact .inl ⟨_, rfl, post_here s (.d (.int _)) q⟩
  · obtain ⟨v, rfl, r1⟩ := rws1 rvs
    rw [rw_bl r1]
    exact .inr ⟨_, rfl, post_here s (.d (.int _)) q⟩
  · exact q.elim
theorem me_max2 (hc : X.calm = true) (hg : Gl X "max") (hm : X.mg "max" = none) (h : MA X cf EX (e :: es) ha) (he : starEach (e :: es) X.env = (false, eval e X.env) :: starEach es X.env := by rfl) (hpl : (backTo pos (starEach es X.env)).any (·.1) = false := by rfl) :
    ME X cf EX (.Call (.Name "max" p) (e :: es) [] pos) (fB gMax2 ha) := me_callB (call_max2 hc) co_max2 hg hm (by decide +kernel) h (he := he) (hpl := hpl)
theorem me_min2 (hc : X.calm = true) (hg : Gl X "min") (hm : X.mg "min" = none) (h : MA X cf EX (e :: es) ha) (he : starEach (e :: es) X.env = (false, eval e X.env) :: starEach es X.env := by rfl) (hpl : (backTo pos (starEach es X.env)).any (·.1) = false := by rfl) :
    ME X cf EX (.Call (.Name "min" p) (e :: es) [] pos) (fB gMin2 ha) := me_callB (call_min2 hc) co_min2 hg hm (by decide +kernel) h (he := he) (hpl := hpl)
theorem me_intc (hg : Gl X "int") (hm : X.mg "int" = none) (h : MA X cf EX [e] ha) (he : starEach [e] X.env = (false, eval e X.env) :: starEach [] X.env := by rfl) (hpl : (backTo pos (starEach [] X.env)).any (·.1) = false := by rfl) :
    ME X cf EX (.Call (.Name "int" p) [e] [] pos) (fB gInt ha) := me_callTy call_int1 co_int hg hm (by decide +kernel) h (he := he) (hpl := hpl)
end
end Q

namespace Q
open PySem PySem.Spec PyProof.Rows L2

section
variable {K : PySem.W.Frag} {mg : Str → Option Value} {H : Hp} {N N' : Addr → Prop} {μ : List Addr}
end

structure ExR (H : Hp) (μ : List Addr) (H' : Hp) (μ' : List Addr) : Prop where
  keep : Keep (· ∈ μ) H (· ∈ μ') H'
  pre : μ <+: μ'
def PostR (K : PySem.W.Frag) (mg : Str → Option Value) (F : Addr → Prop) (H : Hp) (μ : List Addr) (r : R W) (Q : VK) (E : XK) : Prop :=
  match r with
  | .ok w S' => ∀ v H' μ', SimR K mg F H' S' μ' → ExR H μ H' μ' → RW K mg H' (NR F μ') μ' v w → Q v H'
  | .exc c S' => ∀ C H' μ', mg (Str.ofString c) = some (.ref C) → SimR K mg F H' S' μ' → ExR H μ H' μ' → E (.ref C) none H'
  | .stuck => False
def SpQ (K : PySem.W.Frag) (mg : Str → Option Value) (cf : CF) (x : String) (n : Nat) : Sp := fun vs H Q E => vs.length = n ∧ ∃ ws S μ F, SimR K mg F H S μ ∧ RWs K mg H (NR F μ) μ vs ws ∧ W.plains ws = true ∧ PostR K mg F H μ (cf x ws S) Q E
/-- a def of the text -/
structure FnQ (P : Program) (w : World) (K : PySem.W.Frag) (mg : Str → Option Value) (base : Heap) (cf : CF) (k : Nat) (x : String) (n : Nat) : Prop where
  ex : ∃ f fd ps, FnG P w K mg base (L2.CX P w) k f fd ps (SpQ K mg cf x n) ∧ mg (Str.ofString x) = some (.ref f) ∧ PySem.W.keepIn K (.ref f) = true ∧ Binds K fd ps [] ∧ ps.length = n
section
variable {X : Cx} {cf : CF} {EX : WX} {F : Addr → Prop} {σ : L2.St} {env : EnvQ} {S S' : Sto} {H H' : Hp} {μ μ' : List Addr} {K : PySem.W.Frag} {mg : Str → Option Value}
theorem own_or_plain : ∀ {v : V} {w : W} {N : Addr → Prop}, RW K mg H N μ v w → w.isOwn = true → ∃ a o, v = .ref a ∧ H a = some o ∧ OwnR K H N o w
  | _, _, _, .own e t, _ => ⟨_, _, rfl, e, .lst t⟩
  | _, _, _, .ownd e t, _ => ⟨_, _, rfl, e, .dct t⟩
  | _, _, _, .d _, h => by simp [W.isOwn] at h
  | _, _, _, .ref _, h => by simp [W.isOwn] at h
  | _, _, _, .tw _ _ _, h => by simp [W.isOwn] at h
  | _, _, _, .fn _, h => by simp [W.isOwn] at h
  | _, _, _, .scr _, h => by simp [W.isOwn] at h
/-- to a callee: its F is what this def may change, and what its callers may -/
theorem Sim.toR (s : Sim K mg F σ H env S μ) : SimR K mg (fun a => (∃ i, OwnAt σ env i a) ∨ F a) H S μ where
  st := s.st.sub fun a h => h.elim (fun h => .inl (.inl h)) fun h => h.elim (fun h => .inl (.inr h)) .inr
  ftr := fun a h => h.elim (fun h => s.tracked (.inl (.inr h))) fun h => s.ftr a h
  fdis := fun a h m => h.elim (fun ⟨i, h⟩ => s.apart i a h m) fun h => s.fdis a h (.inl m)
theorem nr_sub : ∀ a, NR (fun a => (∃ i, OwnAt σ env i a) ∨ F a) μ a → NN F μ σ env a := fun a h => h.elim (fun h => .inl (.inl h)) fun h => h.elim (fun h => .inl (.inr h)) .inr
theorem nr_sup : ∀ a, NN F μ σ env a → NR (fun a => (∃ i, OwnAt σ env i a) ∨ F a) μ a := fun a h => h.elim (fun h => h.elim .inl fun h => .inr (.inl h)) fun h => .inr (.inr h)
/-- back from a callee -/
theorem Sim.back (s : Sim K mg F σ H env S μ) (r : SimR K mg (fun a => (∃ i, OwnAt σ env i a) ∨ F a) H' S' μ') (x : ExR H μ H' μ') : Sim K mg F σ H' env S' μ' ∧ Ext σ env H μ H' μ' := by
  have ow : ∀ i a, OwnAt σ env i a → a ∉ μ' := fun i a h => r.fdis a (.inl ⟨i, h⟩)
  have kp : Keep (MM μ σ env) H (MM μ' σ env) H' := fun a o n e => by
    obtain ⟨e', n'⟩ := x.keep a o (fun m => n (.inl m)) e
    exact ⟨e', fun h => h.elim n' fun h => n (.inr h)⟩
  have ex : Ext σ env H μ H' μ' := ⟨kp, x.pre⟩
  refine ⟨⟨s.len, fun i w e => ?_, s.fin, s.inj, ow, r.st.sub nr_sup, fun a f => r.ftr a (.inr f), fun a f h => h.elim (r.fdis a (.inr f)) fun h => s.fdis a f (.inr h)⟩, ex⟩
  obtain ⟨v, hv, rw'⟩ := s.slot i w e
  refine ⟨v, hv, ?_⟩
  have fi := s.fin i w e
  by_cases po : w.isOwn = true
  · obtain ⟨a, o, rfl, ha, ta⟩ := own_or_plain rw' po
    have o1 : OwnAt σ env i a := ⟨hv, _, e, po⟩
    exact (ta.keep (ex.nn F)).rw (x.keep a _ (s.apart i a o1) ha).1
  · have pl : w.plain = true := by
      unfold W.fine at fi
      simpa [po] using fi
    exact RW.keep (ex.nn F) x.pre rw' pl
end
section
variable {X : Cx} {cf : CF} {EX : WX} {e a b c : Expr} {es : List Expr} {fa fb fc : SE} {ha hb : SA} {pos p : Pos} {x : String} {k n : Nat}
theorem post_R {F : Addr → Prop} {σ : L2.St} {env : EnvQ} {S : Sto} {H : Hp} {μ : List Addr} {r : R W} {Q : VK} (s : Sim X.K X.mg F σ H env S μ)
    (q : Post X.K X.mg EX F σ env H μ r fun w _ H' μ' => ∀ v, RW X.K X.mg H' (NN F μ' σ env) μ' v w → Q v H') : PostR X.K X.mg (fun a => (∃ i, OwnAt σ env i a) ∨ F a) H μ r Q (WE EX σ) := by
  cases r with
  | ok w S' =>
    intro v H' μ' r x rv
    obtain ⟨s', x'⟩ := s.back r x
    exact q H' μ' s' x' v (RW.sub nr_sup rv)
  | exc c S' =>
    intro C H' μ' g r x
    obtain ⟨s', x'⟩ := s.back r x
    exact q C H' μ' g s' x'
  | stuck => exact q
def arity (n : Nat) (ws : List W) (r : R W) : R W := if ws.length = n ∧ W.plains ws = true then r else .stuck
def fCallN (x : String) (n : Nat) (a : SA) : SE := fun cf env S => (a cf env S).bind fun ws S1 => arity n ws (cf x ws S1)
theorem me_call (G : FnQ X.prog X.w X.K X.mg X.base cf k x n) (hA : X.A.guards = some []) (hr : Room k X.A) (tk : Takes X EX) (hg : Gl X (Str.ofString x)) (h : MA X cf EX (e :: es) ha) (hdb : (Str.ofString x == ("__debug__" : Str)) = false := by decide)
    (he : starEach (e :: es) X.env = (false, eval e X.env) :: starEach es X.env := by rfl) (hpl : (backTo pos (starEach es X.env)).any (·.1) = false := by rfl) : ME X cf EX (.Call (.Name (Str.ofString x) p) (e :: es) [] pos) (fCallN x n ha) := by
  obtain ⟨f, fd, ps, G1, G2, G3, G4, G5⟩ := G.ex
  refine PE.weak (pe_callG G1 hA hr hg G2 G3 G4 tk h hdb he hpl) fun σ H Q ⟨env, S, μ, F, s, q⟩ => ⟨env, S, μ, F, s, (Post.bind q).mono fun ws S1 H1 μ1 s1 x1 q1 vs rvs => ?_⟩
  unfold arity at q1
  split at q1
  · rename_i c
    exact ⟨by rw [rvs.length]; exact c.1, ws, S1, μ1, _, s1.toR, RWs.sub nr_sub rvs, c.2, post_R s1 q1⟩
  · exact q1.elim
def fCall0 (x : String) : SE := fun cf env S => cf x [] S
theorem IxR.or {r r' : R2} (h : IxR X r) (h' : IxR X r') : IxR X (fun x y H Q => r x y H Q ∨ r' x y H Q) := by
  intro value slice pins s σ H x y v u Q I rx ry q hs
  rcases q with q | q
  · exact h value slice pins s σ H x y v u Q I rx ry q hs
  · exact h' value slice pins s σ H x y v u Q I rx ry q hs
def gAt : G2
  | .d (.tuple xs), .d (.int i), S => match atI xs i with | some x => .ok (.d x) S | none => .stuck
  | .d (.list xs), .d (.int i), S => match atI xs i with | some x => .ok (.d x) S | none => .stuck
  | .d (.str x), .d (.int i), S => if x.length ≤ LIM then (match atI x.cps.toList i with | some c => .ok (.d (.str ⟨#[c]⟩)) S | none => .stuck) else .stuck
  | .tw xs, .d (.int i), S => if W.plains xs then (match atI xs i with | some x => .ok x S | none => .stuck) else .stuck
  | .ref n, .d (.int i), S => match S[n]? with
    | some (.lst xs) => (match atI xs i with | some x => .ok (.d x) S | none => .stuck)
    | _ => .stuck
  | .scr xs, .d (.int i), S => match atI xs i with | some x => .ok (.d (.int x)) S | none => .stuck
  | .own xs, .d (.int i), S => match atI xs i with | some x => .ok (.d x) S | none => .stuck
  | _, _, _ => .stuck
theorem qat_get {α β : Type} {xs : List α} {ys : List β} {i : Int} {y : β} (hl : xs.length = ys.length) (h : atI ys i = some y) : ∃ j : Nat, ys[j]? = some y ∧ ∀ x, xs[j]? = some x → atI xs i = some x := by
  unfold atI at h ⊢
  rw [hl]
  cases e : ixN ys.length i with
  | none => rw [e] at h; cases h
  | some j =>
    rw [e] at h
    exact ⟨j, h, fun x hx => hx⟩
theorem atI_dn {K : PySem.W.Frag} {H : Hp} {N : Addr → Prop} {vs : List V} {ds : List D} {i : Int} {d : D} (t : DnAll K H N vs ds) (h : atI ds i = some d) : ∃ v, atI vs i = some v ∧ Dn K H N v d := by
  obtain ⟨j, hj, f⟩ := qat_get t.length h
  obtain ⟨v, hv, r⟩ := t.get hj
  exact ⟨v, f v hv, r⟩
theorem RWs.get {K : PySem.W.Frag} {mg : Str → Option Value} {H : Hp} {N : Addr → Prop} {μ : List Addr} : ∀ {vs : List V} {ws : List W} {i : Nat} {w : W}, RWs K mg H N μ vs ws → ws[i]? = some w → ∃ v, vs[i]? = some v ∧ RW K mg H N μ v w
  | _, _, _, _, .nil, e => by simp at e
  | _, _, 0, _, .cons h _, e => by simp at e; subst e; exact ⟨_, rfl, h⟩
  | _, _, i + 1, w, .cons _ t, e => by
    obtain ⟨v, h1, h2⟩ := RWs.get (i := i) (w := w) t (by simpa using e)
    exact ⟨v, by simpa using h1, h2⟩
theorem o_at : ∀ (F : Addr → Prop) (σ : L2.St) (env : EnvQ) (S : Sto) (H : Hp) (μ : List Addr) (x y : V) (w u : W) (Q : VK), Sim X.K X.mg F σ H env S μ → RW X.K X.mg H (NN F μ σ env) μ x w → RW X.K X.mg H (NN F μ σ env) μ y u →
    Post X.K X.mg EX F σ env H μ (gAt w u S) (fun w _ H' μ' => ∀ v, RW X.K X.mg H' (NN F μ' σ env) μ' v w → Q v H') → rIxL X.K x y H Q ∨ rIxT X.K x y H Q ∨ rIxS x y H Q := by
  intro F σ env S H μ x y w u Q s rx ry q
  unfold gAt at q
  split at q
  · obtain ⟨a, vs, rfl, ha, ta⟩ := rw_tup rx
    rw [rw_int ry]
    split at q
    · rename_i e
      obtain ⟨v, hv, r⟩ := atI_dn ta e
      exact .inr (.inl ⟨a, vs, _, v, rfl, rfl, ha.sq, hv, post_here s (.d r) q⟩)
    · exact q.elim
  · obtain ⟨a, vs, rfl, na, ha, ta⟩ := rw_lst rx
    rw [rw_int ry]
    split at q
    · rename_i e
      obtain ⟨v, hv, r⟩ := atI_dn ta e
      exact .inl ⟨a, vs, _, v, rfl, rfl, SqL.of ha, hv, post_here s (.d r) q⟩
    · exact q.elim
  · rw [rw_str rx, rw_int ry]
    split at q
    · split at q
      · rename_i e
        exact .inr (.inr ⟨_, _, _, rfl, rfl, by rw [← lim_line]; assumption, e, post_here s (.d (.str _)) q⟩)
      · exact q.elim
    · exact q.elim
  · rw [rw_int ry]
    split at q
    · split at q
      · rename_i e
        cases rx with
        | tw n e1 t =>
          obtain ⟨j, hj, f⟩ := qat_get t.length e
          obtain ⟨v, hv, r⟩ := t.get hj
          exact .inr (.inl ⟨_, _, _, v, rfl, rfl, SqT.of e1, f v hv, post_here s r q⟩)
      · exact q.elim
    · exact q.elim
  · rw [rw_int ry]
    split at q
    · rename_i hS
      split at q
      · rename_i e
        cases rx with
        | ref hn =>
          obtain ⟨a, ha, ro⟩ := s.st.obj _ _ hS
          rw [hn] at ha
          cases ha
          cases ro with
          | lst h t =>
            obtain ⟨v, hv, r⟩ := atI_dn t e
            exact .inl ⟨_, _, _, v, rfl, rfl, SqL.of h, hv, post_here s (.d r) q⟩
      · exact q.elim
    · exact q.elim
  · rw [rw_int ry]
    split at q
    · rename_i xs i S' z e
      cases rx with
      | scr h =>
        obtain ⟨j, hj, f⟩ := qat_get (xs := xs.map V.int) (by simp) e
        exact .inl ⟨_, _, _, _, rfl, rfl, h.sq, f (.int z) (by simp [hj]), post_here s (.d (.int z)) q⟩
    · exact q.elim
  · rw [rw_int ry]
    split at q
    · rename_i e
      cases rx with
      | own h t =>
        obtain ⟨v, hv, r⟩ := atI_dn t e
        exact .inl ⟨_, _, _, v, rfl, rfl, SqL.of h, hv, post_here s (.d r) q⟩
    · exact q.elim
  · exact q.elim
/-- o[i], i by itself without one's own -/
def fAt (a b : SE) : SE := fun cf env S => (a cf env S).bind fun x S1 => if x.plain then (b cf env S1).bind fun y S2 => gAt x y S2 else .stuck
theorem me_at (h1 : ME X cf EX a fa) (h2 : ME X cf EX b fb) (hs : PlainIx b := by exact fun _ _ => rfl) : ME X cf EX (.Subscript a b pos) (fAt fa fb) := by
  refine PE.weak (pe_ix (IxR.or ix_list (IxR.or ix_tup ix_str)) h1 h2 hs) fun σ H Q ⟨env, S, μ, F, s, q⟩ => ⟨env, S, μ, F, s, (Post.bind q).mono fun w S1 H1 μ1 s1 x1 q1 v rv => ?_⟩
  split at q1
  · rename_i pw
    exact ⟨env, S1, μ1, F, s1, (Post.bind q1).mono fun u S2 H2 μ2 s2 x2 q2 v2 rv2 => o_at F σ env S2 H2 μ2 v v2 w u Q s2 (RW.keep (x2.nn F) x2.pre rv pw) rv2 q2⟩
  · exact q1.elim
/-- one's own list, told -/
def fOwn (i : Nat) : SE := fun _ env S => match env[i]? with
  | some (some (.own xs)) => .ok (.own xs) S
  | some (some (.ownd xs)) => .ok (.ownd xs) S
  | _ => .stuck
theorem me_own {i : Nat} {x : Str} (h : PE X (.Name x pos) (tVar i)) : ME X cf EX (.Name x pos) (fOwn i) :=
  PE.weak h fun σ H Q ⟨env, S, μ, F, s, q⟩ => by
    unfold fOwn at q
    split at q
    · rename_i e
      obtain ⟨v, hv, r⟩ := s.slot i _ e
      exact ⟨v, hv, q H μ s (Ext.refl _ _ _ _) v r⟩
    · rename_i e
      obtain ⟨v, hv, r⟩ := s.slot i _ e
      exact ⟨v, hv, q H μ s (Ext.refl _ _ _ _) v r⟩
    · exact q.elim
/-- found[i] of one's own list, i a constant or a variable (so that nothing comes between) -/
def fAtOwn (i : Nat) (b : SE) : SE := fun cf env S => match env[i]? with
  | some (some (.own xs)) => (b cf env S).bind fun y S2 => gAt (.own xs) y S2
  | _ => .stuck
/-- one argument, one's own too -/
def aOne (a : SE) : SA := fun cf env S => (a cf env S).bind fun x S1 => .ok [x] S1
theorem ma_one (h1 : ME X cf EX e fa) (hs : starEach (e :: []) X.env = (false, eval e X.env) :: starEach [] X.env := by rfl) : MA X cf EX [e] (aOne fa) :=
  PA.weak (pa_cons h1 pa_nil hs) fun σ H Q ⟨env, S, μ, F, s, q⟩ => ⟨env, S, μ, F, s, (Post.bind q).mono fun w S1 H1 μ1 s1 x1 q1 v rv => q1 H1 μ1 s1 (Ext.refl _ _ _ _) _ (.cons rv .nil)⟩
/-- slices -/
def cutD {α : Type} (xs : List α) (lo hi : Option Int) : List α := (xs.drop (HT.sIx xs.length 0 lo)).take (HT.sIx xs.length xs.length hi - HT.sIx xs.length 0 lo)
theorem cut_dn {K : PySem.W.Frag} {H : Hp} {N : Addr → Prop} {vs : List V} {ds : List D} {lo hi : Option Int} (t : DnAll K H N vs ds) : DnAll K H N (cutV vs lo hi) (cutD ds lo hi) := by
  unfold cutV cutD
  rw [t.length]
  exact (t.drop _).take _
def gSlice (w : W) (lo hi : Option Int) (S : Sto) : R W := match w with
  | .d (.tuple xs) => .ok (.d (.tuple (cutD xs lo hi))) S
  | .d (.list xs) => .ok (.d (.list (cutD xs lo hi))) S
  | .d (.str x) => if x.length ≤ LIM then .ok (.d (.str (cutS x lo hi))) S else .stuck
  | .scr xs => .ok (.d (.list ((cutD xs lo hi).map PyData.int))) S
  | _ => .stuck
abbrev SO := CF → EnvQ → Sto → R (Option Int)
def oNone : SO := fun _ _ S => .ok none S
def oSome (a : SE) : SO := fun cf env S => (a cf env S).bind fun x S1 => match x with
  | .d (.int i) => .ok (some i) S1
  | _ => .stuck
def fSl (a : SE) (lo hi : SO) : SE := fun cf env S => (a cf env S).bind fun x S1 => if x.plain then (lo cf env S1).bind fun l S2 => (hi cf env S2).bind fun u S3 => gSlice x l u S3 else .stuck
def tO (K : PySem.W.Frag) (mg : Str → Option Value) (cf : CF) (EX : WX) (f : SO) : TO := fun σ H Q => ∃ env S μ F, Sim K mg F σ H env S μ ∧ Post K mg EX F σ env H μ (f cf env S) fun b _ H' _ => Q b H'
def MO (X : Cx) (cf : CF) (EX : WX) (e : Option Expr) (f : SO) : Prop := PO X e (tO X.K X.mg cf EX f)
theorem PO.weak {X : Cx} {e : Option Expr} {t t' : TO} (h : PO X e t) (w : ∀ σ H Q, t' σ H Q → t σ H Q) : PO X e t' := ⟨fun pins s σ H Q I q => h.run pins s σ H Q I (w σ H Q q)⟩
theorem mo_none : MO X cf EX none oNone := PO.weak po_none fun σ H Q ⟨env, S, μ, F, s, q⟩ => q H μ s (Ext.refl _ _ _ _)
theorem mo_some (h : ME X cf EX e fa) : MO X cf EX (some e) (oSome fa) := PO.weak (po_some h) fun σ H Q ⟨env, S, μ, F, s, q⟩ => ⟨env, S, μ, F, s, (Post.bind q).mono fun w S1 H1 μ1 s1 x1 q1 v rv => by
  split at q1
  · exact ⟨_, rw_int rv, q1 H1 μ1 s1 (Ext.refl _ _ _ _)⟩
  · exact q1.elim⟩
theorem cut_map {xs : List Int} {lo hi : Option Int} : cutV (xs.map V.int) lo hi = (cutD xs lo hi).map V.int := by
  unfold cutV cutD
  rw [List.length_map, List.map_take, List.map_drop]
theorem whole_cut {α : Type} {xs : List α} {lo hi : Option Int} (h : HT.sIx xs.length 0 lo = 0 ∧ HT.sIx xs.length xs.length hi = xs.length) : cutD xs lo hi = xs := by
  unfold cutD
  rw [h.1, h.2]
  simp
theorem me_slice {l u : Option Expr} {fl fu : SO} {p2 : Pos} (h : ME X cf EX a fa) (hl : MO X cf EX l fl) (hu : MO X cf EX u fu) : ME X cf EX (.Subscript a (.Slice l u none p2) pos) (fSl fa fl fu) := by
  refine PE.weak (pe_slice (SlR.or sl_list (SlR.or sl_tupA sl_str)) h hl hu) fun σ H Q ⟨env, S, μ, F, s, q⟩ => ⟨env, S, μ, F, s, (Post.bind q).mono fun w S1 H1 μ1 s1 x1 q1 v rv => ?_⟩
  split at q1
  · rename_i pw
    refine ⟨env, S1, μ1, F, s1, (Post.bind q1).mono fun lo S2 H2 μ2 s2 x2 q2 => ⟨env, S2, μ2, F, s2, (Post.bind q2).mono fun hi S3 H3 μ3 s3 x3 q3 => ?_⟩⟩
    have rv' : RW X.K X.mg H3 (NN F μ3 σ env) μ3 v w := RW.keep ((x2.nn F).trans (x3.nn F)) (List.IsPrefix.trans x2.pre x3.pre) rv pw
    unfold gSlice at q3
    split at q3
    · obtain ⟨t, vs, rfl, ht, tt⟩ := rw_tup rv'
      refine .inr (.inl ⟨t, vs, rfl, ht.sq, fun z => ?_, fun _ p n => post_tup (α := Unit) s3 (cut_dn tt) q3 n⟩)
      rw [tt.length] at z
      rw [whole_cut z] at q3
      exact post_here s3 rv' q3
    · obtain ⟨t, vs, rfl, nt, ht, tt⟩ := rw_lst rv'
      exact .inl ⟨t, vs, rfl, SqL.of ht, fun p n => post_lst s3 (cut_dn tt) q3 n⟩
    · rw [rw_str rv']
      split at q3
      · rename_i h
        exact .inr (.inr ⟨_, rfl, by rw [← lim_line]; exact h, post_here s3 (.d (.str _)) q3⟩)
      · exact q3.elim
    · cases rv' with
      | scr h =>
        refine .inl ⟨_, _, rfl, h.sq, fun p n => ?_⟩
        rw [cut_map]
        exact post_lst s3 (ints_all _) q3 n
    · exact q3.elim
  · exact q1.elim

theorem dn_ty {K : PySem.W.Frag} {H : Hp} {N : Addr → Prop} {v : V} {d : D} (h : Dn K H N v d) : TyX K H v (.type (tyName d)) := by
  cases h with
  | non => exact .base .non
  | bl b => exact .base (.bl b)
  | int i => exact .base (.int i)
  | str x => exact .base (.str x)
  | lst h t => exact .base (.lst h.2)
  | tup h t =>
    rcases h with ⟨_, h | ⟨o, h⟩⟩ | h
    · exact .base (.tup h)
    · exact .fTuple h
    · rcases h with (h | ⟨_, h⟩) | ⟨o, its, n, ho, hc, _⟩
      · cases h
      · cases h
      · exact .kTuple ho hc
  | dic n h f => exact .fDict h
theorem kit_all : ∀ a ∈ ["NoneType", "bool", "int", "str", "list", "tuple", "dict"], ∀ T ∈ ["int", "bool", "str", "tuple", "list", "dict"], kitB a T = some (a == T || (a == "bool" && T == "int")) := by decide +kernel
theorem kit_isTy {T : String} (hT : T ∈ ["int", "bool", "str", "tuple", "list", "dict"]) (d : D) : kitB (tyName d) T = some (isTy T d) := kit_all _ (by cases d <;> simp [tyName]) T hT
theorem me_isi {T : String} {q : Pos} (hT : T ∈ ["int", "bool", "str", "tuple", "list", "dict"] := by decide) (hg : Gl X "isinstance") (hm : X.mg "isinstance" = none) (h1 : ME X cf EX e fa) (h2 : PE X (.Name (Str.ofString T) q) (tC (.ty T)))
    (he : starEach [e, .Name (Str.ofString T) q] X.env = (false, eval e X.env) :: starEach [.Name (Str.ofString T) q] X.env := by rfl) (he2 : starEach [.Name (Str.ofString T) q] X.env = (false, eval (.Name (Str.ofString T) q) X.env) :: starEach [] X.env := by rfl)
    (hpl : (backTo pos (starEach [.Name (Str.ofString T) q] X.env)).any (·.1) = false := by rfl) : ME X cf EX (.Call (.Name "isinstance" p) [e, .Name (Str.ofString T) q] [] pos) (fIsI T fa) :=
  PE.weak (pe_callB call_isi hg hm (by decide +kernel) (pa_cons h1 (pa_cons h2 pa_nil he2) he) (he := he) (hpl := hpl)) fun σ H Q ⟨env, S, μ, F, s, q⟩ => ⟨env, S, μ, F, s, (Post.bind q).mono fun w S1 H1 μ1 s1 x1 q1 v rv => by
    split at q1
    · cases rv with
      | d h => exact ⟨v, .ty T, _, _, _, rfl, .ty T, dn_ty h, kit_ty (kit_isTy hT _), post_here s1 (.d (.bl _)) q1⟩
    · exact q1.elim⟩
end
end Q

namespace Q
open PySem PySem.Spec PyProof.Rows L2

/-- from an expression's result to a statement's -/
def R.then {α : Type} (r : R α) (env : EnvQ) (f : α → Sto → RS) : RS := match r with
  | .ok a S => f a S
  | .exc c S => .exc c env S
  | .stuck => .stuck
@[simp] theorem R.then_ok {α : Type} (a : α) (S : Sto) (env : EnvQ) (f : α → Sto → RS) : (R.ok a S).then env f = f a S := rfl
@[simp] theorem R.then_exc {α : Type} (c : String) (S : Sto) (env : EnvQ) (f : α → Sto → RS) : (R.exc c S : R α).then env f = .exc c env S := rfl
@[simp] theorem R.then_stuck {α : Type} (env : EnvQ) (f : α → Sto → RS) : (R.stuck : R α).then env f = .stuck := rfl
@[simp] theorem RS.seq_next (env : EnvQ) (S : Sto) (f : EnvQ → Sto → RS) : (RS.next env S).seq f = f env S := rfl
@[simp] theorem RS.seq_ret (w : W) (S : Sto) (f : EnvQ → Sto → RS) : (RS.ret w S).seq f = .ret w S := rfl
@[simp] theorem RS.seq_brk (env : EnvQ) (S : Sto) (f : EnvQ → Sto → RS) : (RS.brk env S).seq f = .brk env S := rfl
@[simp] theorem RS.seq_cont (env : EnvQ) (S : Sto) (f : EnvQ → Sto → RS) : (RS.cont env S).seq f = .cont env S := rfl
@[simp] theorem RS.seq_exc (c : String) (env : EnvQ) (S : Sto) (f : EnvQ → Sto → RS) : (RS.exc c env S).seq f = .exc c env S := rfl
@[simp] theorem RS.seq_stuck (f : EnvQ → Sto → RS) : RS.stuck.seq f = .stuck := rfl

theorem ExS.refl (σ : L2.St) (env : EnvQ) (H : Hp) (μ : List Addr) : ExS σ env H μ σ env H μ := ⟨Keep.refl _ _, List.prefix_refl _⟩
theorem ExS.nn {σ σ1 : L2.St} {env env1 : EnvQ} {H H1 : Hp} {μ μ1 : List Addr} (x : ExS σ env H μ σ1 env1 H1 μ1) (F : Addr → Prop) : Keep (NN F μ σ env) H (NN F μ1 σ1 env1) H1 := fun a o n e =>
  let z := x.keep a o (fun q => n (.inl q)) e
  ⟨z.1, fun q => q.elim z.2 fun q => n (.inr q)⟩
section
variable (K : PySem.W.Frag) (mg : Str → Option Value) (EX : WX)
end
section
variable {K : PySem.W.Frag} {mg : Str → Option Value} {EX : WX} {F : Addr → Prop} {σ σ' : L2.St} {env env' : EnvQ} {H H' : Hp} {S : Sto} {μ μ' : List Addr} {D D' : Ends}
/-- an expression, then a statement's rest -/
theorem PostS.expr {α : Type} {r : R α} {f : α → Sto → RS} (h : PostS K mg EX F σ env H μ (r.then env f) D) : Post K mg EX F σ env H μ r fun a S' H' μ' => PostS K mg EX F σ env H' μ' (f a S') D := by
  cases r with
  | ok a S' => exact fun H2 μ2 s2 x2 => PostS.ext h x2.s
  | exc c S' => exact fun C H2 μ2 g s2 x2 => h C σ H2 μ2 g s2 x2.s
  | stuck => exact h
end
def tS (K : PySem.W.Frag) (mg : Str → Option Value) (cf : CF) (EX : WX) (f : SS) : TS := fun D σ H => ∃ env S μ F, Sim K mg F σ H env S μ ∧ PostS K mg EX F σ env H μ (f cf env S) D
def MS (X : Cx) (cf : CF) (EX : WX) (st : Stmt) (f : SS) : Prop := PS X st (tS X.K X.mg cf EX f)
def MSs (X : Cx) (cf : CF) (EX : WX) (sts : List Stmt) (f : SS) : Prop := PSs X sts (tS X.K X.mg cf EX f)

def sNext : SS := fun _ env S => .next env S
def sSeq (a b : SS) : SS := fun cf env S => (a cf env S).seq fun env' S' => b cf env' S'
def sSet (i : Nat) (f : SE) : SS := fun cf env S => (f cf env S).then env fun w S' => if w.plain then .next (env.set i (some w)) S' else .stuck
/-- a new list of one's own -/
def sNew (i : Nat) (a : SA) : SS := fun cf env S => (a cf env S).then env fun ws S' => if ws.length ≤ LIM then (match datas ws with
  | some ds => .next (env.set i (some (.own ds))) S'
  | none => .stuck) else .stuck
def sApp (i : Nat) (f : SE) : SS := fun cf env S => match env[i]? with
  | some (some (.own xs)) => (f cf env S).then env fun w S' => match w with
    | .d x => if xs.length < LIM then .next (env.set i (some (.own (xs ++ [x])))) S' else .stuck
    | _ => .stuck
  | _ => .stuck
/-- what is one's own stands from here on -/
def sFreeze (i : Nat) : SS := fun _ env S => match env[i]? with
  | some (some (.own xs)) => .next (env.set i (some (.d (.list xs)))) S
  | _ => .stuck
def W.told : W → W
  | .own xs => .d (.list xs)
  | w => w
def sRetN : SS := fun _ _ S => .ret (.d .none) S
def sExpr (f : SE) : SS := fun cf env S => (f cf env S).then env fun _ S' => .next env S'
def sIf (c : ST) (a b : SS) : SS := fun cf env S => (c cf env S).then env fun k S' => if k = true then a cf env S' else b cf env S'
def sBreak : SS := fun _ env S => .brk env S
def sCont : SS := fun _ env S => .cont env S
def sNever : SS := fun _ _ _ => .stuck
/-- a, b = e -/
def sUnp (is : List Nat) (f : SE) : SS := fun cf env S => (f cf env S).then env fun w S' => match w with
  | .d (.tuple ds) => (match setAll is ds env with | some env' => .next env' S' | none => .stuck)
  | _ => .stuck
abbrev SI := CF → EnvQ → Sto → R (List D)
def forL (t : Tg) (body : EnvQ → Sto → RS) : List D → EnvQ → Sto → RS
  | [], env, S => .next env S
  | d :: ds, env, S => match t.set d env with
    | none => .stuck
    | some env1 => match body env1 S with
      | .next env2 S2 => forL t body ds env2 S2
      | .cont env2 S2 => forL t body ds env2 S2
      | .brk env2 S2 => .next env2 S2
      | r => r
def sFor (t : Tg) (it : SI) (body : SS) : SS := fun cf env S => (it cf env S).then env fun ds S' => forL t (body cf) ds env S'
def whileL (c : EnvQ → Sto → R Bool) (body : EnvQ → Sto → RS) : Nat → EnvQ → Sto → RS
  | 0, _, _ => .stuck
  | n + 1, env, S => (c env S).then env fun k S1 => if k = true then (match body env S1 with
      | .next env2 S2 => whileL c body n env2 S2
      | .cont env2 S2 => whileL c body n env2 S2
      | .brk env2 S2 => .next env2 S2
      | r => r) else .next env S1
/-- n: more turns than there are -/
def sWhile (n : Nat) (c : ST) (body : SS) : SS := fun cf env S => whileL (c cf) (body cf) n env S

section
variable {X : Cx} {cf : CF} {EX : WX} {F : Addr → Prop} {σ : L2.St} {env : EnvQ} {S S' : Sto} {H H' : Hp} {μ μ' : List Addr} {K : PySem.W.Frag} {mg : Str → Option Value} {st : Stmt} {sts body : List Stmt} {e c : Expr} {fa fb : SE} {gc : ST} {ha : SA} {f g : SS} {pos p : Pos} {x : Str}
theorem mss_nil : MSs X cf EX [] sNext := PSs.weak pss_nil fun D σ H ⟨env, S, μ, F, s, q⟩ => q σ H μ s (ExS.refl _ _ _ _)
theorem mss_cons (h1 : MS X cf EX st f) (h2 : MSs X cf EX sts g) : MSs X cf EX (st :: sts) (sSeq f g) := PSs.weak (pss_cons h1 h2) fun D σ H ⟨env, S, μ, F, s, q⟩ => ⟨env, S, μ, F, s, by
  have z := PostS.seq q
  generalize hr : f cf env S = r at z
  cases r with
  | next e S' => exact fun σ2 H2 μ2 s2 x2 => let ⟨e2, S2, μ3, s3, q3⟩ := z σ2 H2 μ2 s2 x2; ⟨e2, S2, μ3, F, s3, q3⟩
  | brk e S' => exact z
  | cont e S' => exact z
  | ret w S' => exact z
  | exc c e S' => exact z
  | stuck => exact z⟩
theorem mss_one (h1 : MS X cf EX st f) : MSs X cf EX [st] f := pss_one h1
theorem ms_never : MS X cf EX st sNever := PS.weak ps_never fun D σ H ⟨env, S, μ, F, s, q⟩ => q.elim
theorem ms_if {a b : List Stmt} (hc : MT X cf EX c gc) (h1 : MSs X cf EX a f) (h2 : MSs X cf EX b g) : MS X cf EX (.If c a b pos) (sIf gc f g) :=
  PS.weak (ps_if hc h1 h2) fun D σ H ⟨env, S, μ, F, s, q⟩ => ⟨env, S, μ, F, s, (PostS.expr q).mono fun k S1 H1 μ1 s1 x1 q1 => by
    cases k with
    | true => rw [if_pos rfl] at q1 ⊢; exact ⟨env, S1, μ1, F, s1, q1⟩
    | false => rw [if_neg Bool.false_ne_true] at q1 ⊢; exact ⟨env, S1, μ1, F, s1, q1⟩⟩
theorem ms_expr (h : ME X cf EX e fa) (hs : swapsWith e none pos.line X.env = pure false := by rfl) : MS X cf EX (.Expr e pos) (sExpr fa) :=
  PS.weak (ps_expr h hs) fun D σ H ⟨env, S, μ, F, s, q⟩ => ⟨env, S, μ, F, s, (PostS.expr q).mono fun w S1 H1 μ1 s1 x1 q1 v rv => q1 σ H1 μ1 s1 (ExS.refl _ _ _ _)⟩
/-- the slots of one's own are no more -/
theorem Sim.leave (s : Sim K mg F σ H env S μ) : SimR K mg F H S μ ∧ Keep (MM μ σ env) H (· ∈ μ) H := ⟨⟨s.st.sub fun a h => h.elim (fun h => .inl (.inl h)) .inr, s.ftr, fun a f m => s.fdis a f (.inl m)⟩, Keep.sub fun a h => .inl h⟩
def sRetP (f : SE) : SS := fun cf env S => (f cf env S).then env fun w S' => if w.plain then .ret w S' else .stuck
theorem ms_ret (h : ME X cf EX e fa) : MS X cf EX (.Return (some e) pos) (sRetP fa) :=
  PS.weak (ps_ret h) fun D σ H ⟨env, S, μ, F, s, q⟩ => ⟨env, S, μ, F, s, (PostS.expr q).mono fun w S1 H1 μ1 s1 x1 q1 v rv => by
    split at q1
    · obtain ⟨r, k⟩ := s1.leave
      exact q1 v H1 μ1 r k (List.prefix_refl _) (RW.sub (fun a h => h.elim (fun h => .inl (.inl h)) .inr) rv)
    · exact q1.elim⟩
def sRetO (i : Nat) : SS := fun _ env S => match env[i]? with
  | some (some (.own xs)) => .ret (.d (.list xs)) S
  | _ => .stuck
theorem ms_set {i : Nat} {pp : Pos} (hN : X.N.Nodup) (hi : X.N[i]? = some x) (hx : Loc X.env.scope x) (h : ME X cf EX e fa) (hs : swapsWith e (some (.Name x pp)) pos.line X.env = pure false := by rfl) (hf : X.fn x = true ∨ X.env.scope.names.lookup x = some .local := by first | exact .inl rfl | exact .inr rfl | assumption) :
    MS X cf EX (.Assign [.Name x pp] e pos) (sSet i fa) :=
  PS.weak (ps_set hN hi hx h hs hf) fun D σ H ⟨env, S, μ, F, s, q⟩ => ⟨env, S, μ, F, s, (PostS.expr q).mono fun w S1 H1 μ1 s1 x1 q1 v rv => by
    split at q1
    · rename_i pw
      obtain ⟨s2, x2⟩ := s1.set pw rv
      exact q1 _ H1 μ1 s2 x2
    · exact q1.elim⟩
/-- a new list of one's own at p -/
theorem Sim.newOwnG (s : Sim K mg F σ H env S μ) {i : Nat} {p : Addr} {ob0 : HO} {w0 : W} (n : H p = none) (t : OwnR K H (NN F μ σ env) ob0 w0) (io : w0.isOwn = true) :
    Sim K mg F (σ.set i (some (.ref p))) (upd H p ob0) (env.set i (some w0)) S μ ∧ ExS σ env H μ (σ.set i (some (.ref p))) (env.set i (some w0)) (upd H p ob0) μ := by
  have ow : ∀ j a, OwnAt (σ.set i (some (.ref p))) (env.set i (some w0)) j a → (j = i ∧ a = p) ∨ (j ≠ i ∧ OwnAt σ env j a) := fun j a ⟨h1, u, h2, h3⟩ => by
    rcases set_get h2 with ⟨e, z⟩ | ⟨n, z⟩
    · rcases set_get h1 with ⟨_, y⟩ | ⟨ne, _⟩
      · cases y
        exact .inl ⟨e, rfl⟩
      · exact absurd e ne
    · rcases set_get h1 with ⟨e, _⟩ | ⟨_, y⟩
      · exact absurd e n
      · exact .inr ⟨n, y, u, z, h3⟩
  have sub : ∀ a, MM μ (σ.set i (some (.ref p))) (env.set i (some w0)) a → a = p ∨ MM μ σ env a := fun a h => h.elim (fun h => .inr (.inl h)) fun ⟨j, h⟩ => (ow j a h).elim (fun h => .inl h.2) fun h => .inr (.inr ⟨j, h.2⟩)
  have np : ∀ a, NN F μ σ env a → a ≠ p := fun a h e => by
    subst e
    exact s.fresh n h
  have kp : Keep (MM μ σ env) H (MM μ (σ.set i (some (.ref p))) (env.set i (some w0))) (upd H p ob0) := fun a o na e => by
    have ne : a ≠ p := ne_of_none e n
    exact ⟨by rw [upd_ne ne]; exact e, fun h => (sub a h).elim ne na⟩
  have ex : ExS σ env H μ (σ.set i (some (.ref p))) (env.set i (some w0)) (upd H p ob0) μ := ⟨kp, List.prefix_refl _⟩
  have kn := ex.nn F
  refine ⟨⟨by simpa using s.len, fun j u e => ?_, fun j u e => ?_, fun j k a h1 h2 => ?_, fun j a h m => ?_, ⟨s.st.len, s.st.nd, fun k o e => ?_⟩, fun a f => ?_, fun a f h => ?_⟩, ex⟩
  · rcases set_get e with ⟨z, y⟩ | ⟨nj, z⟩
    · subst z
      cases y
      have hl : j < σ.length := by
        rw [s.len]
        have q := (List.getElem?_eq_some_iff.mp e).1
        simpa using q
      exact ⟨_, List.getElem?_set_self hl, (t.keep kn).rw upd_same⟩
    · obtain ⟨v', h1, h2⟩ := s.slot j u z
      refine ⟨v', by rw [List.getElem?_set_ne (Ne.symm nj)]; exact h1, ?_⟩
      by_cases po : u.isOwn = true
      · obtain ⟨a, ob, rfl, ha, ta⟩ := own_or_plain h2 po
        exact (ta.keep kn).rw (by rw [upd_ne (ne_of_none ha n)]; exact ha)
      · have pl : u.plain = true := by
          have fi := s.fin j u z
          unfold W.fine at fi
          simpa [po] using fi
        exact RW.keep kn (List.prefix_refl _) h2 pl
  · rcases set_get e with ⟨z, y⟩ | ⟨n, z⟩
    · cases y
      unfold W.fine
      rw [io, Bool.or_true]
    · exact s.fin j u z
  · rcases ow j a h1 with ⟨e1, e2⟩ | ⟨e1, e2⟩
    · rcases ow k a h2 with ⟨e3, _⟩ | ⟨_, e4⟩
      · rw [e1, e3]
      · exact absurd e2 (np a (.inl (.inr ⟨k, e4⟩)))
    · rcases ow k a h2 with ⟨_, e4⟩ | ⟨_, e4⟩
      · exact absurd e4 (np a (.inl (.inr ⟨j, e2⟩)))
      · exact s.inj j k a e2 e4
  · rcases ow j a h with ⟨_, e2⟩ | ⟨_, e2⟩
    · subst e2
      obtain ⟨u, hu⟩ := s.st.tracked m
      rw [n] at hu
      cases hu
    · exact s.apart j a e2 m
  · obtain ⟨a, ha, r⟩ := s.st.obj k o e
    refine ⟨a, ha, ?_⟩
    cases r with
    | lst h t' => exact .lst (by rw [upd_ne (ne_of_none h n)]; exact h) (t'.keep kn)
    | ins g h m t' pl => exact .ins g (by rw [upd_ne (ne_of_none h n)]; exact h) m (RWs.keep kn (List.prefix_refl _) t' pl) pl
    | dct h t' => exact .dct (by rw [upd_ne (ne_of_none h n)]; exact h) fun e he => (t' e he).keep kn
  · obtain ⟨u, hu⟩ := s.ftr a f
    exact ⟨u, by rw [upd_ne (ne_of_none hu n)]; exact hu⟩
  · rcases sub a h with e | h
    · exact np a (.inr f) e
    · exact s.fdis a f h
theorem Sim.newOwn (s : Sim K mg F σ H env S μ) {i : Nat} {p : Addr} {vs : List V} {xs : List D} (n : H p = none) (t : DnAll K H (NN F μ σ env) vs xs) :
    Sim K mg F (σ.set i (some (.ref p))) (upd H p (.lst vs)) (env.set i (some (.own xs))) S μ ∧ ExS σ env H μ (σ.set i (some (.ref p))) (env.set i (some (.own xs))) (upd H p (.lst vs)) μ := s.newOwnG n (.lst t) rfl
theorem ms_new {i : Nat} {pp lp : Pos} {es : List Expr} (hN : X.N.Nodup) (hi : X.N[i]? = some x) (hx : Loc X.env.scope x) (h : MA X cf EX es ha) (hs : swapsWith (.List es lp) (some (.Name x pp)) pos.line X.env = pure false := by rfl) (hf : X.fn x = true ∨ X.env.scope.names.lookup x = some .local := by first | exact .inl rfl | exact .inr rfl | assumption) :
    MS X cf EX (.Assign [.Name x pp] (.List es lp) pos) (sNew i ha) :=
  PS.weak (ps_set hN hi hx (pe_lst h) hs hf) fun D σ H ⟨env, S, μ, F, s, q⟩ => ⟨env, S, μ, F, s, (PostS.expr q).mono fun ws S1 H1 μ1 s1 x1 q1 vs rvs => by
    split at q1
    · rename_i hl
      refine ⟨by rw [← lim_line, rvs.length]; exact hl, fun p n => ?_⟩
      split at q1
      · rename_i ds e
        obtain ⟨s2, x2⟩ := s1.newOwn (i := i) n (datas_dn rvs e)
        exact q1 _ _ μ1 s2 x2
      · exact q1.elim
    · exact q1.elim⟩
/-- one's own list at slot i becomes another -/
theorem Sim.chOwnG (s : Sim K mg F σ H env S μ) {i : Nat} {a : Addr} {ob0 : HO} {w0 w : W} (e : env[i]? = some (some w)) (ho : w.isOwn = true) (hv : σ[i]? = some (some (.ref a))) (t : OwnR K H (NN F μ σ env) ob0 w0) (io : w0.isOwn = true) :
    Sim K mg F σ (upd H a ob0) (env.set i (some w0)) S μ ∧ ExS σ env H μ σ (env.set i (some w0)) (upd H a ob0) μ := by
  have oa : OwnAt σ env i a := ⟨hv, w, e, ho⟩
  have hl : i < env.length := (List.getElem?_eq_some_iff.mp e).1
  have ow : ∀ j b, OwnAt σ (env.set i (some w0)) j b ↔ OwnAt σ env j b := fun j b => by
    refine ⟨fun ⟨h1, u, h2, h3⟩ => ?_, fun ⟨h1, u, h2, h3⟩ => ?_⟩
    · rcases set_get h2 with ⟨z, _⟩ | ⟨_, z⟩
      · subst z
        exact ⟨h1, w, e, ho⟩
      · exact ⟨h1, u, z, h3⟩
    · by_cases z : j = i
      · subst z
        exact ⟨h1, _, List.getElem?_set_self hl, io⟩
      · exact ⟨h1, u, by rw [List.getElem?_set_ne (Ne.symm z)]; exact h2, h3⟩
  have mm : ∀ b, MM μ σ (env.set i (some w0)) b ↔ MM μ σ env b := fun b => ⟨fun h => h.elim .inl fun ⟨j, h⟩ => .inr ⟨j, (ow j b).mp h⟩, fun h => h.elim .inl fun ⟨j, h⟩ => .inr ⟨j, (ow j b).mpr h⟩⟩
  have ma : MM μ σ env a := .inr ⟨i, oa⟩
  have kp : Keep (MM μ σ env) H (MM μ σ (env.set i (some w0))) (upd H a ob0) := fun b o nb q => by
    have ne : b ≠ a := fun z => nb (z ▸ ma)
    exact ⟨by rw [upd_ne ne]; exact q, fun h => nb ((mm b).mp h)⟩
  have ex : ExS σ env H μ σ (env.set i (some w0)) (upd H a ob0) μ := ⟨kp, List.prefix_refl _⟩
  have kn := ex.nn F
  refine ⟨⟨by simpa using s.len, fun j u q => ?_, fun j u q => ?_, fun j k b h1 h2 => s.inj j k b ((ow j b).mp h1) ((ow k b).mp h2), fun j b h => s.apart j b ((ow j b).mp h), ⟨s.st.len, s.st.nd, fun k o q => ?_⟩, fun b f => ?_, fun b f h => s.fdis b f ((mm b).mp h)⟩, ex⟩
  · rcases set_get q with ⟨z, y⟩ | ⟨nj, z⟩
    · subst z
      cases y
      exact ⟨_, hv, (t.keep kn).rw upd_same⟩
    · obtain ⟨v', h1, h2⟩ := s.slot j u z
      refine ⟨v', h1, ?_⟩
      by_cases po : u.isOwn = true
      · obtain ⟨b, ob, rfl, hb, tb⟩ := own_or_plain h2 po
        have ob' : OwnAt σ env j b := ⟨h1, _, z, po⟩
        have ne : b ≠ a := fun y => nj (s.inj j i a (y ▸ ob') oa)
        exact (tb.keep kn).rw (by rw [upd_ne ne]; exact hb)
      · have pl : u.plain = true := by
          have fi := s.fin j u z
          unfold W.fine at fi
          simpa [po] using fi
        exact RW.keep kn (List.prefix_refl _) h2 pl
  · rcases set_get q with ⟨z, y⟩ | ⟨n, z⟩
    · cases y
      unfold W.fine
      rw [io, Bool.or_true]
    · exact s.fin j u z
  · obtain ⟨b, hb, r⟩ := s.st.obj k o q
    refine ⟨b, hb, ?_⟩
    have ne : b ≠ a := fun z => s.apart i a oa (z ▸ List.mem_of_getElem? hb)
    cases r with
    | lst h t' => exact .lst (by rw [upd_ne ne]; exact h) (t'.keep kn)
    | ins g h m t' pl => exact .ins g (by rw [upd_ne ne]; exact h) m (RWs.keep kn (List.prefix_refl _) t' pl) pl
    | dct h t' => exact .dct (by rw [upd_ne ne]; exact h) fun e he => (t' e he).keep kn
  · obtain ⟨u, hu⟩ := s.ftr b f
    have ne : b ≠ a := fun z => s.fdis b f (z ▸ ma)
    exact ⟨u, by rw [upd_ne ne]; exact hu⟩
theorem Sim.chOwn (s : Sim K mg F σ H env S μ) {i : Nat} {a : Addr} {vs : List V} {xs : List D} {w : W} (e : env[i]? = some (some w)) (ho : w.isOwn = true) (hv : σ[i]? = some (some (.ref a))) (t : DnAll K H (NN F μ σ env) vs xs) :
    Sim K mg F σ (upd H a (.lst vs)) (env.set i (some (.own xs))) S μ ∧ ExS σ env H μ σ (env.set i (some (.own xs))) (upd H a (.lst vs)) μ := s.chOwnG e ho hv (.lst t) rfl
theorem ms_app {i : Nat} {p1 p2 : Pos} (hv : PE X (.Name x p1) (tVar i)) (h : ME X cf EX e fa)
    (hbase : attributeBase (.Name x p1) "append" X.env (eval (.Name x p1) X.env) = eval (.Name x p1) X.env := by rfl)
    (hfew : ((backTo p (starEach (e :: []) X.env)).all (fun x => !x.1) && (backToKw p (keywordEach [] X.env)).all (fun x => x.1.isSome) && decide ((e :: []).length + ([] : List Keyword).length + (if ([] : List Keyword).isEmpty then 0 else 1) < 30)) = true := by rfl)
    (hline : (p2.endLine == p.line) = true := by rfl) (hst : starEach (e :: []) X.env = (false, eval e X.env) :: starEach [] X.env := by rfl) (hplain : (backTo p (starEach [] X.env)).any (·.1) = false := by rfl)
    (hs : swapsWith (.Call (.Attribute (.Name x p1) "append" p2) [e] [] p) none pos.line X.env = pure false := by rfl) :
    MS X cf EX (.Expr (.Call (.Attribute (.Name x p1) "append" p2) [e] [] p) pos) (sApp i fa) := by
  refine PS.weak (ps_expr (pe_bm PySem.F.plainAttrs_list PySem.F.slot_list_append PySem.F.type_list_append mt_append hv (pa_cons h pa_nil hst) hbase hfew hline hst hplain) hs) fun D σ H ⟨env, S, μ, F, s, q⟩ => ?_
  unfold sApp at q
  split at q
  · rename_i xs e0
    obtain ⟨v, hv0, r⟩ := s.slot i _ e0
    cases r with
    | own ha ta =>
      refine ⟨_, hv0, .inl ⟨rfl, _, SqL.of ha⟩, env, S, μ, F, s, (PostS.expr q).mono fun w S1 H1 μ1 s1 x1 q1 v rv => ?_⟩
      split at q1
      · split at q1
        · rename_i hz
          obtain ⟨v', hv1, r1⟩ := s1.slot i _ e0
          rw [hv0] at hv1
          cases hv1
          cases r1 with
          | own ha1 ta1 =>
            cases rv with
            | d rd =>
              refine ⟨_, _, v, rfl, rfl, ha1, by rw [← lim_line, ta1.length]; exact hz, ?_⟩
              obtain ⟨s2, x2⟩ := s1.chOwn (i := i) e0 rfl hv0 (ta1.append (.cons rd .nil))
              exact q1 _ _ μ1 s2 x2
        · exact q1.elim
      · exact q1.elim
  · exact q.elim
end
end Q

namespace Q
open PySem PySem.Spec PyProof.Rows L2
section
variable {X : Cx} {cf : CF} {EX : WX} {F : Addr → Prop} {σ : L2.St} {env : EnvQ} {S S' : Sto} {H H' : Hp} {μ μ' : List Addr} {K : PySem.W.Frag} {mg : Str → Option Value} {st : Stmt} {sts body : List Stmt} {e c tg : Expr} {es : List Expr} {fa fb : SE} {gc : ST} {ha : SA} {f g : SS} {pos p : Pos} {x : Str}

/-- which slots an assignment touches -/
def Tg.slots : Tg → List Nat
  | .name i => [i]
  | .names is => is
/-- the slots but these are as they were -/
def Only1 (is : List Nat) (σ σ' : L2.St) : Prop := σ'.length = σ.length ∧ ∀ j, j ∉ is → σ'[j]? = σ[j]?
/-- a target: where a datum goes -/
def tG (K : PySem.W.Frag) (mg : Str → Option Value) (t : Tg) : TG := fun v σ H Q => ∃ F env S μ d env', Sim K mg F σ H env S μ ∧ Dn K H (NN F μ σ env) v d ∧ t.set d env = some env' ∧ ∀ σ', Sim K mg F σ' H env' S μ → ExS σ env H μ σ' env' H μ → Only1 t.slots σ σ' → Q σ' H
def tGs (K : PySem.W.Frag) (mg : Str → Option Value) (is : List Nat) : TGs := fun vs σ H Q => ∃ F env S μ ds env', Sim K mg F σ H env S μ ∧ DnAll K H (NN F μ σ env) vs ds ∧ setAll is ds env = some env' ∧ ∀ σ', Sim K mg F σ' H env' S μ → ExS σ env H μ σ' env' H μ → Only1 is σ σ' → Q σ' H
def MG (X : Cx) (tg : Expr) (t : Tg) : Prop := PG X tg (tG X.K X.mg t)
def MGs (X : Cx) (tgs : List Expr) (is : List Nat) : Prop := PGs X tgs (tGs X.K X.mg is)
theorem PG.weak {X : Cx} {tg : Expr} {t t' : TG} (h : PG X tg t) (w : ∀ v σ H Q, t' v σ H Q → t v σ H Q) : PG X tg t' := ⟨fun pins s σ H v u Q I r q => h.run pins s σ H v u Q I r (w v σ H Q q)⟩
theorem PGs.weak {X : Cx} {tgs : List Expr} {t t' : TGs} (h : PGs X tgs t) (w : ∀ vs σ H Q, t' vs σ H Q → t vs σ H Q) : PGs X tgs t' := ⟨fun pins s σ H vs us Q I r q => h.run pins s σ H vs us Q I r (w vs σ H Q q)⟩
theorem mg_name {i : Nat} (hN : X.N.Nodup) (hi : X.N[i]? = some x) (hx : Loc X.env.scope x) (hf : X.fn x = true ∨ X.env.scope.names.lookup x = some .local := by first | exact .inl rfl | exact .inr rfl | assumption) : MG X (.Name x pos) (.name i) :=
  PG.weak (pg_name hN hi hx hf) fun v σ H Q ⟨F, env, S, μ, d, env', s, r, e, q⟩ => by
    simp only [Tg.set, Option.some.injEq] at e
    subst e
    obtain ⟨s2, x2⟩ := s.set (i := i) (w := .d d) rfl (.d r)
    exact q _ s2 x2 ⟨by simp, fun j hj => by rw [List.getElem?_set_ne (fun z => hj (by simp [Tg.slots, z]))]⟩
theorem mgs_nil : MGs X [] [] := PGs.weak pgs_nil fun vs σ H Q ⟨F, env, S, μ, ds, env', s, r, e, q⟩ => by
  cases r with
  | nil =>
    simp only [setAll, Option.some.injEq] at e
    subst e
    exact ⟨rfl, q σ s (ExS.refl _ _ _ _) ⟨rfl, fun _ _ => rfl⟩⟩
  | cons _ _ => simp [setAll] at e
theorem mgs_cons {i : Nat} {is : List Nat} (h1 : MG X e (.name i)) (h2 : MGs X es is) (hs : (assignEach (e :: es) X.env).map (·.2) = assign e X.env :: (assignEach es X.env).map (·.2) := by rfl) : MGs X (e :: es) (i :: is) :=
  PGs.weak (pgs_cons h1 h2 hs) fun vs σ H Q ⟨F, env, S, μ, ds, env', s, r, e, q⟩ => by
    cases r with
    | nil => simp [setAll] at e
    | cons rv rr =>
      simp only [setAll] at e
      refine ⟨_, _, rfl, F, env, S, μ, _, _, s, rv, rfl, fun σ' s' x' o' => ?_⟩
      exact ⟨F, _, S, μ, _, env', s', rr.keep (x'.nn F), e, fun σ2 s2 x2 o2 => q σ2 s2 (x'.trans x2) ⟨o2.1.trans o'.1, fun j hj => by
        simp only [List.mem_cons, not_or] at hj
        rw [o2.2 j hj.2, o'.2 j (by simpa [Tg.slots] using hj.1)]⟩⟩
theorem setAll_len : ∀ {is : List Nat} {ds : List D} {env env' : EnvQ}, setAll is ds env = some env' → ds.length = is.length
  | [], [], _, _, _ => rfl
  | [], _ :: _, _, _, e => by simp [setAll] at e
  | _ :: _, [], _, _, e => by simp [setAll] at e
  | _ :: _, _ :: _, _, _, e => congrArg (· + 1) (setAll_len (by simpa [setAll] using e))
theorem mg_names {is : List Nat} {k : Nat} (hc : X.calm = true) (h : MGs X es is) (hn : (assignEach es X.env).length = is.length := by rfl) (hst : (assignEach es X.env).findIdx? (·.1) = none := by rfl) : MG X (.Tuple es k pos) (.names is) :=
  PG.weak (pg_tup hc h hn hst) fun v σ H Q ⟨F, env, S, μ, d, env', s, rv, e, q⟩ => by
    cases rv with
    | tup ht tt => exact ⟨_, _, rfl, ht.sq, by rw [tt.length]; exact setAll_len e, F, env, S, μ, _, env', s, tt, e, q⟩
    | _ => simp [Tg.set] at e
theorem ms_unp {is : List Nat} {k : Nat} (h1 : ME X cf EX e fa) (h2 : MG X (.Tuple es k p) (.names is)) (hs : swapsWithSole [.Tuple es k p] e pos.line X.env = pure false := by rfl) (hw : swappedStores [.Tuple es k p] e X.env = pure none := by rfl)
    (h3 : (assignEach [.Tuple es k p] X.env).map (·.2) = [assign (.Tuple es k p) X.env] := by rfl) : MS X cf EX (.Assign [.Tuple es k p] e pos) (sUnp is fa) := by
  refine PS.weak (ps_asg h1 h2 hs hw h3) fun D σ H ⟨env, S, μ, F, s, q⟩ => ⟨env, S, μ, F, s, (PostS.expr q).mono fun w S1 H1 μ1 s1 x1 q1 v rv => ?_⟩
  split at q1
  · cases rv with
    | d rd =>
      split at q1
      · rename_i env' e
        exact ⟨F, env, S1, μ1, _, env', s1, rd, by simpa [Tg.set] using e, fun σ' s' x' _ => q1 σ' H1 μ1 s' x'⟩
      · exact q1.elim
  · exact q1.elim

/-- J yields the items ds, as long as what stood stands -/
def IterOf (K : PySem.W.Frag) (J : It) (ds : List D) (N : Addr → Prop) (H : Hp) : Prop := ∀ N2 H2, Keep N H N2 H2 → (∀ a, N2 a → ∃ u, H2 a = some u) → ∀ i : Nat,
  (i = ds.length → J.stop i H2) ∧ ∀ d, ds[i]? = some d → J.go i H2 ∧ ∀ v H3, J.yld i H2 v H3 → Same H2 H3 ∧ Dn K H3 N2 v d
def tI (K : PySem.W.Frag) (mg : Str → Option Value) (cf : CF) (EX : WX) (f : SI) : TI := fun σ H R => ∃ env S μ F, Sim K mg F σ H env S μ ∧ Post K mg EX F σ env H μ (f cf env S) fun ds _ H' μ' => ∀ J, IterOf K J ds (NN F μ' σ env) H' → R J H'
def MI (X : Cx) (cf : CF) (EX : WX) (tg e : Expr) (f : SI) : Prop := PI X tg e (tI X.K X.mg cf EX f)
theorem PI.weak {X : Cx} {tg e : Expr} {t t' : TI} (h : PI X tg e t) (w : ∀ σ H R, t' σ H R → t σ H R) : PI X tg e t' := ⟨fun pins s σ H R I q => h.run pins s σ H R I (w σ H R q)⟩
/-- a list or a tuple -/
def iSeq (f : SE) : SI := fun cf env S => (f cf env S).bind fun w S1 => match w with
  | .d (.list xs) => .ok xs S1
  | .d (.tuple xs) => .ok xs S1
  | .scr xs => .ok (xs.map PyData.int) S1
  | _ => .stuck
theorem iter_list {a : Addr} {vs : List V} {ds : List D} {N : Addr → Prop} (hq : ∀ N2 H2, Keep N H N2 H2 → SqL K H2 a vs) (t : DnAll K H N vs ds) (inj : ∀ H2 xs, SqL K H2 a xs → SqL K H2 a vs → True) : IterOf K (Itl K a) ds N H := fun N2 H2 k tr i => by
  have t2 := t.keep k
  have q2 := hq N2 H2 k
  refine ⟨fun e => ⟨vs, q2, by rw [t.length]; exact Nat.le_of_eq e.symm⟩, fun d hd => ?_⟩
  obtain ⟨v, hv, r⟩ := t2.get hd
  refine ⟨⟨vs, v, q2, hv⟩, fun w H3 y => ?_⟩
  obtain ⟨e3, y⟩ := y
  subst e3
  have := y vs q2
  rw [hv] at this
  cases this
  exact ⟨Same.refl _, r⟩
theorem iter_tup {a : Addr} {vs : List V} {ds : List D} {N : Addr → Prop} (ht : RdT K H N a vs) (t : DnAll K H N vs ds) : IterOf K (Itt K a) ds N H := fun N2 H2 k tr i => by
  have t2 := t.keep k
  have q2 := (ht.keep k).sq
  refine ⟨fun e => ⟨vs, q2, by rw [t.length]; exact Nat.le_of_eq e.symm⟩, fun d hd => ?_⟩
  obtain ⟨v, hv, r⟩ := t2.get hd
  refine ⟨⟨vs, v, q2, hv⟩, fun w H3 y => ?_⟩
  obtain ⟨e3, y⟩ := y
  subst e3
  have := y vs q2
  rw [hv] at this
  cases this
  exact ⟨Same.refl _, r⟩
/-- either kind, told only when the value is there -/
theorem pi_seq {l : Expr} {tl : TE} (hl : PE X l tl) : PI X tg l (fun σ H R => tl σ H fun x H1 => ∃ a, x = .ref a ∧ (((∃ xs, SqL X.K H1 a xs) ∧ R (Itl X.K a) H1) ∨ ((∃ xs, SqT X.K H1 a xs) ∧ R (Itt X.K a) H1))) := by
  constructor
  intro pins s σ H R I h
  apply thn (hl.run pins s σ H _ I h)
  rintro v s1 ⟨x, H1, I1, r1, a, rfl, q⟩
  cases r1
  have fr : ∀ b, b ∈ [s1.heap.objs.size] → FpOk X pins H1 b := fun b hb => by
    rw [List.mem_singleton] at hb
    rw [hb]
    exact I1.fpOk (Nat.le_refl _) (I1.hok.fresh (Nat.le_refl _))
  rcases q with ⟨⟨xs, hq⟩, q⟩ | ⟨⟨xs, hq⟩, q⟩
  · obtain ⟨its, rv, p, hz⟩ := I1.list hq
    apply wpAny_pyIter_list p.isList
    exact ⟨_, _, _, _, H1, rfl, I1.kept (t' := s1.toks) fun b o e => Heap.get?_push_of_some _ e, turn_list a _, ⟨_, Heap.get?_push_size _ rfl, rfl, rfl⟩, fr, q⟩
  · obtain ⟨its, rv, p, hz⟩ := I1.tuple hq
    apply wpAny_pyIter_tuple (show s1.heap.IsTuple a its.toArray from p)
    exact ⟨_, _, _, _, H1, rfl, I1.kept (t' := s1.toks) fun b o e => Heap.get?_push_of_some _ e, turn_tuple a _, ⟨_, Heap.get?_push_size _ rfl, rfl, rfl⟩, fr, q⟩
theorem mi_seq (h : ME X cf EX e fa) : MI X cf EX tg e (iSeq fa) :=
  PI.weak (pi_seq h) fun σ H R ⟨env, S, μ, F, s, q⟩ => ⟨env, S, μ, F, s, (Post.bind q).mono fun w S1 H1 μ1 s1 x1 q1 v rv => by
    split at q1
    · obtain ⟨a, vs, rfl, na, h1, t1⟩ := rw_lst rv
      exact ⟨a, rfl, .inl ⟨⟨vs, SqL.of h1⟩, q1 H1 μ1 s1 (Ext.refl _ _ _ _) _ (iter_list (fun N2 H2 k => SqL.of (k a _ na h1).1) t1 fun _ _ _ _ => True.intro)⟩⟩
    · obtain ⟨a, vs, rfl, h1, t1⟩ := rw_tup rv
      exact ⟨a, rfl, .inr ⟨⟨vs, h1.sq⟩, q1 H1 μ1 s1 (Ext.refl _ _ _ _) _ (iter_tup h1 t1)⟩⟩
    · cases rv with
      | scr h1 => exact ⟨_, rfl, .inl ⟨⟨_, h1.sq⟩, q1 H1 μ1 s1 (Ext.refl _ _ _ _) _ (iter_list (fun N2 H2 k => (h1.keep k).sq) (ints_all _) fun _ _ _ _ => True.intro)⟩⟩
    · exact q1.elim⟩
/-- ranges -/
def rangeD (lo : Int) (n : Nat) : List D := (List.range n).map fun k : Nat => PyData.int (lo + k)
def inR (i : Int) : Bool := Nat.ble i.natAbs 4611686018427387903
theorem inR_iff {i : Int} (h : inR i = true) : -(2 ^ 62) ≤ i ∧ i < 2 ^ 62 := by
  have := Nat.le_of_ble_eq_true h
  omega
def iRange1 (a : SA) : SI := fun cf env S => (a cf env S).bind fun ws S1 => match ws with
  | [.d (.int j)] => if inR j then .ok (rangeD 0 j.toNat) S1 else .stuck
  | _ => .stuck
def iRange2 (a : SA) : SI := fun cf env S => (a cf env S).bind fun ws S1 => match ws with
  | [.d (.int i), .d (.int j)] => if inR i && inR j then .ok (rangeD i (j - i).toNat) S1 else .stuck
  | _ => .stuck
theorem rangeD_len (lo : Int) (n : Nat) : (rangeD lo n).length = n := by simp [rangeD]
theorem rangeD_get {lo : Int} {n i : Nat} {d : D} (h : (rangeD lo n)[i]? = some d) : i < n ∧ d = .int (lo + i) := by
  unfold rangeD at h
  rw [List.getElem?_map] at h
  cases e : (List.range n)[i]? with
  | none => rw [e] at h; cases h
  | some k =>
    rw [e] at h
    obtain ⟨h1, h2⟩ := List.getElem?_eq_some_iff.mp e
    rw [List.length_range] at h1
    rw [List.getElem_range] at h2
    subst h2
    exact ⟨h1, (Option.some.inj h).symm⟩
theorem iter_range {lo : Int} {n : Nat} {N : Addr → Prop} : IterOf K (Itr lo n) (rangeD lo n) N H := fun N2 H2 k tr i => by
  refine ⟨fun e => by rw [rangeD_len] at e; exact Nat.le_of_eq e.symm, fun d hd => ?_⟩
  obtain ⟨h1, rfl⟩ := rangeD_get hd
  refine ⟨h1, fun v H3 y => ?_⟩
  obtain ⟨e3, rfl⟩ := y
  subst e3
  exact ⟨Same.refl _, .int _⟩
theorem mi_range1 {a : Expr} {q : Pos} (hg : Gl X "range") (hm : X.mg "range" = none) (h : MA X cf EX [a] ha) (hs : starEach [a] X.env = [(false, eval a X.env)] := by rfl) : MI X cf EX tg (.Call (.Name "range" q) [a] [] pos) (iRange1 ha) :=
  PI.weak (pi_range1 hg hm h hs) fun σ H R ⟨env, S, μ, F, s, q⟩ => ⟨env, S, μ, F, s, (Post.bind q).mono fun w S1 H1 μ1 s1 x1 q1 v rv => by
    split at q1
    · obtain ⟨v1, rfl, r1⟩ := rws1 rv
      rw [rw_int r1]
      split at q1
      · rename_i hr
        have hr := inR_iff hr
        exact ⟨_, rfl, hr.1, hr.2, q1 H1 μ1 s1 (Ext.refl _ _ _ _) _ iter_range⟩
      · exact q1.elim
    · exact q1.elim⟩
theorem Sim.trk (s : Sim K mg F σ H env S μ) : ∀ a, NN F μ σ env a → ∃ u, H a = some u := fun _ n => s.tracked n
theorem ms_for {t : Tg} {it : SI} (hp : PassesOwn (model X.prog X.w) X.A X.env X.xe) (hc : X.calm = true) (hi : MI X cf EX tg e it) (hg : MG X tg t) (hb : MSs X cf EX body f) (hs : ∀ x, foldedSetIterable e X.env x = pure x := by intro _; rfl) :
    MS X cf EX (.For tg e body [] pos) (sFor t it f) := by
  refine PS.weak (ps_for hp hc hi hg hb hs) fun D σ H ⟨env, S, μ, F, s, q⟩ => ⟨env, S, μ, F, s, (PostS.expr q).mono fun ds S1 H1 μ1 s1 x1 q1 J hJ => ?_⟩
  refine ⟨fun i m σ' H' => i + m = ds.length ∧ ∃ env' S' μ', Sim X.K X.mg F σ' H' env' S' μ' ∧ ExS σ env H1 μ1 σ' env' H' μ' ∧ PostS X.K X.mg EX F σ' env' H' μ' (forL t (f cf) (ds.drop i) env' S') D, ⟨ds.length, by omega, env, S1, μ1, s1, ExS.refl _ _ _ _, by simpa using q1⟩, ?_⟩
  rintro i m σ' H' ⟨hm, env', S', μ', s', x', q'⟩
  obtain ⟨hstop, hgo⟩ := hJ _ H' (x'.nn F) s'.trk i
  by_cases hi : i = ds.length
  · refine .inl ⟨hstop hi, ?_⟩
    rw [hi, List.drop_length] at q'
    exact q' σ' H' μ' s' (ExS.refl _ _ _ _)
  · have hlt : i < ds.length := by omega
    have e : ds[i]? = some ds[i] := by simp [hlt]
    obtain ⟨go, y⟩ := hgo _ e
    refine .inr ⟨go, fun σ2 H2 => (i + 1) + (m - 1) = ds.length ∧ ∃ env' S' μ', Sim X.K X.mg F σ2 H2 env' S' μ' ∧ ExS σ env H1 μ1 σ2 env' H2 μ' ∧ PostS X.K X.mg EX F σ2 env' H2 μ' (forL t (f cf) (ds.drop (i + 1)) env' S') D, fun σ2 H2 h => ⟨m - 1, by omega, h⟩, fun v H3 yv => ?_⟩
    obtain ⟨sm, rv⟩ := y v H3 yv
    have s3 := s'.same sm
    have x3 : ExS σ' env' H' μ' σ' env' H3 μ' := (Ext.same sm).s
    rw [List.drop_eq_getElem_cons hlt] at q'
    unfold forL at q'
    split at q'
    · exact q'.elim
    · rename_i env1 e1
      refine ⟨F, env', S', μ', _, env1, s3, rv, e1, fun σ4 s4 x4 _ => ⟨env1, S', μ', F, s4, ?_⟩⟩
      have xx := x3.trans x4
      have q2 := PostS.ext q' xx
      cases r : f cf env1 S' with
      | next e2 S2 =>
        simp only [r] at q2
        exact fun σ5 H5 μ5 s5 x5 => ⟨by omega, e2, S2, μ5, s5, x'.trans (xx.trans x5), PostS.ext q2 x5⟩
      | cont e2 S2 =>
        simp only [r] at q2
        exact fun σ5 H5 μ5 s5 x5 => ⟨by omega, e2, S2, μ5, s5, x'.trans (xx.trans x5), PostS.ext q2 x5⟩
      | brk e2 S2 =>
        simp only [r] at q2
        exact fun σ5 H5 μ5 s5 x5 => q2 σ5 H5 μ5 s5 x5
      | ret w S2 =>
        simp only [r] at q2
        exact q2
      | exc cc e2 S2 =>
        simp only [r] at q2
        exact q2
      | stuck =>
        simp only [r] at q2
        exact q2
def wipeE (env : EnvQ) : List Nat → EnvQ
  | [] => env
  | v :: vs => (wipeE env vs).set v none
def notOwn (env : EnvQ) (i : Nat) : Bool := match env[i]? with
  | some (some w) => w.plain
  | _ => true
def R.calm {α : Type} : R α → R α
  | .exc _ _ => .stuck
  | r => r
def compL (t : Tg) (c : EnvQ → Sto → R Bool) (f : EnvQ → Sto → R W) (env : EnvQ) : List D → Sto → R (List D)
  | [], S => .ok [] S
  | d :: ds, S => match t.set d env with
    | none => .stuck
    | some env1 => (c env1 S).calm.bind fun b S1 => if b = true then (f env1 S1).calm.bind fun w S2 => (match w with
        | .d x => (compL t c f env ds S2).bind fun xs S3 => .ok (x :: xs) S3
        | _ => .stuck) else compL t c f env ds S1
def fComp (vs : List Nat) (t : Tg) (it : SI) (c : ST) (f : SE) : SE := fun cf env S => if vs.all (notOwn env) then (it cf env S).bind fun ds S1 => (compL t (c cf) (f cf) (wipeE env vs) ds S1).bind fun xs S2 => if xs.length ≤ LIM then .ok (.d (.list xs)) S2 else .stuck else .stuck
theorem wipeE_get {env : EnvQ} {i : Nat} {w : W} : ∀ {vs : List Nat}, (wipeE env vs)[i]? = some (some w) → i ∉ vs ∧ env[i]? = some (some w)
  | [], h => ⟨by simp, h⟩
  | v :: vs, h => by
    rcases set_get (show ((wipeE env vs).set v none)[i]? = some (some w) from h) with ⟨_, e⟩ | ⟨n, e⟩
    · cases e
    · obtain ⟨h1, h2⟩ := wipeE_get e
      exact ⟨by simp only [List.mem_cons, not_or]; exact ⟨n, h1⟩, h2⟩
theorem wipeE_out {env : EnvQ} {i : Nat} : ∀ {vs : List Nat}, i ∉ vs → (wipeE env vs)[i]? = env[i]?
  | [], _ => rfl
  | v :: vs, h => by
    simp only [List.mem_cons, not_or] at h
    show ((wipeE env vs).set v none)[i]? = _
    rw [List.getElem?_set_ne (Ne.symm h.1)]
    exact wipeE_out h.2
theorem wipeE_len (env : EnvQ) : ∀ vs : List Nat, (wipeE env vs).length = env.length
  | [] => rfl
  | v :: vs => by
    show ((wipeE env vs).set v none).length = _
    rw [List.length_set]
    exact wipeE_len env vs
theorem wipe_out' {σ : L2.St} {i : Nat} {vs : List Nat} (h : i ∉ vs) : (wipe σ vs)[i]? = σ[i]? := wipe_out h
theorem wipe_own {vs : List Nat} (no : ∀ i ∈ vs, notOwn env i = true) (i : Nat) (a : Addr) : OwnAt (wipe σ vs) (wipeE env vs) i a ↔ OwnAt σ env i a := by
  constructor
  · rintro ⟨h1, w, h2, h3⟩
    obtain ⟨n, e⟩ := wipeE_get h2
    rw [wipe_out' n] at h1
    exact ⟨h1, w, e, h3⟩
  · rintro ⟨h1, w, h2, h3⟩
    have n : i ∉ vs := fun m => by
      have z := no i m
      unfold notOwn at z
      rw [h2] at z
      simp only at z
      rw [fine_own h3] at z
      cases z
    exact ⟨by rw [wipe_out' n]; exact h1, w, by rw [wipeE_out n]; exact h2, h3⟩
theorem wipe_mm {vs : List Nat} (no : ∀ i ∈ vs, notOwn env i = true) (μ : List Addr) : MM μ (wipe σ vs) (wipeE env vs) = MM μ σ env := by
  funext a
  apply propext
  exact ⟨fun h => h.elim .inl fun ⟨i, h⟩ => .inr ⟨i, (wipe_own no i a).mp h⟩, fun h => h.elim .inl fun ⟨i, h⟩ => .inr ⟨i, (wipe_own no i a).mpr h⟩⟩
theorem wipe_nn {vs : List Nat} (no : ∀ i ∈ vs, notOwn env i = true) (F : Addr → Prop) (μ : List Addr) : NN F μ (wipe σ vs) (wipeE env vs) = NN F μ σ env := by
  unfold NN
  rw [wipe_mm no]
/-- into the block: the new list at p is nobody's -/
theorem Sim.block (s : Sim K mg F σ H env S μ) {vs : List Nat} (no : ∀ i ∈ vs, notOwn env i = true) {p : Addr} {o : HO} (n : H p = none) : Sim K mg (fun a => a = p ∨ F a) (wipe σ vs) (upd H p o) (wipeE env vs) S μ := by
  have kp : Keep (NN F μ σ env) H (NN (fun a => a = p ∨ F a) μ σ env) (upd H p o) := fun a u na e => by
    have ne : a ≠ p := ne_of_none e n
    exact ⟨by rw [upd_ne ne]; exact e, fun h => h.elim (fun h => na (.inl h)) fun h => h.elim ne fun h => na (.inr h)⟩
  have nn : NN (fun a => a = p ∨ F a) μ (wipe σ vs) (wipeE env vs) = NN (fun a => a = p ∨ F a) μ σ env := wipe_nn no _ _
  refine ⟨by rw [wipe_length, wipeE_len]; exact s.len, fun i w e => ?_, fun i w e => ?_, fun i j a h1 h2 => s.inj i j a ((wipe_own no i a).mp h1) ((wipe_own no j a).mp h2), fun i a h => s.apart i a ((wipe_own no i a).mp h), ⟨s.st.len, s.st.nd, fun k ob e => ?_⟩, fun a f => ?_, fun a f h => ?_⟩
  · obtain ⟨ni, e⟩ := wipeE_get e
    obtain ⟨v, hv, r⟩ := s.slot i w e
    refine ⟨v, by rw [wipe_out' ni]; exact hv, ?_⟩
    rw [nn]
    by_cases po : w.isOwn = true
    · obtain ⟨a, ob, rfl, hb, tb⟩ := own_or_plain r po
      exact (tb.keep kp).rw (by rw [upd_ne (ne_of_none hb n)]; exact hb)
    · have pl : w.plain = true := by
        have fi := s.fin i w e
        unfold W.fine at fi
        simpa [po] using fi
      exact RW.keep kp (List.prefix_refl _) r pl
  · exact s.fin i w (wipeE_get e).2
  · obtain ⟨b, hb, r⟩ := s.st.obj k ob e
    refine ⟨b, hb, ?_⟩
    rw [nn]
    cases r with
    | lst h t' => exact .lst (by rw [upd_ne (ne_of_none h n)]; exact h) (t'.keep kp)
    | ins g h m t' pl => exact .ins g (by rw [upd_ne (ne_of_none h n)]; exact h) m (RWs.keep kp (List.prefix_refl _) t' pl) pl
    | dct h t' => exact .dct (by rw [upd_ne (ne_of_none h n)]; exact h) fun e he => (t' e he).keep kp
  · rcases f with rfl | f
    · exact ⟨_, upd_same⟩
    · obtain ⟨u, hu⟩ := s.ftr a f
      exact ⟨u, by rw [upd_ne (ne_of_none hu n)]; exact hu⟩
  · rw [wipe_mm no] at h
    rcases f with rfl | f
    · exact s.fresh n (.inl h)
    · exact s.fdis a f h
/-- out of the block -/
theorem Sim.unblock (s : Sim K mg F σ H env S μ) {vs : List Nat} (no : ∀ i ∈ vs, notOwn env i = true) {p : Addr} (s' : Sim K mg (fun a => a = p ∨ F a) (wipe σ vs) H' (wipeE env vs) S' μ') (ex : Ext σ env H μ H' μ') : Sim K mg F σ H' env S' μ' := by
  have nn : NN (fun a => a = p ∨ F a) μ' (wipe σ vs) (wipeE env vs) = NN (fun a => a = p ∨ F a) μ' σ env := wipe_nn no _ _
  have sub : ∀ a, NN F μ' σ env a → NN (fun a => a = p ∨ F a) μ' (wipe σ vs) (wipeE env vs) a := fun a h => by
    rw [nn]
    exact h.elim .inl fun h => .inr (.inr h)
  refine ⟨s.len, fun i w e => ?_, s.fin, s.inj, fun i a h => s'.apart i a ((wipe_own no i a).mpr h), s'.st.sub sub, fun a f => s'.ftr a (.inr f), fun a f h => s'.fdis a (.inr f) (by rw [wipe_mm no]; exact h)⟩
  by_cases m : i ∈ vs
  · obtain ⟨v, hv, r⟩ := s.slot i w e
    have z := no i m
    unfold notOwn at z
    rw [e] at z
    exact ⟨v, hv, RW.keep (ex.nn F) ex.pre r z⟩
  · obtain ⟨v, hv, r⟩ := s'.slot i w (by rw [wipeE_out m]; exact e)
    rw [wipe_out' m] at hv
    exact ⟨v, hv, RW.sub sub r⟩
/-- what is the callers' may turn -/
theorem Sim.updF (s : Sim K mg F σ H env S μ) {p : Addr} {o : HO} (f : F p) : Sim K mg F σ (upd H p o) env S μ ∧ Keep (NN F μ σ env) H (NN F μ σ env) (upd H p o) := by
  have np : ¬ MM μ σ env p := s.fdis p f
  have kp : Keep (NN F μ σ env) H (NN F μ σ env) (upd H p o) := fun a u na e => by
    have ne : a ≠ p := fun z => na (z ▸ .inr f)
    exact ⟨by rw [upd_ne ne]; exact e, na⟩
  refine ⟨⟨s.len, fun i w e => ?_, s.fin, s.inj, s.apart, ⟨s.st.len, s.st.nd, fun k ob e => ?_⟩, fun a h => ?_, s.fdis⟩, kp⟩
  · obtain ⟨v, hv, r⟩ := s.slot i w e
    refine ⟨v, hv, ?_⟩
    by_cases po : w.isOwn = true
    · obtain ⟨a, ob, rfl, hb, tb⟩ := own_or_plain r po
      have ne : a ≠ p := fun z => np (z ▸ .inr ⟨i, hv, _, e, po⟩)
      exact (tb.keep kp).rw (by rw [upd_ne ne]; exact hb)
    · have pl : w.plain = true := by
        have fi := s.fin i w e
        unfold W.fine at fi
        simpa [po] using fi
      exact RW.keep kp (List.prefix_refl _) r pl
  · obtain ⟨b, hb, r⟩ := s.st.obj k ob e
    have ne : b ≠ p := fun z => np (z ▸ .inl (List.mem_of_getElem? hb))
    refine ⟨b, hb, ?_⟩
    cases r with
    | lst h t' => exact .lst (by rw [upd_ne ne]; exact h) (t'.keep kp)
    | ins g h m t' pl => exact .ins g (by rw [upd_ne ne]; exact h) m (RWs.keep kp (List.prefix_refl _) t' pl) pl
    | dct h t' => exact .dct (by rw [upd_ne ne]; exact h) fun e he => (t' e he).keep kp
  · by_cases z : a = p
    · subst z
      exact ⟨_, upd_same⟩
    · obtain ⟨u, hu⟩ := s.ftr a h
      exact ⟨u, by rw [upd_ne z]; exact hu⟩
theorem Post.calm {α : Type} {r : R α} {P : α → Sto → Hp → List Addr → Prop} {EX EX' : WX} (h : Post K mg EX F σ env H μ r.calm P) : Post K mg EX' F σ env H μ r P := by
  cases r with
  | ok a S' => exact h
  | exc c S' => exact h.elim
  | stuck => exact h
theorem setAll_wipe : ∀ {is : List Nat} {ds : List D} {env env' : EnvQ}, setAll is ds env = some env' → env'.length = env.length ∧ ∀ j, j ∉ is → env'[j]? = env[j]?
  | [], [], env, env', e => by
    simp only [setAll, Option.some.injEq] at e
    subst e
    exact ⟨rfl, fun _ _ => rfl⟩
  | [], _ :: _, _, _, e => by simp [setAll] at e
  | _ :: _, [], _, _, e => by simp [setAll] at e
  | i :: is, d :: ds, env, env', e => by
    simp only [setAll] at e
    obtain ⟨h1, h2⟩ := setAll_wipe e
    refine ⟨by simpa using h1, fun j hj => ?_⟩
    simp only [List.mem_cons, not_or] at hj
    rw [h2 j hj.2, List.getElem?_set_ne (Ne.symm hj.1)]
theorem wipe_get (σ : L2.St) (j : Nat) : ∀ vs : List Nat, (wipe σ vs)[j]? = if j ∈ vs ∧ j < σ.length then some none else σ[j]?
  | [] => by simp [wipe]
  | v :: vs => by
    have ih := wipe_get σ j vs
    have hl : (wipe σ vs).length = σ.length := wipe_length σ vs
    show ((wipe σ vs).set v none)[j]? = _
    by_cases e : j = v
    · subst e
      by_cases h : j < σ.length
      · rw [List.getElem?_set_self (by rw [hl]; exact h), if_pos ⟨by simp, h⟩]
      · rw [List.getElem?_eq_none (by simpa [hl] using h), if_neg (fun z => h z.2), List.getElem?_eq_none (by simpa using h)]
    · rw [List.getElem?_set_ne (Ne.symm e), ih]
      simp [e]
theorem wipe_only {σ σ2 : L2.St} {is vs : List Nat} (hs : ∀ i ∈ is, i ∈ vs) (o : Only1 is (wipe σ vs) σ2) : wipe σ2 vs = wipe σ vs := by
  apply List.ext_getElem?
  intro j
  have hl : σ2.length = σ.length := by rw [o.1, wipe_length]
  rw [wipe_get σ2, wipe_get σ, hl]
  by_cases h : j ∈ vs ∧ j < σ.length
  · rw [if_pos h, if_pos h]
  · rw [if_neg h, if_neg h]
    by_cases m : j ∈ vs
    · have hj : ¬ j < σ.length := fun z => h ⟨m, z⟩
      rw [List.getElem?_eq_none (by omega), List.getElem?_eq_none (by omega)]
    · rw [o.2 j (fun z => m (hs j z)), wipe_get σ, if_neg (fun z => m z.1)]
/-- tests of a comprehension: none, one -/
def MTs (X : Cx) (cf : CF) (EX : WX) (es : List Expr) (f : ST) : Prop := PTs X es (tT X.K X.mg cf EX f)
def cYes : ST := fun _ _ S => .ok true S
theorem PTs.weak {X : Cx} {es : List Expr} {t t' : TT} (h : PTs X es t) (w : ∀ σ H Q, t' σ H Q → t σ H Q) : PTs X es t' := ⟨fun pins s σ H Q I q => h.run pins s σ H Q I (w σ H Q q)⟩
theorem mts_nil : MTs X cf EX [] cYes := PTs.weak pts_nil fun σ H Q ⟨env, S, μ, F, s, q⟩ => q H μ s (Ext.refl _ _ _ _)
theorem mts_one (h : MT X cf EX c gc) : MTs X cf EX [c] gc := pts_one h
abbrev EX0 : WX := fun _ _ _ _ => False
theorem compL_calm (t : Tg) (c : EnvQ → Sto → R Bool) (f : EnvQ → Sto → R W) (env : EnvQ) : ∀ (ds : List D) (S : Sto), (∃ xs S', compL t c f env ds S = .ok xs S') ∨ compL t c f env ds S = .stuck
  | [], S => .inl ⟨[], S, rfl⟩
  | d :: ds, S => by
    unfold compL
    split
    · exact .inr rfl
    · rename_i env1 e1
      cases c env1 S with
      | exc _ _ => exact .inr rfl
      | stuck => exact .inr rfl
      | ok b S1 =>
        cases b with
        | false =>
          simp only [R.calm, R.bind_ok, Bool.false_eq_true, if_false]
          exact compL_calm t c f env ds S1
        | true =>
          simp only [R.calm, R.bind_ok, if_true]
          cases f env1 S1 with
          | exc _ _ => exact .inr rfl
          | stuck => exact .inr rfl
          | ok w S2 =>
            simp only [R.bind_ok]
            split
            · rcases compL_calm t c f env ds S2 with ⟨xs, S', e⟩ | e
              · rw [e]
                exact .inl ⟨_, _, rfl⟩
              · rw [e]
                exact .inr rfl
            · exact .inr rfl
/-- the target's names are forgotten -/
theorem set_eq {t : Tg} {d : D} {env0 env1 : EnvQ} (e : t.set d env0 = some env1) : env1.length = env0.length ∧ (∀ j, j ∉ t.slots → env1[j]? = env0[j]?) ∧ ∀ j w, j ∈ t.slots → env1[j]? = some (some w) → w.isOwn = false := by
  have aux : ∀ (is : List Nat) (ds : List D) (env env' : EnvQ), setAll is ds env = some env' → ∀ j w, j ∈ is → env'[j]? = some (some w) → w.isOwn = false := by
    intro is
    induction is with
    | nil => intro ds env env' _ j w hj; cases hj
    | cons i is ih =>
      intro ds env env' e j w hj hw
      cases ds with
      | nil => simp [setAll] at e
      | cons d ds =>
        simp only [setAll] at e
        by_cases m : j ∈ is
        · exact ih ds _ env' e j w m hw
        · have z : j = i := by
            rcases List.mem_cons.mp hj with z | z
            · exact z
            · exact absurd z m
          subst z
          rw [(setAll_wipe e).2 j m] at hw
          rcases set_get hw with ⟨_, y⟩ | ⟨n, _⟩
          · cases y
            rfl
          · exact absurd rfl n
  cases t with
  | name i =>
    simp only [Tg.set, Option.some.injEq] at e
    subst e
    refine ⟨by simp, fun j hj => by rw [List.getElem?_set_ne (fun z => hj (by simp [Tg.slots, z]))], fun j w hj hw => ?_⟩
    rcases set_get hw with ⟨_, y⟩ | ⟨n, _⟩
    · cases y
      rfl
    · exact absurd (by simpa [Tg.slots] using hj) n
  | names is =>
    cases d with
    | tuple ds =>
      have e : setAll is ds env0 = some env1 := by simpa [Tg.set] using e
      exact ⟨(setAll_wipe e).1, fun j hj => (setAll_wipe e).2 j hj, aux is ds env0 env1 e⟩
    | _ => simp [Tg.set] at e
theorem Sim.turn {t : Tg} {d : D} {vs : List Nat} {env1 : EnvQ} {σ4 : L2.St} (hsl : ∀ i ∈ t.slots, i ∈ vs) (e : t.set d (wipeE env vs) = some env1) (hlen : σ.length = env.length) (o : Only1 t.slots (wipe σ vs) σ4) :
    (∀ μ, MM μ σ4 env1 = MM μ (wipe σ vs) (wipeE env vs)) ∧ ∀ {F : Addr → Prop} {H : Hp} {S : Sto} {μ : List Addr}, Sim K mg F σ4 H env1 S μ → Sim K mg F (wipe σ vs) H (wipeE env vs) S μ := by
  obtain ⟨h1, h2, h3⟩ := set_eq e
  have iff : ∀ i a, OwnAt σ4 env1 i a ↔ OwnAt (wipe σ vs) (wipeE env vs) i a := fun i a => by
    by_cases m : i ∈ t.slots
    · constructor
      · rintro ⟨_, w, y, z⟩
        rw [h3 i w m y] at z
        cases z
      · rintro ⟨_, w, y, z⟩
        exact absurd (hsl i m) (wipeE_get y).1
    · constructor
      · rintro ⟨y, w, z, q⟩
        exact ⟨by rw [← o.2 i m]; exact y, w, by rw [← h2 i m]; exact z, q⟩
      · rintro ⟨y, w, z, q⟩
        exact ⟨by rw [o.2 i m]; exact y, w, by rw [h2 i m]; exact z, q⟩
  have mm : ∀ μ, MM μ σ4 env1 = MM μ (wipe σ vs) (wipeE env vs) := fun μ => by
    funext a
    apply propext
    exact ⟨fun h => h.elim .inl fun ⟨i, h⟩ => .inr ⟨i, (iff i a).mp h⟩, fun h => h.elim .inl fun ⟨i, h⟩ => .inr ⟨i, (iff i a).mpr h⟩⟩
  refine ⟨mm, fun {F H S μ} s => ?_⟩
  have nn : NN F μ σ4 env1 = NN F μ (wipe σ vs) (wipeE env vs) := by
    unfold NN
    rw [mm]
  refine ⟨by rw [wipe_length, wipeE_len]; exact hlen, fun i w y => ?_, fun i w y => ?_, fun i j a y z => s.inj i j a ((iff i a).mpr y) ((iff j a).mpr z), fun i a y => s.apart i a ((iff i a).mpr y), by rw [← nn]; exact s.st, s.ftr, fun a f y => s.fdis a f (by rw [mm]; exact y)⟩
  · have m : i ∉ t.slots := fun m => (wipeE_get y).1 (hsl i m)
    obtain ⟨v, hv, r⟩ := s.slot i w (by rw [h2 i m]; exact y)
    rw [o.2 i m] at hv
    exact ⟨v, hv, by rw [← nn]; exact r⟩
  · have m : i ∉ t.slots := fun m => (wipeE_get y).1 (hsl i m)
    exact s.fin i w (by rw [h2 i m]; exact y)
/-- the reading of a comprehension -/
theorem comp_read {t : Tg} {it : SI} {cc : ST} {ff : SE} {vs : List Nat} (hsl : ∀ i ∈ t.slots, i ∈ vs)
    (σ : L2.St) (H : Hp) (Q : VK) (q : tE X.K X.mg cf EX (fComp vs t it cc ff) σ H Q) : tLc (tI X.K X.mg cf EX it) (tG X.K X.mg t) (tT X.K X.mg cf EX0 cc) (tE X.K X.mg cf EX0 ff) vs σ H Q := by
  obtain ⟨env, S, μ, F, s, q⟩ := q
  unfold fComp at q
  split at q
  · rename_i no
    have no : ∀ i ∈ vs, notOwn env i = true := fun i hi => List.all_eq_true.mp no i hi
    refine ⟨env, S, μ, F, s, (Post.bind q).mono fun ds S1 H1 μ1 s1 x1 q1 J hJ D nD => ?_⟩
    have fD : ¬ F D := fun h => by
      obtain ⟨u, hu⟩ := s1.ftr D h
      rw [nD] at hu
      cases hu
    refine ⟨fun i m H' => i + m = ds.length ∧ ∃ S' μ' ys zs, Sim X.K X.mg (fun a => a = D ∨ F a) (wipe σ vs) H' (wipeE env vs) S' μ' ∧ Ext σ env H1 μ1 H' μ' ∧ H' D = some (.lst ys) ∧ DnAll X.K H' (NN (fun a => a = D ∨ F a) μ' σ env) ys zs ∧
      Post X.K X.mg EX F σ env H1 μ1 ((compL t (cc cf) (ff cf) (wipeE env vs) (ds.drop i) S').bind fun xs S2 => if (zs ++ xs).length ≤ LIM then .ok (.d (.list (zs ++ xs))) S2 else .stuck) (fun w _ H' μ' => ∀ v, RW X.K X.mg H' (NN F μ' σ env) μ' v w → Q v H'), ⟨ds.length, by omega, S1, μ1, [], [], s1.block no nD, ext_new nD, upd_same, .nil, by simpa using q1⟩, ?_⟩
    rintro i m H' ⟨hm, S', μ', ys, zs, s', x0, hD, tz, q'⟩
    have s0 := s1.unblock no s' x0
    have kN : Keep (NN F μ1 σ env) H1 (NN (fun a => a = D ∨ F a) μ' (wipe σ vs) (wipeE env vs)) H' := fun a o na e => by
      obtain ⟨e', n'⟩ := x0.nn F a o na e
      refine ⟨e', fun h => ?_⟩
      rw [wipe_nn no] at h
      rcases h with h | h | h
      · exact n' (.inl h)
      · exact ne_of_none e nD h
      · exact n' (.inr h)
    obtain ⟨hstop, hgo⟩ := hJ _ H' kN s'.trk i
    have nDN : ∀ {H2 S2 μ2}, Sim X.K X.mg (fun a => a = D ∨ F a) (wipe σ vs) H2 (wipeE env vs) S2 μ2 → ¬ NN F μ2 σ env D := fun s2 h => h.elim (fun h => s2.fdis D (.inl rfl) (by rw [wipe_mm no]; exact h)) fD
    by_cases hi : i = ds.length
    · refine .inl ⟨hstop hi, ?_⟩
      rw [hi, List.drop_length] at q'
      simp only [compL, R.bind_ok, List.append_nil] at q'
      split at q'
      · exact q' H' μ' s0 x0 _ (.d (.lst ⟨nDN s', hD⟩ (tz.keep (Keep.sub fun a h => h.elim .inl fun h => .inr (.inr h)))))
      · exact q'.elim
    · have hlt : i < ds.length := by omega
      have e : ds[i]? = some ds[i] := by simp [hlt]
      obtain ⟨go, y⟩ := hgo _ e
      refine .inr ⟨go, fun H2 => (i + 1) + (m - 1) = ds.length ∧ ∃ S' μ' ys zs, Sim X.K X.mg (fun a => a = D ∨ F a) (wipe σ vs) H2 (wipeE env vs) S' μ' ∧ Ext σ env H1 μ1 H2 μ' ∧ H2 D = some (.lst ys) ∧ DnAll X.K H2 (NN (fun a => a = D ∨ F a) μ' σ env) ys zs ∧
        Post X.K X.mg EX F σ env H1 μ1 ((compL t (cc cf) (ff cf) (wipeE env vs) (ds.drop (i + 1)) S').bind fun xs S2 => if (zs ++ xs).length ≤ LIM then .ok (.d (.list (zs ++ xs))) S2 else .stuck) (fun w _ H' μ' => ∀ v, RW X.K X.mg H' (NN F μ' σ env) μ' v w → Q v H'), fun H2 h => ⟨m - 1, by omega, h⟩, fun v H3 yv => ?_⟩
      obtain ⟨sm, rv⟩ := y v H3 yv
      have s3 := s'.same sm
      have x3 : Ext σ env H1 μ1 H3 μ' := x0.trans (Ext.same sm)
      have hD3 : H3 D = some (.lst ys) := sm _ _ hD
      have tz3 : DnAll X.K H3 (NN (fun a => a = D ∨ F a) μ' σ env) ys zs := tz.keep fun a o n e => ⟨sm a o e, n⟩
      rw [List.drop_eq_getElem_cons hlt] at q'
      unfold compL at q'
      split at q'
      · exact q'.elim
      · rename_i env1 e1
        refine ⟨_, _, S', μ', _, env1, s3, rv, e1, fun σ4 s4 x4 o4 => ⟨wipe_only hsl o4, env1, S', μ', _, s4, ?_⟩⟩
        obtain ⟨mm, back⟩ := Sim.turn (K := X.K) (mg := X.mg) hsl e1 s.len o4
        -- what a step within the turn keeps
        have step : ∀ {Ha Hb : Hp} {μa μb : List Addr}, Ext σ4 env1 Ha μa Hb μb → Ext σ env Ha μa Hb μb := fun x => by
          have k := x.keep
          rw [mm, mm, wipe_mm no, wipe_mm no] at k
          exact ⟨k, x.pre⟩
        have atD : ∀ {Ha Hb : Hp} {μa μb : List Addr} {Sa : Sto} {u : HO}, Sim X.K X.mg (fun a => a = D ∨ F a) (wipe σ vs) Ha (wipeE env vs) Sa μa → Ext σ4 env1 Ha μa Hb μb → Ha D = some u → Hb D = some u := fun sa x h => by
          have k := x.keep
          rw [mm, mm] at k
          exact (k D _ (sa.fdis D (.inl rfl)) h).1
        cases r : cc cf env1 S' with
        | stuck =>
          rw [r] at q'
          exact q'.elim
        | exc c0 S5 =>
          rw [r] at q'
          exact q'.elim
        | ok b S5 =>
          rw [r] at q'
          intro H5 μ5 s5 x5
          have w5 := back s5
          have xx5 := x3.trans (step x5)
          have hD5 := atD s3 x5 hD3
          have tz5 := tz3.keep ((step x5).nn _)
          cases b with
          | false =>
            simp only [R.calm, R.bind_ok, Bool.false_eq_true, if_false] at q' ⊢
            exact ⟨by omega, S5, μ5, ys, zs, w5, xx5, hD5, tz5, q'⟩
          | true =>
            simp only [R.calm, R.bind_ok, if_true] at q' ⊢
            refine ⟨env1, S5, μ5, _, s5, ?_⟩
            cases r2 : ff cf env1 S5 with
            | stuck =>
              rw [r2] at q'
              exact q'.elim
            | exc c0 S6 =>
              rw [r2] at q'
              exact q'.elim
            | ok w S6 =>
              rw [r2] at q'
              intro H6 μ6 s6 x6 v2 rv2
              have w6 := back s6
              have xx6 := xx5.trans (step x6)
              have hD6 := atD w5 x6 hD5
              have tz6 := tz5.keep ((step x6).nn _)
              simp only [R.bind_ok] at q'
              split at q'
              · rename_i z
                have rz : Dn X.K H6 (NN (fun a => a = D ∨ F a) μ6 σ env) v2 z := by
                  cases rv2 with
                  | d h =>
                    refine h.keep (Keep.sub fun a ha => ?_)
                    have : NN (fun a => a = D ∨ F a) μ6 σ4 env1 = NN (fun a => a = D ∨ F a) μ6 σ env := by
                      unfold NN
                      rw [mm, wipe_mm no]
                    rw [this]
                    exact ha
                have hz : zs.length < LIM ∧ Post X.K X.mg EX F σ env H1 μ1 ((compL t (cc cf) (ff cf) (wipeE env vs) (ds.drop (i + 1)) S6).bind fun xs S2 => if ((zs ++ [z]) ++ xs).length ≤ LIM then .ok (.d (.list ((zs ++ [z]) ++ xs))) S2 else .stuck) (fun w _ H' μ' => ∀ v, RW X.K X.mg H' (NN F μ' σ env) μ' v w → Q v H') := by
                  rcases compL_calm t (cc cf) (ff cf) (wipeE env vs) (ds.drop (i + 1)) S6 with ⟨xs, S7, e7⟩ | e7
                  · rw [e7] at q' ⊢
                    simp only [R.bind_ok, List.append_assoc, List.singleton_append] at q' ⊢
                    split at q'
                    · rename_i hz
                      refine ⟨?_, ?_⟩
                      · rw [List.length_append, List.length_cons] at hz
                        omega
                      · rw [if_pos hz]
                        exact q'
                    · exact q'.elim
                  · rw [e7] at q'
                    exact q'.elim
                refine ⟨ys, hD6, by rw [← lim_line, tz6.length]; exact hz.1, by omega, S6, μ6, ys ++ [v2], zs ++ [z], (w6.updF (.inl rfl)).1, ⟨fun a o na e => ?_, xx6.pre⟩, upd_same, ?_, hz.2⟩
                · obtain ⟨e', n'⟩ := xx6.keep a o na e
                  exact ⟨by rw [upd_ne (ne_of_none e nD)]; exact e', n'⟩
                · refine (tz6.append (.cons rz .nil)).keep fun a o na e => ⟨?_, na⟩
                  rw [upd_ne (fun z => na (.inr (.inl z)))]
                  exact e
              · exact q'.elim
  · exact q.elim
theorem me_comp {t : Tg} {it : SI} {gcc : ST} {ff : SE} {elt iter : Expr} {ifs : List Expr} {scope : Scope} {own : List (Str × Nat)} (hc : X.calm = true) (hN : X.N.Nodup) (hi : MI X cf EX tg iter it) (ok : BlkOk X.N X.env.scope scope own)
    (hsl : ∀ i ∈ t.slots, i ∈ own.map (·.2))
    (hg : ∀ (s : Shared) (H : Hp) (C : Addr) (cl : List (Str × Addr)) (fp : List Addr), MG (X.blk s H scope (compEnvC scope cl C X.env) fp) tg t) (ht : ∀ (s : Shared) (H : Hp) (C : Addr) (cl : List (Str × Addr)) (fp : List Addr), MTs (X.blk s H scope (compEnvC scope cl C X.env) fp) cf EX0 ifs gcc)
    (he : ∀ (s : Shared) (H : Hp) (C : Addr) (cl : List (Str × Addr)) (fp : List Addr), ME (X.blk s H scope (compEnvC scope cl C X.env) fp) cf EX0 elt ff) (hs : ∀ x, foldedSetIterable iter X.env x = pure x := by intro _; rfl) :
    ME X cf EX (.ListComp elt [⟨tg, iter, ifs, 0⟩] scope pos) (fComp (own.map (·.2)) t it gcc ff) :=
  PE.weak (pe_lc (g := tG X.K X.mg t) (tt := tT X.K X.mg cf EX0 gcc) (te := tE X.K X.mg cf EX0 ff) hc hN hi ok hg ht he hs) (comp_read hsl)
theorem ms_setComp {t : Tg} {it : SI} {gcc : ST} {ff : SE} {elt iter : Expr} {ifs : List Expr} {scope : Scope} {own : List (Str × Nat)} {i : Nat} {y : Str} {py spos : Pos} (hc : X.calm = true) (hN : X.N.Nodup) (hy : X.N[i]? = some y) (hyl : X.env.scope.names.lookup y = some .local)
    (hsw : swapsWith (.ListComp elt [⟨tg, iter, ifs, 0⟩] scope pos) (some (.Name y py)) spos.line X.env = pure true) (hi : MI X cf EX tg iter it) (ok : BlkOk X.N X.env.scope scope own)
    (hsl : ∀ i ∈ t.slots, i ∈ own.map (·.2))
    (hg : ∀ (s : Shared) (H : Hp) (C : Addr) (cl : List (Str × Addr)) (fp : List Addr), MG (X.blk s H scope (compEnvC scope cl C X.env) fp) tg t) (ht : ∀ (s : Shared) (H : Hp) (C : Addr) (cl : List (Str × Addr)) (fp : List Addr), MTs (X.blk s H scope (compEnvC scope cl C X.env) fp) cf EX0 ifs gcc)
    (he : ∀ (s : Shared) (H : Hp) (C : Addr) (cl : List (Str × Addr)) (fp : List Addr), ME (X.blk s H scope (compEnvC scope cl C X.env) fp) cf EX0 elt ff) (hs : ∀ x, foldedSetIterable iter X.env x = pure x := by intro _; rfl) :
    MS X cf EX (.Assign [.Name y py] (.ListComp elt [⟨tg, iter, ifs, 0⟩] scope pos) spos) (sSet i (fComp (own.map (·.2)) t it gcc ff)) :=
  PS.weak (ps_setLc (g := tG X.K X.mg t) (tt := tT X.K X.mg cf EX0 gcc) (te := tE X.K X.mg cf EX0 ff) hc hN hy hyl hsw hi ok hg ht he hs) fun D σ H ⟨env, S, μ, F, s, q⟩ => comp_read hsl σ H _ ⟨env, S, μ, F, s, (PostS.expr q).mono fun w S1 H1 μ1 s1 x1 q1 v rv => by
    split at q1
    · rename_i pw
      obtain ⟨s2, x2⟩ := s1.set pw rv
      exact q1 _ H1 μ1 s2 x2
    · exact q1.elim⟩
/-- x op= e, of plain things -/
def sAug (i : Nat) (g : G2) (f : SE) : SS := fun cf env S => match env[i]? with
  | some (some w) => if w.plain then (f cf env S).then env fun u S1 => (g w u S1).then env fun z S2 => if z.plain then .next (env.set i (some z)) S2 else .stuck else .stuck
  | _ => .stuck
theorem ms_aug {i : Nat} {op : Operator} {r : R2} {g : G2} {pp : Pos} (hN : X.N.Nodup) (hi : X.N[i]? = some x) (hx : Loc X.env.scope x) (ho : OpR X (inplaceOp op) r) (o : Op X EX r g) (hp : ∀ w u S, w.plain = false ∨ u.plain = false → g w u S = .stuck) (h : ME X cf EX e fa)
    (hf : X.fn x = true ∨ X.env.scope.names.lookup x = some .local := by first | exact .inl rfl | exact .inr rfl | assumption) : MS X cf EX (.AugAssign (.Name x pp) op e pos) (sAug i g fa) := by
  refine PS.weak (ps_aug hN hi hx h (ti := fun x y H Q => r x y H Q) (fun pins s σ H x y v u Q I rx ry q => ho pins s σ H x y v u Q I rx ry q) hf) fun D σ H ⟨env, S, μ, F, s, q⟩ => ?_
  unfold sAug at q
  split at q
  · rename_i w e0
    split at q
    · rename_i pw
      obtain ⟨v, hv, rv⟩ := s.slot i w e0
      refine ⟨v, hv, env, S, μ, F, s, (PostS.expr q).mono fun u S1 H1 μ1 s1 x1 q1 v2 rv2 => ?_⟩
      by_cases pu : u.plain = true
      · refine o F σ env S1 H1 μ1 v v2 w u _ s1 (RW.keep (x1.nn F) x1.pre rv pw) pw rv2 pu ((PostS.expr q1).mono fun z S2 H2 μ2 s2 x2 q2 v3 rv3 => ?_)
        split at q2
        · rename_i pz
          obtain ⟨s3, x3⟩ := s2.set pz rv3
          exact q2 _ H2 μ2 s3 x3
        · exact q2.elim
      · rw [hp w u S1 (.inr (by simpa using pu))] at q1
        exact q1.elim
    · exact q.elim
  · exact q.elim
/-- + of whole numbers -/
def gAddI : G2
  | .d (.int a), .d (.int b), S => .ok (.d (.int (a + b))) S
  | _, _, _ => .stuck
theorem ms_augAdd {i : Nat} {pp : Pos} (hN : X.N.Nodup) (hi : X.N[i]? = some x) (hx : Loc X.env.scope x) (h : ME X cf EX e fa)
    (hf : X.fn x = true ∨ X.env.scope.names.lookup x = some .local := by first | exact .inl rfl | exact .inr rfl | assumption) : MS X cf EX (.AugAssign (.Name x pp) .Add e pos) (sAug i gAddI fa) :=
  ms_aug hN hi hx iop_add (o_int0 fun w u S => by
    unfold gAddI
    split
    · exact .inl ⟨_, _, rfl, rfl, _, fun _ _ => .int _, rfl⟩
    · exact .inr rfl) (gp_int fun w u S k => by
    unfold gAddI at k
    split at k
    · exact ⟨_, _, rfl, rfl⟩
    · exact absurd rfl k) h hf
/-- o[i] = e, o a list of the store -/
def sSetIx (o i f : SE) : SS := fun cf env S => (f cf env S).then env fun w S1 => (o cf env S1).then env fun u S2 => (i cf env S2).then env fun k S3 => match w, u, k with
  | .d x, .ref n, .d (.int j) => (match S3[n]? with
    | some (.lst xs) => (match ixN xs.length j with
      | some m => .next env (S3.set n (.lst (xs.set m x)))
      | none => .stuck)
    | _ => .stuck)
  | _, _, _ => .stuck
theorem nd_ix {α : Type} : ∀ {l : List α} {i j : Nat} {x : α}, l.Nodup → l[i]? = some x → l[j]? = some x → i = j
  | [], _, _, _, _, h, _ => by simp at h
  | a :: l, 0, 0, _, _, _, _ => rfl
  | a :: l, 0, j + 1, x, nd, h1, h2 => by
    simp at h1 h2
    subst h1
    exact absurd (List.mem_of_getElem? h2) (List.nodup_cons.mp nd).1
  | a :: l, i + 1, 0, x, nd, h1, h2 => by
    simp at h1 h2
    subst h2
    exact absurd (List.mem_of_getElem? h1) (List.nodup_cons.mp nd).1
  | a :: l, i + 1, j + 1, x, nd, h1, h2 => congrArg (· + 1) (nd_ix (List.nodup_cons.mp nd).2 (by simpa using h1) (by simpa using h2))
theorem Sim.store (s : Sim K mg F σ H env S μ) {n : Nat} {a : Addr} {vs vs' : List V} {xs xs' : List D} (hn : μ[n]? = some a) (hS : S[n]? = some (.lst xs)) (ha : H a = some (.lst vs)) (t : DnAll K H (NN F μ σ env) vs' xs') :
    Sim K mg F σ (upd H a (.lst vs')) env (S.set n (.lst xs')) μ ∧ Ext σ env H μ (upd H a (.lst vs')) μ := by
  have am : a ∈ μ := List.mem_of_getElem? hn
  have kp : Keep (MM μ σ env) H (MM μ σ env) (upd H a (.lst vs')) := fun b o nb q => by
    have ne : b ≠ a := fun z => nb (z ▸ .inl am)
    exact ⟨by rw [upd_ne ne]; exact q, nb⟩
  have ex : Ext σ env H μ (upd H a (.lst vs')) μ := ⟨kp, List.prefix_refl _⟩
  have kn := ex.nn F
  refine ⟨⟨s.len, fun i w e => ?_, s.fin, s.inj, s.apart, ⟨by simpa using s.st.len, s.st.nd, fun k ob e => ?_⟩, fun b f => ?_, s.fdis⟩, ex⟩
  · obtain ⟨v, hv, r⟩ := s.slot i w e
    refine ⟨v, hv, ?_⟩
    by_cases po : w.isOwn = true
    · obtain ⟨b, ob, rfl, hb, tb⟩ := own_or_plain r po
      have ne : b ≠ a := fun z => s.apart i b ⟨hv, _, e, po⟩ (z ▸ am)
      exact (tb.keep kn).rw (by rw [upd_ne ne]; exact hb)
    · have pl : w.plain = true := by
        have fi := s.fin i w e
        unfold W.fine at fi
        simpa [po] using fi
      exact RW.keep kn (List.prefix_refl _) r pl
  · rcases set_get e with ⟨z, y⟩ | ⟨nk, z⟩
    · subst z
      cases y
      exact ⟨a, hn, .lst upd_same (t.keep kn)⟩
    · obtain ⟨b, hb, r⟩ := s.st.obj k ob z
      have ne : b ≠ a := fun y => nk (nd_ix s.st.nd hb (y ▸ hn))
      refine ⟨b, hb, ?_⟩
      cases r with
      | lst h t' => exact .lst (by rw [upd_ne ne]; exact h) (t'.keep kn)
      | ins g h m t' pl => exact .ins g (by rw [upd_ne ne]; exact h) m (RWs.keep kn (List.prefix_refl _) t' pl) pl
      | dct h t' => exact .dct (by rw [upd_ne ne]; exact h) fun e he => (t' e he).keep kn
  · obtain ⟨u, hu⟩ := s.ftr b f
    have ne : b ≠ a := fun z => s.fdis b f (.inl (z ▸ am))
    exact ⟨u, by rw [upd_ne ne]; exact hu⟩
theorem ms_setIx {o i : Expr} {fo fi fe : SE} {p2 : Pos} (he : ME X cf EX e fe) (ho : ME X cf EX o fo) (hi : ME X cf EX i fi)
    (ha : ∀ v, assign (.Subscript o i p2) X.env v = (do
      let ov ← holding [v] (eval o X.env)
      let iv ← holding [v, ov] (eval i X.env)
      standAt p2
      holding [v, ov, iv] (setItem ov iv v)
      release [v, ov, iv] []) := by intro _; rfl) (hs : swapsWithSole [.Subscript o i p2] e pos.line X.env = pure false := by rfl) (hw : swappedStores [.Subscript o i p2] e X.env = pure none := by rfl)
    (h1 : (assignEach [.Subscript o i p2] X.env).map (·.2) = [assign (.Subscript o i p2) X.env] := by rfl) : MS X cf EX (.Assign [.Subscript o i p2] e pos) (sSetIx fo fi fe) := by
  refine PS.weak (ps_asg he (pg_sub ho hi set_list ha) hs hw h1) fun D σ H ⟨env, S, μ, F, s, q⟩ => ⟨env, S, μ, F, s, (PostS.expr q).mono fun w S1 H1 μ1 s1 x1 q1 v rv => ?_⟩
  refine ⟨env, S1, μ1, F, s1, (PostS.expr q1).mono fun u S2 H2 μ2 s2 x2 q2 v2 rv2 => ?_⟩
  refine ⟨env, S2, μ2, F, s2, (PostS.expr q2).mono fun k S3 H3 μ3 s3 x3 q3 v3 rv3 => ?_⟩
  split at q3
  · split at q3
    · rename_i hS
      split at q3
      · rename_i m hm
        cases rv2 with
        | ref hn =>
          have hn3 := pre_get x3.pre hn
          obtain ⟨a, ha, ro⟩ := s3.st.obj _ _ hS
          rw [hn3] at ha
          cases ha
          cases ro with
          | lst h t =>
            cases rv with
            | d rd =>
              have rd3 := rd.keep ((x2.nn F).trans (x3.nn F))
              refine ⟨_, _, _, m, rfl, rw_int rv3, h, by rw [t.length]; exact hm, ?_⟩
              obtain ⟨s4, x4⟩ := s3.store hn3 hS h (DnAll.set rd3 m t)
              exact q3 σ _ μ3 s4 x4.s
      · exact q3.elim
    · exact q3.elim
  · exact q3.elim
/-- a, b = e1, e2, e3: names of the frame, stored at once -/
def setW : List Nat → List W → EnvQ → Option EnvQ
  | [], [], env => some env
  | i :: is, w :: ws, env => setW is ws (env.set i (some w))
  | _, _, _ => none
def sPar (is : List Nat) (a : SA) : SS := fun cf env S => (a cf env S).then env fun ws S' => if W.plains ws then (match setW is ws env with
  | some env' => .next env' S'
  | none => .stuck) else .stuck
theorem Sim.set2 (s : Sim K mg F σ H env S μ) {i j : Nat} {v u : V} {w z : W} (pw : w.plain = true) (pz : z.plain = true) (r : RW K mg H (NN F μ σ env) μ v w) (r2 : RW K mg H (NN F μ σ env) μ u z) :
    Sim K mg F ((σ.set i (some v)).set j (some u)) H ((env.set i (some w)).set j (some z)) S μ ∧ ExS σ env H μ ((σ.set i (some v)).set j (some u)) ((env.set i (some w)).set j (some z)) H μ := by
  obtain ⟨s1, x1⟩ := s.set (i := i) pw r
  obtain ⟨s2, x2⟩ := s1.set (i := j) pz (RW.keep (x1.nn F) x1.pre r2 pz)
  exact ⟨s2, x1.trans x2⟩
theorem ms_par2 {i j : Nat} {y : Str} {a b : Expr} {px py pt : Pos} {kt k2 pt2} (hc : X.calm = true) (hN : X.N.Nodup) (hi : X.N[i]? = some x) (hj : X.N[j]? = some y) (hij : i ≠ j)
    (hx : X.env.scope.names.lookup x = some .local) (hy : X.env.scope.names.lookup y = some .local) (h : MA X cf EX [a, b] ha)
    (hw : swappedStores [.Tuple [.Name x px, .Name y py] kt pt] (.Tuple [a, b] k2 pt2) X.env = pure (some [x, y]))
    (hs : swapsWithSole [.Tuple [.Name x px, .Name y py] kt pt] (.Tuple [a, b] k2 pt2) pos.line X.env = pure false := by rfl) :
    MS X cf EX (.Assign [.Tuple [.Name x px, .Name y py] kt pt] (.Tuple [a, b] k2 pt2) pos) (sPar [i, j] ha) :=
  PS.weak (ps_par hc hN hi hj hij hx hy h hw hs) fun D σ H ⟨env, S, μ, F, s, q⟩ => ⟨env, S, μ, F, s, (PostS.expr q).mono fun ws S1 H1 μ1 s1 x1 q1 vs rvs => by
    split at q1
    · rename_i pl
      cases rvs with
      | nil => simp [setW] at q1; exact q1.elim
      | cons r1 t =>
        cases t with
        | nil => simp [setW] at q1; exact q1.elim
        | cons r2 t =>
          cases t with
          | cons _ _ => simp [setW] at q1; exact q1.elim
          | nil =>
            simp only [W.plains, Bool.and_eq_true, and_true] at pl
            obtain ⟨s2, x2⟩ := s1.set2 (i := i) (j := j) pl.1 pl.2 r1 r2
            exact ⟨_, _, rfl, q1 _ H1 μ1 s2 x2⟩
    · exact q1.elim⟩
end
end Q

namespace Q
open PySem PySem.Spec PyProof.Rows L2
section
variable {X : Cx} {cf : CF} {EX : WX} {F : Addr → Prop} {σ : L2.St} {env : EnvQ} {S S' S1 S2 : Sto} {H H' H1 : Hp} {μ μ' μ1 : List Addr} {K : PySem.W.Frag} {mg : Str → Option Value} {e c tg tg1 : Expr} {pos : Pos} {x : Str}
/-- from one state to a later one, the slots as they were; p may turn -/
structure KP (p : Addr) (σ : L2.St) (env : EnvQ) (H : Hp) (μ : List Addr) (H' : Hp) (μ' : List Addr) : Prop where
  keep : Keep (fun a => a = p ∨ MM μ σ env a) H (fun a => a = p ∨ MM μ' σ env a) H'
  pre : μ <+: μ'
theorem KP.refl {p : Addr} : KP p σ env H μ H μ := ⟨Keep.refl _ _, List.prefix_refl _⟩
theorem KP.ext {p : Addr} (k : KP p σ env H1 μ1 H μ) (x : Ext σ env H μ H' μ') : KP p σ env H1 μ1 H' μ' :=
  ⟨fun a o n e => by
    obtain ⟨e1, n1⟩ := k.keep a o n e
    obtain ⟨e2, n2⟩ := x.keep a o (fun h => n1 (.inr h)) e1
    exact ⟨e2, fun h => h.elim (fun h => n1 (.inl h)) n2⟩, List.IsPrefix.trans k.pre x.pre⟩
theorem KP.nn {p : Addr} (k : KP p σ env H μ H' μ') (fp : F p) : Keep (NN F μ σ env) H (NN F μ' σ env) H' := fun a o n e => by
  obtain ⟨e1, n1⟩ := k.keep a o (fun h => n (h.elim (fun z => .inr (z ▸ fp)) .inl)) e
  exact ⟨e1, fun h => h.elim (fun h => n1 (.inr h)) fun h => n (.inr h)⟩
theorem KP.out {p : Addr} (x : Ext σ env H1 μ1 H μ) (k : KP p σ env H μ H' μ') (n : H1 p = none) : Ext σ env H1 μ1 H' μ' :=
  ⟨fun a o na e => by
    obtain ⟨e1, n1⟩ := x.keep a o na e
    have ne := ne_of_none e n
    obtain ⟨e2, n2⟩ := k.keep a o (fun h => h.elim ne n1) e1
    exact ⟨e2, fun h => n2 (.inr h)⟩, List.IsPrefix.trans x.pre k.pre⟩
/-- [e for t in it if c for t1 in it1 if c1] -/
def compL2 (t : Tg) (c : EnvQ → Sto → R Bool) (g : EnvQ → Sto → R (List D)) (env : EnvQ) : List D → Sto → R (List D)
  | [], S => .ok [] S
  | d :: ds, S => match t.set d env with
    | none => .stuck
    | some env1 => (c env1 S).calm.bind fun b S1 => if b = true then (g env1 S1).calm.bind fun xs S2 => (compL2 t c g env ds S2).bind fun ys S3 => .ok (xs ++ ys) S3 else compL2 t c g env ds S1
def fComp2 (vs : List Nat) (t : Tg) (it : SI) (c : ST) (g : SI) : SE := fun cf env S => if vs.all (notOwn env) then (it cf env S).bind fun ds S1 => (compL2 t (c cf) (g cf) (wipeE env vs) ds S1).calm.bind fun xs S2 => if xs.length ≤ LIM then .ok (.d (.list xs)) S2 else .stuck else .stuck
end
end Q

namespace Q
open PySem PySem.Spec PyProof.Rows L2
section
variable {X : Cx} {cf : CF} {EX : WX} {F : Addr → Prop} {σ : L2.St} {env : EnvQ} {S S' : Sto} {H H' : Hp} {μ μ' : List Addr} {K : PySem.W.Frag} {mg : Str → Option Value} {e a b c tg : Expr} {es : List Expr} {fa fb : SE} {ha hb : SA} {pos p : Pos} {x : Str}

theorem Sim.alloc (s : Sim K mg F σ H env S μ) {p : Addr} {vs : List V} {xs : List D} (n : H p = none) (t : DnAll K H (NN F μ σ env) vs xs) : Sim K mg F σ (upd H p (.lst vs)) env (S ++ [.lst xs]) (μ ++ [p]) ∧ Ext σ env H μ (upd H p (.lst vs)) (μ ++ [p]) := by
  have kp : Keep (MM μ σ env) H (MM (μ ++ [p]) σ env) (upd H p (.lst vs)) := fun a o na e => by
    have ne : a ≠ p := ne_of_none e n
    refine ⟨by rw [upd_ne ne]; exact e, fun h => ?_⟩
    rcases h with h | h
    · rcases List.mem_append.mp h with h | h
      · exact na (.inl h)
      · exact ne (by simpa using h)
    · exact na (.inr h)
  have ex : Ext σ env H μ (upd H p (.lst vs)) (μ ++ [p]) := ⟨kp, List.prefix_append _ _⟩
  have kn := ex.nn F
  have np : ∀ a, NN F μ σ env a → a ≠ p := fun a h z => s.fresh n (z ▸ h)
  refine ⟨⟨s.len, fun i w e => ?_, s.fin, s.inj, fun i a h m => ?_, ⟨?_, ?_, fun k ob e => ?_⟩, fun a f => ?_, fun a f h => ?_⟩, ex⟩
  · obtain ⟨v, hv, r⟩ := s.slot i w e
    refine ⟨v, hv, ?_⟩
    by_cases po : w.isOwn = true
    · obtain ⟨b, ob, rfl, hb, tb⟩ := own_or_plain r po
      exact (tb.keep kn).rw (by rw [upd_ne (ne_of_none hb n)]; exact hb)
    · have pl : w.plain = true := by
        have fi := s.fin i w e
        unfold W.fine at fi
        simpa [po] using fi
      exact RW.keep kn ex.pre r pl
  · rcases List.mem_append.mp m with m | m
    · exact s.apart i a h m
    · exact np a (.inl (.inr ⟨i, h⟩)) (by simpa using m)
  · rw [List.length_append, List.length_append, s.st.len]
    rfl
  · refine List.nodup_append.mpr ⟨s.st.nd, by simp, fun a h1 b h2 z => ?_⟩
    subst z
    exact np a (.inl (.inl h1)) (by simpa using h2)
  · by_cases hk : k < S.length
    · rw [List.getElem?_append_left hk] at e
      obtain ⟨b, hb, r⟩ := s.st.obj k ob e
      refine ⟨b, pre_get ex.pre hb, ?_⟩
      cases r with
      | lst h t' => exact .lst (by rw [upd_ne (ne_of_none h n)]; exact h) (t'.keep kn)
      | ins g h m t' pl => exact .ins g (by rw [upd_ne (ne_of_none h n)]; exact h) m (RWs.keep kn ex.pre t' pl) pl
      | dct h t' => exact .dct (by rw [upd_ne (ne_of_none h n)]; exact h) fun e he => (t' e he).keep kn
    · rw [List.getElem?_append_right (by omega)] at e
      have k0 : k - S.length = 0 := by
        have := (List.getElem?_eq_some_iff.mp e).1
        simp at this
        omega
      rw [k0] at e
      simp at e
      subst e
      refine ⟨p, ?_, .lst upd_same (t.keep kn)⟩
      rw [List.getElem?_append_right (by rw [s.st.len]; omega), s.st.len, k0]
      rfl
  · obtain ⟨u, hu⟩ := s.ftr a f
    exact ⟨u, by rw [upd_ne (ne_of_none hu n)]; exact hu⟩
  · rcases h with h | h
    · rcases List.mem_append.mp h with h | h
      · exact s.fdis a f (.inl h)
      · exact np a (.inr f) (by simpa using h)
    · exact s.fdis a f (.inr h)
def fNewL (a : SA) : SE := fun cf env S => (a cf env S).bind fun ws S1 => if ws.length ≤ LIM then (match datas ws with
  | some ds => .ok (.ref S1.length) (S1 ++ [.lst ds])
  | none => .stuck) else .stuck
theorem me_newL (h : MA X cf EX es ha) : ME X cf EX (.List es pos) (fNewL ha) :=
  PE.weak (pe_lst h) fun σ H Q ⟨env, S, μ, F, s, q⟩ => ⟨env, S, μ, F, s, (Post.bind q).mono fun ws S1 H1 μ1 s1 x1 q1 vs rvs => by
    split at q1
    · rename_i hl
      refine ⟨by rw [← lim_line, rvs.length]; exact hl, fun p n => ?_⟩
      split at q1
      · rename_i ds e
        obtain ⟨s2, x2⟩ := s1.alloc n (datas_dn rvs e)
        refine q1 _ _ s2 x2 _ (.ref ?_)
        rw [← s1.st.len, List.getElem?_append_right (Nat.le_refl _)]
        simp
      · exact q1.elim
    · exact q1.elim⟩

def okShow (d : D) : Bool := d.showable && !d.hasDict && decide (d.depth ≤ 60) && decide (d.shown.length ≤ LIM)
def gRepr : GN
  | [.d d], S => if okShow d then .ok (.d (.str d.shown)) S else .stuck
  | _, _ => .stuck
theorem sum_rawT {prog : Program} {w : World} {A : Around} {E : Value → Shared → Prop} {s : Shared} {l : Addr} {its : List Value} {ns : List Int} {Q : Value → Shared → Prop} (hh : A.handled = none) (hl : s.heap.IsTuple l its.toArray) (hi : IntsAre its ns)
    (h : ∀ h' tk t', (∀ b o, s.heap.get? b = some o → h'.get? b = some o) → Q (.int ns.sum t') { s with heap := h', toks := tk }) : wpAny (model prog w) A (call (.builtin "sum") [.ref l]) Q E s := by
  have lt : l < s.heap.objs.size := by
    obtain ⟨o, e, _⟩ := id hl
    exact Heap.lt_size e
  apply call_sum_walkG
  apply wpAny_pyIter_tuple hl
  refine ⟨_, _, _, _, _, _, fun i => ns.getD i 0, rfl, Walks.tuple (A := A.in1) hh s.heap.objs.size l (Nat.ne_of_lt lt) its.toArray, ⟨⟨_, Heap.get?_push_size _ rfl, rfl, rfl⟩, hl.push _⟩, ?_, ?_, ?_⟩
  · intro b hb
    show b < (s.heap.push _).objs.size
    rw [Heap.size_push]
    rcases List.mem_cons.mp hb with rfl | hb
    · exact Nat.lt_succ_self _
    · rw [List.mem_singleton] at hb
      subst hb
      exact Nat.lt_succ_of_lt lt
  · intro i v hv
    have hv : its[i]? = some v := by simpa using hv
    have aux : ∀ {us : List Value} {ms : List Int} (i : Nat) (v : Value), IntsAre us ms → us[i]? = some v → ∃ t, v = .int (ms.getD i 0) t := by
      intro us ms i v hm
      induction hm generalizing i with
      | nil => intro e; simp at e
      | cons n t _ ih =>
        intro e
        cases i with
        | zero =>
          simp at e
          exact ⟨t, by simp [e]⟩
        | succ i =>
          obtain ⟨t', e'⟩ := ih i (by simpa using e)
          exact ⟨t', by simpa using e'⟩
    exact aux i v hi hv
  · intro h' tk t' hk
    have e : preSum (fun i => ns.getD i 0) its.toArray.size = ns.sum := by
      have aux : ∀ (ms : List Int) (j : Nat), j ≤ ms.length → preSum (fun i => ms.getD i 0) j = (ms.take j).sum := by
        intro ms j
        induction j with
        | zero => intro _; simp [preSum]
        | succ j ih =>
          intro hj
          have hj' : j < ms.length := by omega
          show preSum (fun i => ms.getD i 0) j + ms.getD j 0 = _
          rw [ih (by omega), List.take_succ_eq_append_getElem hj', List.sum_append]
          simp [hj']
      rw [aux ns _ (by rw [List.size_toArray, hi.length]; exact Nat.le_refl _), List.size_toArray, hi.length, List.take_length]
    rw [e]
    refine h h' tk t' fun b o eb => hk b o (fun hb => ?_) (Heap.get?_push_of_some _ eb)
    rw [List.mem_singleton] at hb
    subst hb
    exact absurd (Heap.lt_size eb) (Nat.lt_irrefl _)
def gSum : GN
  | [.d (.list xs)], S => match intsOf xs with | some is => .ok (.d (.int is.sum)) S | none => .stuck
  | [.d (.tuple xs)], S => match intsOf xs with | some is => .ok (.d (.int is.sum)) S | none => .stuck
  | _, _ => .stuck
theorem call_sumA (hc : X.calm = true) : CallR X (.builtin "sum") (fun vs H Q => ∃ (a : Addr) (ns : List Int), vs = [V.ref a] ∧ (SqL X.K H a (ns.map V.int) ∨ SqT X.K H a (ns.map V.int)) ∧ Q (.int ns.sum) H) := by
  intro pins s σ H vs us Q I r h
  obtain ⟨a, ns, rfl, hs | hs, q⟩ := h
  · exact cr_sum hc pins s σ H _ us Q I r ⟨a, ns, rfl, hs, q⟩
  · obtain ⟨its, rv, hl, _⟩ := I.tuple hs
    rw [Vals.ref1 r]
    exact sum_rawT (I.ok.hd hc) hl (intsAre_of rv) fun h' tk t' hk => ⟨.int _, H, I.kept hk, ⟨_, rfl⟩, q⟩
theorem co_sum : CallOp X EX (fun vs H Q => ∃ (a : Addr) (ns : List Int), vs = [V.ref a] ∧ (SqL X.K H a (ns.map V.int) ∨ SqT X.K H a (ns.map V.int)) ∧ Q (.int ns.sum) H) gSum := by
  intro F σ env S H μ vs ws Q s rvs q
  unfold gSum at q
  split at q
  · obtain ⟨v, rfl, rv⟩ := rws1 rvs
    obtain ⟨a, us, rfl, na, ha, ta⟩ := rw_lst rv
    split at q
    · rename_i bs e
      have h := ints_dn ta e
      subst h
      exact ⟨a, bs, rfl, .inl (SqL.of ha), post_here s (.d (.int _)) q⟩
    · exact q.elim
  · obtain ⟨v, rfl, rv⟩ := rws1 rvs
    obtain ⟨a, us, rfl, ha, ta⟩ := rw_tup rv
    split at q
    · rename_i bs e
      have h := ints_dn ta e
      subst h
      exact ⟨a, bs, rfl, .inr ha.sq, post_here s (.d (.int _)) q⟩
    · exact q.elim
  · exact q.elim
theorem me_sum (hc : X.calm = true) (hg : Gl X "sum") (hm : X.mg "sum" = none) (h : MA X cf EX [e] ha) (he : starEach [e] X.env = (false, eval e X.env) :: starEach [] X.env := by rfl) (hpl : (backTo pos (starEach [] X.env)).any (·.1) = false := by rfl) :
    ME X cf EX (.Call (.Name "sum" p) [e] [] pos) (fB gSum ha) := me_callB (call_sumA hc) co_sum hg hm (by decide +kernel) h (he := he) (hpl := hpl)

def flatD : D → Bool
  | .none => true
  | .bool _ => true
  | .int _ => true
  | .str _ => true
  | _ => false
def inD (x : D) (xs : List D) : Bool := xs.any fun y => PyData.eqv y x
def gIn : G2
  | .d x, .d (.tuple xs), S => if flatD x && xs.all flatD then .ok (.d (.bool (inD x xs))) S else .stuck
  | .d x, .d (.list xs), S => if flatD x && xs.all flatD then .ok (.d (.bool (inD x xs))) S else if okEq x && okEq (.list xs) then .ok (.d (.bool (inD x xs))) S else .stuck
  | _, _, _ => .stuck
theorem flat_v {N : Addr → Prop} {v : V} {d : D} (h : Dn K H N v d) (f : flatD d = true) : flatV v = true := by
  cases h <;> first | rfl | simp [flatD] at f
theorem flat_vs {N : Addr → Prop} : ∀ {vs : List V} {ds : List D}, DnAll K H N vs ds → ds.all flatD = true → vs.all flatV = true
  | _, _, .nil, _ => rfl
  | _, _, .cons h t, f => by
    simp only [List.all_cons, Bool.and_eq_true] at f ⊢
    exact ⟨flat_v h f.1, flat_vs t f.2⟩
theorem eqV_eqv {N : Addr → Prop} {v u : V} {d z : D} (h : Dn K H N v d) (h2 : Dn K H N u z) (f : flatD d = true) (f2 : flatD z = true) : eqV v u = PyData.eqv d z := by
  cases h <;> cases h2 <;> first | rfl | (exfalso; simp [flatD] at f; done) | (exfalso; simp [flatD] at f2; done) | simp [eqV, PyData.eqv]
theorem inV_inD {N : Addr → Prop} {v : V} {d : D} (h : Dn K H N v d) (f : flatD d = true) : ∀ {vs : List V} {ds : List D}, DnAll K H N vs ds → ds.all flatD = true → inV v vs = inD d ds
  | _, _, .nil, _ => rfl
  | _, _, .cons r t, g => by
    simp only [List.all_cons, Bool.and_eq_true] at g
    have ih := inV_inD h f t g.2
    unfold inV inD at ih ⊢
    rw [List.any_cons, List.any_cons, ih, eqV_eqv r h g.1 f]
theorem o_in : Op X EX (fun x y H Q => rIn X.K false x y H Q ∨ rInD X.K x y H Q) gIn := by
  intro F σ env S H μ x y w u Q s rx pw ry pu q
  unfold gIn at q
  split at q
  · obtain ⟨a, vs, rfl, ha, ta⟩ := rw_tup ry
    split at q
    · rename_i f
      rw [Bool.and_eq_true] at f
      cases rx with
      | d hx =>
        refine .inl ⟨a, vs, rfl, .inr ha.sq, flat_v hx f.1, flat_vs ta f.2, ?_⟩
        rw [inV_inD hx f.1 ta f.2]
        exact post_here s (.d (.bl _)) q
    · exact q.elim
  · obtain ⟨a, vs, rfl, na, ha, ta⟩ := rw_lst ry
    cases rx with
    | d hx =>
      split at q
      · rename_i f
        rw [Bool.and_eq_true] at f
        refine .inl ⟨a, vs, rfl, .inl (SqL.of ha), flat_v hx f.1, flat_vs ta f.2, ?_⟩
        rw [inV_inD hx f.1 ta f.2]
        exact post_here s (.d (.bl _)) q
      · split at q
        · rename_i f
          rw [Bool.and_eq_true] at f
          cases ry with
          | d hy =>
            obtain ⟨p1, s1⟩ := dn_dp hx f.1
            obtain ⟨p2, s2⟩ := dn_dp hy f.2
            exact .inr ⟨_, _, p1, p2, s1, s2, post_here s (.d (.bl _)) q⟩
        · exact q.elim
  · exact q.elim
theorem units65 {k : Nat} {A : Around} (hr : Room k A) : A.units + 65 < cLine := by
  have := hr.un
  omega
theorem cm_in {k : Nat} (hr : Room k X.A) : Cm X EX .In gIn := ⟨⟨_, OpR.or op_in_seq (op_inD (units65 hr)), o_in⟩, g_plain _ fun w u S k => by
  unfold gIn at k
  split at k <;> first | exact ⟨rfl, rfl⟩ | exact absurd rfl k⟩
/-- a list that nobody knows becomes one's own -/
theorem Sim.adoptG {p : Addr} (s : Sim K mg (fun a => a = p ∨ F a) σ H env S μ) {i : Nat} {ob0 : HO} {w0 : W} (hp : H p = some ob0) (t : OwnR K H (NN (fun a => a = p ∨ F a) μ σ env) ob0 w0) (io : w0.isOwn = true) (fp : ¬ F p) :
    Sim K mg F (σ.set i (some (.ref p))) H (env.set i (some w0)) S μ ∧ ∀ a, MM μ (σ.set i (some (.ref p))) (env.set i (some w0)) a → a = p ∨ MM μ σ env a := by
  have np : ¬ MM μ σ env p := s.fdis p (.inl rfl)
  have ow : ∀ j a, OwnAt (σ.set i (some (.ref p))) (env.set i (some w0)) j a → (j = i ∧ a = p) ∨ (j ≠ i ∧ OwnAt σ env j a) := fun j a ⟨h1, u, h2, h3⟩ => by
    rcases set_get h2 with ⟨e, z⟩ | ⟨n, z⟩
    · rcases set_get h1 with ⟨_, y⟩ | ⟨ne, _⟩
      · cases y
        exact .inl ⟨e, rfl⟩
      · exact absurd e ne
    · rcases set_get h1 with ⟨e, _⟩ | ⟨_, y⟩
      · exact absurd e n
      · exact .inr ⟨n, y, u, z, h3⟩
  have sub : ∀ a, MM μ (σ.set i (some (.ref p))) (env.set i (some w0)) a → a = p ∨ MM μ σ env a := fun a h => h.elim (fun h => .inr (.inl h)) fun ⟨j, h⟩ => (ow j a h).elim (fun h => .inl h.2) fun h => .inr (.inr ⟨j, h.2⟩)
  have subN : ∀ a, NN F μ (σ.set i (some (.ref p))) (env.set i (some w0)) a → NN (fun a => a = p ∨ F a) μ σ env a := fun a h => h.elim (fun h => (sub a h).elim (fun h => .inr (.inl h)) .inl) fun h => .inr (.inr h)
  refine ⟨⟨by simpa using s.len, fun j u e => ?_, fun j u e => ?_, fun j k a h1 h2 => ?_, fun j a h m => ?_, s.st.sub subN, fun a f => s.ftr a (.inr f), fun a f h => ?_⟩, sub⟩
  · rcases set_get e with ⟨z, y⟩ | ⟨nj, z⟩
    · subst z
      cases y
      have hl : j < σ.length := by
        rw [s.len]
        have q := (List.getElem?_eq_some_iff.mp e).1
        simpa using q
      exact ⟨_, List.getElem?_set_self hl, (t.keep (Keep.sub subN)).rw hp⟩
    · obtain ⟨v', h1, h2⟩ := s.slot j u z
      exact ⟨v', by rw [List.getElem?_set_ne (Ne.symm nj)]; exact h1, RW.sub subN h2⟩
  · rcases set_get e with ⟨z, y⟩ | ⟨n, z⟩
    · cases y
      simp [W.fine, io]
    · exact s.fin j u z
  · rcases ow j a h1 with ⟨e1, e2⟩ | ⟨e1, e2⟩
    · rcases ow k a h2 with ⟨e3, _⟩ | ⟨_, e4⟩
      · rw [e1, e3]
      · exact absurd (e2 ▸ .inr ⟨k, e4⟩) np
    · rcases ow k a h2 with ⟨_, e4⟩ | ⟨_, e4⟩
      · exact absurd (e4 ▸ .inr ⟨j, e2⟩) np
      · exact s.inj j k a e2 e4
  · rcases ow j a h with ⟨_, e2⟩ | ⟨_, e2⟩
    · subst e2
      exact np (.inl m)
    · exact s.apart j a e2 m
  · rcases sub a h with e | h
    · exact fp (e ▸ f)
    · exact s.fdis a (.inr f) h
/-- behind a new list at p: the callers' too -/
theorem Sim.lay (s : Sim K mg F σ H env S μ) {p : Addr} {o : HO} (n : H p = none) : Sim K mg (fun a => a = p ∨ F a) σ (upd H p o) env S μ := by
  have kp : Keep (NN F μ σ env) H (NN (fun a => a = p ∨ F a) μ σ env) (upd H p o) := fun a u na e => by
    have ne : a ≠ p := ne_of_none e n
    exact ⟨by rw [upd_ne ne]; exact e, fun h => h.elim (fun h => na (.inl h)) fun h => h.elim ne fun h => na (.inr h)⟩
  refine ⟨s.len, fun i w e => ?_, s.fin, s.inj, s.apart, ⟨s.st.len, s.st.nd, fun k ob e => ?_⟩, fun a f => ?_, fun a f h => ?_⟩
  · obtain ⟨v, hv, r⟩ := s.slot i w e
    refine ⟨v, hv, ?_⟩
    by_cases po : w.isOwn = true
    · obtain ⟨a, ob, rfl, hb, tb⟩ := own_or_plain r po
      exact (tb.keep kp).rw (by rw [upd_ne (ne_of_none hb n)]; exact hb)
    · have pl : w.plain = true := by
        have fi := s.fin i w e
        unfold W.fine at fi
        simpa [po] using fi
      exact RW.keep kp (List.prefix_refl _) r pl
  · obtain ⟨b, hb, r⟩ := s.st.obj k ob e
    refine ⟨b, hb, ?_⟩
    cases r with
    | lst h t' => exact .lst (by rw [upd_ne (ne_of_none h n)]; exact h) (t'.keep kp)
    | ins g h m t' pl => exact .ins g (by rw [upd_ne (ne_of_none h n)]; exact h) m (RWs.keep kp (List.prefix_refl _) t' pl) pl
    | dct h t' => exact .dct (by rw [upd_ne (ne_of_none h n)]; exact h) fun e he => (t' e he).keep kp
  · rcases f with rfl | f
    · exact ⟨_, upd_same⟩
    · obtain ⟨u, hu⟩ := s.ftr a f
      exact ⟨u, by rw [upd_ne (ne_of_none hu n)]; exact hu⟩
  · rcases f with rfl | f
    · exact s.fresh n (.inl h)
    · exact s.fdis a f h
theorem tr_none (s : Sim K mg F σ H env S μ) {p : Addr} (n : H p = none) : ¬ F p := fun f => by
  obtain ⟨u, hu⟩ := s.ftr p f
  rw [n] at hu
  cases hu
theorem Sim.unlay {p : Addr} (s' : Sim K mg (fun a => a = p ∨ F a) σ H env S μ) : Sim K mg F σ H env S μ :=
  ⟨s'.len, fun i w e => let ⟨v, hv, r⟩ := s'.slot i w e; ⟨v, hv, RW.sub (fun a h => h.elim .inl fun h => .inr (.inr h)) r⟩, s'.fin, s'.inj, s'.apart, s'.st.sub fun a h => h.elim .inl fun h => .inr (.inr h), fun a f => s'.ftr a (.inr f), fun a f => s'.fdis a (.inr f)⟩
end
end Q

namespace Q
open PySem PySem.Spec PyProof.Rows L2
inductive EL where
  | p (f : SE)
  | o (a : SA)
  | od
def elsE : List EL → CF → EnvQ → Sto → R (List W)
  | [] => fun _ _ S => .ok [] S
  | .p f :: r => fun cf env S => (f cf env S).bind fun w S1 => if w.plain then (elsE r cf env S1).bind fun ws S2 => .ok (w :: ws) S2 else .stuck
  | .o a :: r => fun cf env S => (a cf env S).bind fun ws S1 => if ws.length ≤ LIM then (match datas ws with
    | some ds => (elsE r cf env S1).bind fun us S2 => .ok (.own ds :: us) S2
    | none => .stuck) else .stuck
  | .od :: r => fun cf env S => (elsE r cf env S).bind fun us S2 => .ok (.ownd [] :: us) S2
def sParX (is : List Nat) (es : List EL) : SS := fun cf env S => (elsE es cf env S).then env fun ws S' => if ws.length ≤ LIM then (match setW is ws env with
  | some env' => .next env' S'
  | none => .stuck) else .stuck
inductive RWo (K : PySem.W.Frag) (mg : Str → Option Value) (H : Hp) (N : Addr → Prop) (μ : List Addr) : List Addr → List V → List W → Prop
  | nil : RWo K mg H N μ [] [] []
  | p {L : List Addr} {v : V} {vs : List V} {w : W} {ws : List W} : RW K mg H N μ v w → w.plain = true → RWo K mg H N μ L vs ws → RWo K mg H N μ L (v :: vs) (w :: ws)
  | o {L : List Addr} {a : Addr} {ob : HO} {w : W} {vs : List V} {ws : List W} : H a = some ob → OwnR K H N ob w → a ∉ L → RWo K mg H N μ L vs ws → RWo K mg H N μ (a :: L) (.ref a :: vs) (w :: ws)
section
variable {X : Cx} {cf : CF} {EX : WX} {F : Addr → Prop} {σ : L2.St} {env : EnvQ} {S S' : Sto} {H H1 H' : Hp} {μ μ1 μ' : List Addr} {K : PySem.W.Frag} {mg : Str → Option Value} {e : Expr} {es es0 : List Expr} {fa : SE} {ha : SA} {els : List EL} {pos p : Pos}
theorem OwnR.io {N : Addr → Prop} {o : HO} {w : W} (h : OwnR K H N o w) : w.isOwn = true := by cases h <;> rfl
theorem RWo.length {N : Addr → Prop} : ∀ {L : List Addr} {vs : List V} {ws : List W}, RWo K mg H N μ L vs ws → vs.length = ws.length
  | _, _, _, .nil => rfl
  | _, _, _, .p _ _ t => congrArg (· + 1) t.length
  | _, _, _, .o _ _ _ t => congrArg (· + 1) t.length
theorem RWo.sub {N N' : Addr → Prop} (h : ∀ a, N' a → N a) : ∀ {L : List Addr} {vs : List V} {ws : List W}, RWo K mg H N μ L vs ws → RWo K mg H N' μ L vs ws
  | _, _, _, .nil => .nil
  | _, _, _, .p r pl t => .p (RW.sub h r) pl (t.sub h)
  | _, _, _, .o e d n t => .o e (d.keep (Keep.sub h)) n (t.sub h)
def PostO (K : PySem.W.Frag) (mg : Str → Option Value) (EX : WX) (F : Addr → Prop) (σ : L2.St) (env : EnvQ) (H : Hp) (μ : List Addr) (r : R (List W)) (Q : List Addr → List V → List W → Sto → Hp → List Addr → Prop) : Prop :=
  match r with
  | .ok ws S' => ∀ H' μ' L vs, Sim K mg (fun a => a ∈ L ∨ F a) σ H' env S' μ' → Ext σ env H μ H' μ' → (∀ a ∈ L, H a = none) → RWo K mg H' (NN (fun a => a ∈ L ∨ F a) μ' σ env) μ' L vs ws → Q L vs ws S' H' μ'
  | .exc c S' => ∀ C H' μ', mg (Str.ofString c) = some (.ref C) → Sim K mg F σ H' env S' μ' → Ext σ env H μ H' μ' → EX (.ref C) none σ H'
  | .stuck => False
def tOs (K : PySem.W.Frag) (mg : Str → Option Value) (cf : CF) (EX : WX) (f : CF → EnvQ → Sto → R (List W)) : TA := fun σ H Q => ∃ env S μ F, Sim K mg F σ H env S μ ∧ PostO K mg EX F σ env H μ (f cf env S) fun _ vs _ _ H' _ => Q vs H'
def MAO (X : Cx) (cf : CF) (EX : WX) (es : List Expr) (els : List EL) : Prop := PA X es (tOs X.K X.mg cf EX (elsE els))
theorem fresh_back (x : Ext σ env H μ H1 μ1) (s1 : Sim K mg F σ H1 env S μ1) {a : Addr} (n : H1 a = none) : H a = none := by
  cases e : H a with
  | none => rfl
  | some o =>
    exfalso
    by_cases m : MM μ σ env a
    · have m1 : MM μ1 σ env a := m.elim (fun m => .inl (x.pre.subset m)) .inr
      obtain ⟨u, hu⟩ := s1.tracked (.inl m1)
      rw [n] at hu
      cases hu
    · have := (x.keep a o m e).1
      rw [n] at this
      cases this
theorem noL : (fun a => a ∈ ([] : List Addr) ∨ F a) = F := funext fun a => propext ⟨fun h => h.elim (fun h => by cases h) id, .inr⟩
theorem consL {q : Addr} {L : List Addr} : (fun a => a ∈ q :: L ∨ F a) = (fun a => a = q ∨ (a ∈ L ∨ F a)) := funext fun a => propext ⟨fun h => h.elim (fun h => (List.mem_cons.mp h).elim .inl fun h => .inr (.inl h)) fun h => .inr (.inr h), fun h => h.elim (fun h => .inl (List.mem_cons.mpr (.inl h))) fun h => h.elim (fun h => .inl (List.mem_cons.mpr (.inr h))) .inr⟩
theorem consL2 {q : Addr} {L : List Addr} : (fun a => a ∈ L ∨ (a = q ∨ F a)) = (fun a => a ∈ q :: L ∨ F a) := funext fun a => propext ⟨fun h => h.elim (fun h => .inl (List.mem_cons.mpr (.inr h))) fun h => h.elim (fun h => .inl (List.mem_cons.mpr (.inl h))) .inr, fun h => h.elim (fun h => (List.mem_cons.mp h).elim (fun h => .inr (.inl h)) .inl) fun h => .inr (.inr h)⟩
/-- what stood stands, the new lists beside it -/
theorem keep_L {L : List Addr} {H2 : Hp} {μ2 : List Addr} (x : Ext σ env H1 μ1 H2 μ2) (fr : ∀ a ∈ L, H1 a = none) : Keep (NN F μ1 σ env) H1 (NN (fun a => a ∈ L ∨ F a) μ2 σ env) H2 := fun a o na e => by
  obtain ⟨e', n'⟩ := x.nn F a o na e
  refine ⟨e', fun h => h.elim (fun h => n' (.inl h)) fun h => h.elim (fun h => ?_) fun h => n' (.inr h)⟩
  rw [fr a h] at e
  cases e
theorem mao_nil : MAO X cf EX [] [] := PA.weak pa_nil fun σ H Q ⟨env, S, μ, F, s, q⟩ => q H μ [] [] (by rw [noL]; exact s) (Ext.refl _ _ _ _) (by simp) .nil
theorem mao_p (h1 : ME X cf EX e fa) (h2 : MAO X cf EX es els) (hs : starEach (e :: es) X.env = (false, eval e X.env) :: starEach es X.env := by rfl) : MAO X cf EX (e :: es) (.p fa :: els) := by
  refine PA.weak (pa_cons h1 h2 hs) fun σ H Q ⟨env, S, μ, F, s, q⟩ => ?_
  refine ⟨env, S, μ, F, s, ?_⟩
  simp only [elsE] at q
  cases r1 : fa cf env S with
  | stuck => rw [r1] at q; exact q
  | exc c S1 => rw [r1] at q; exact q
  | ok w S1 =>
    rw [r1, R.bind_ok] at q
    intro H1 μ1 s1 x1 v rv
    split at q
    · rename_i pw
      refine ⟨env, S1, μ1, F, s1, ?_⟩
      cases r2 : elsE els cf env S1 with
      | stuck => rw [r2] at q; exact q
      | exc c S2 =>
        rw [r2] at q
        exact fun C H2 μ2 g s2 x2 => q C H2 μ2 g s2 (x1.trans x2)
      | ok ws S2 =>
        rw [r2, R.bind_ok] at q
        exact fun H2 μ2 L vs s2 x2 fr rvs => q H2 μ2 L (v :: vs) s2 (x1.trans x2) (fun a h => fresh_back x1 s1 (fr a h)) (.p (RW.keep (keep_L x2 fr) x2.pre rv pw) pw rvs)
    · exact q.elim
theorem mao_o {lp : Pos} (h1 : MA X cf EX es0 ha) (h2 : MAO X cf EX es els) (hs : starEach (.List es0 lp :: es) X.env = (false, eval (.List es0 lp) X.env) :: starEach es X.env := by rfl) : MAO X cf EX (.List es0 lp :: es) (.o ha :: els) := by
  refine PA.weak (pa_cons (pe_lst h1) h2 hs) fun σ H Q ⟨env, S, μ, F, s, q⟩ => ?_
  refine ⟨env, S, μ, F, s, ?_⟩
  simp only [elsE] at q
  cases r1 : ha cf env S with
  | stuck => rw [r1] at q; exact q
  | exc c S1 => rw [r1] at q; exact q
  | ok ws0 S1 =>
    rw [r1, R.bind_ok] at q
    intro H1 μ1 s1 x1 vs0 rvs0
    split at q
    · rename_i hlen
      refine ⟨by rw [← lim_line, rvs0.length]; exact hlen, fun p n => ?_⟩
      split at q
      · rename_i ds e
        have dd := datas_dn rvs0 e
        have fp := tr_none s1 n
        have s1' := s1.lay (o := .lst vs0) n
        have up : ∀ {H' : Hp} {μ' : List Addr}, Ext σ env (upd H1 p (.lst vs0)) μ1 H' μ' → Ext σ env H μ H' μ' := fun x => x1.trans ((ext_new n).trans x)
        refine ⟨env, S1, μ1, _, s1', ?_⟩
        cases r2 : elsE els cf env S1 with
        | stuck => rw [r2] at q; exact q
        | exc c S2 =>
          rw [r2] at q
          exact fun C H2 μ2 g s2 x2 => q C H2 μ2 g s2.unlay (up x2)
        | ok ws S2 =>
          rw [r2, R.bind_ok] at q
          intro H2 μ2 L vs s2 x2 fr rvs
          have hp : H2 p = some (.lst vs0) := (x2.keep p _ (fun h => s1.fresh n (.inl h)) upd_same).1
          have np : p ∉ L := fun h => by
            have := fr p h
            rw [upd_same] at this
            cases this
          rw [consL2] at s2 rvs
          refine q H2 μ2 (p :: L) (.ref p :: vs) s2 (up x2) (fun a h => ?_) (.o hp (.lst (dd.keep ?_)) np rvs)
          · rcases List.mem_cons.mp h with rfl | h
            · exact fresh_back x1 s1 n
            · refine fresh_back x1 s1 ?_
              have := fr a h
              rwa [upd_ne (fun z : a = p => np (by rw [← z]; exact h))] at this
          · intro a o na e0
            have ne : a ≠ p := ne_of_none e0 n
            have ma : ¬ MM μ1 σ env a := fun h => na (.inl h)
            obtain ⟨e', n'⟩ := x2.keep a o ma (by rw [upd_ne ne]; exact e0)
            refine ⟨e', fun h => h.elim n' fun h => h.elim (fun h => ?_) fun h => na (.inr h)⟩
            rcases List.mem_cons.mp h with h | h
            · exact ne h
            · have := fr a h
              rw [upd_ne ne, e0] at this
              cases this
      · exact q.elim
    · exact q.elim
theorem mao_od {lp : Pos} (h2 : MAO X cf EX es els) (hs : starEach (.Dict [] [] lp :: es) X.env = (false, eval (.Dict [] [] lp) X.env) :: starEach es X.env := by rfl) : MAO X cf EX (.Dict [] [] lp :: es) (.od :: els) := by
  refine PA.weak (pa_cons pe_dnewK h2 hs) fun σ H Q ⟨env, S, μ, F, s, q⟩ => ?_
  intro p n
  have s1' := s.lay (o := .dK []) n
  have up : ∀ {H' : Hp} {μ' : List Addr}, Ext σ env (upd H p (.dK [])) μ H' μ' → Ext σ env H μ H' μ' := fun x => (ext_new n).trans x
  refine ⟨env, S, μ, _, s1', ?_⟩
  simp only [elsE] at q
  cases r2 : elsE els cf env S with
  | stuck => rw [r2] at q; exact q
  | exc c S2 =>
    rw [r2] at q
    exact fun C H2 μ2 g s2 x2 => q C H2 μ2 g s2.unlay (up x2)
  | ok ws S2 =>
    rw [r2, R.bind_ok] at q
    intro H2 μ2 L vs s2 x2 fr rvs
    have hp : H2 p = some (.dK []) := (x2.keep p _ (fun h => s.fresh n (.inl h)) upd_same).1
    have np : p ∉ L := fun h => by
      have := fr p h
      rw [upd_same] at this
      cases this
    rw [consL2] at s2 rvs
    refine q H2 μ2 (p :: L) (.ref p :: vs) s2 (up x2) (fun a h => ?_) (.o hp (.dct .nil) np rvs)
    rcases List.mem_cons.mp h with rfl | h
    · exact n
    · have := fr a h
      rwa [upd_ne (fun z : a = p => np (by rw [← z]; exact h))] at this
def setV : List Nat → List V → L2.St → L2.St
  | i :: is, v :: vs, σ => setV is vs (σ.set i (some v))
  | _, _, σ => σ
theorem sim_store : ∀ {L : List Addr} {vs : List V} {ws : List W} {is : List Nat} {σ : L2.St} {env env' : EnvQ}, Sim K mg (fun a => a ∈ L ∨ F a) σ H env S μ → RWo K mg H (NN (fun a => a ∈ L ∨ F a) μ σ env) μ L vs ws → (∀ a ∈ L, ¬ F a) → setW is ws env = some env' →
    Sim K mg F (setV is vs σ) H env' S μ ∧ ∀ a, MM μ (setV is vs σ) env' a → a ∈ L ∨ MM μ σ env a := by
  intro L vs ws is σ env env' s r
  revert s
  induction is generalizing L vs ws σ env with
  | nil =>
    intro s nf hs
    cases r with
    | nil =>
      simp only [setW, Option.some.injEq] at hs
      subst hs
      rw [noL] at s
      exact ⟨s, fun a h => .inr h⟩
    | p _ _ _ => simp [setW] at hs
    | o _ _ _ _ => simp [setW] at hs
  | cons i is ih =>
    intro s nf hs
    cases r with
    | nil => simp [setW] at hs
    | p rv pw t =>
      obtain ⟨s1, x1⟩ := s.set (i := i) pw rv
      have sub : ∀ a, MM μ (σ.set i (some _)) (env.set i (some _)) a → MM μ σ env a := fun a m => Classical.byContradiction fun na => by
        obtain ⟨u, hu⟩ := s1.tracked (.inl m)
        exact (x1.keep a u na hu).2 m
      obtain ⟨s2, sub2⟩ := ih (t.sub fun a h => h.elim (fun h => .inl (sub a h)) .inr) s1 nf hs
      exact ⟨s2, fun a h => (sub2 a h).elim .inl fun h => .inr (sub a h)⟩
    | o e d n t =>
      rename_i L q ob w0 vs ws
      have io := d.io
      have s0 := s
      rw [consL] at s0
      obtain ⟨s1, sub⟩ := s0.adoptG (i := i) e (by rw [consL] at d; exact d) io (fun h => h.elim n (nf q (by simp)))
      have subN : ∀ a, NN (fun a => a ∈ L ∨ F a) μ (σ.set i (some (.ref q))) (env.set i (some w0)) a → NN (fun a => a ∈ q :: L ∨ F a) μ σ env a := fun a h => h.elim (fun h => (sub a h).elim (fun h => .inr (.inl (by simp [h]))) .inl) fun h => .inr (h.elim (fun h => .inl (by simp [h])) .inr)
      obtain ⟨s2, sub2⟩ := ih (t.sub subN) s1 (fun a h => nf a (by simp [h])) hs
      exact ⟨s2, fun a h => (sub2 a h).elim (fun h => .inl (by simp [h])) fun h => (sub a h).elim (fun h => .inl (by simp [h])) .inr⟩
theorem RWo.same {N : Addr → Prop} (h : Same H H') : ∀ {L : List Addr} {vs : List V} {ws : List W}, RWo K mg H N μ L vs ws → RWo K mg H' N μ L vs ws
  | _, _, _, .nil => .nil
  | _, _, _, .p r pl t => .p (RW.same h r) pl (t.same h)
  | _, _, _, .o e d n t => .o (h _ _ e) (d.keep fun a o n e => ⟨h a o e, n⟩) n (t.same h)
theorem post_store {Dx : Ends} {is : List Nat} {r : R (List W)} (q : PostS K mg EX F σ env H μ (r.then env fun ws S' => if ws.length ≤ LIM then (match setW is ws env with | some env' => RS.next env' S' | none => .stuck) else .stuck) Dx) (s : Sim K mg F σ H env S μ) :
    PostO K mg EX F σ env H μ r fun L vs ws S' H' μ' => vs.length ≤ LIM ∧ ∀ H2, (H2 = H' ∨ ∃ t, H' t = none ∧ H2 = upd H' t (.tup vs)) → Dx.nx (setV is vs σ) H2 := by
  cases r with
  | stuck => exact q
  | exc c S1 => exact fun C H1 μ1 g s1 x1 => q C σ H1 μ1 g s1 x1.s
  | ok ws S1 =>
    rw [R.then_ok] at q
    intro H1 μ1 L vs s1 x1 fr rvs
    split at q
    · rename_i hl
      refine ⟨by rw [rvs.length]; exact hl, fun H2 h2 => ?_⟩
      split at q
      · rename_i env' e
        have nf : ∀ a ∈ L, ¬ F a := fun a h f => by
          obtain ⟨u, hu⟩ := s.ftr a f
          rw [fr a h] at hu
          cases hu
        have fin : ∀ {H2 : Hp}, Sim K mg (fun a => a ∈ L ∨ F a) σ H2 env S1 μ1 → RWo K mg H2 (NN (fun a => a ∈ L ∨ F a) μ1 σ env) μ1 L vs ws → Ext σ env H μ H2 μ1 → Dx.nx (setV is vs σ) H2 := fun s2 r2 x2 => by
          obtain ⟨s3, sub⟩ := sim_store s2 r2 nf e
          refine q _ _ _ s3 ⟨fun a o na e0 => ?_, x2.pre⟩
          obtain ⟨e1, n1⟩ := x2.keep a o na e0
          refine ⟨e1, fun h => (sub a h).elim (fun h => ?_) n1⟩
          rw [fr a h] at e0
          cases e0
        rcases h2 with rfl | ⟨t, nt, rfl⟩
        · exact fin s1 rvs x1
        · exact fin (s1.new nt) (rvs.same (Same.upd_new nt)) (x1.trans (ext_new nt))
      · exact q.elim
    · exact q.elim
/-- names in a row, whatever they are -/
def gNames : List Nat → TGs
  | [] => gNil
  | i :: is => gCons (gName i) (gNames is)
theorem gNames_ok {Q : L2.St → Hp → Prop} : ∀ {is : List Nat} {vs : List V} {σ : L2.St}, is.length = vs.length → Q (setV is vs σ) H → gNames is vs σ H Q
  | [], [], _, _, q => ⟨rfl, q⟩
  | i :: is, v :: vs, _, h, q => ⟨v, vs, rfl, gNames_ok (is := is) (vs := vs) (by simpa using h) q⟩
  | [], _ :: _, _, h, _ => by simp at h
  | _ :: _, [], _, h, _ => by simp at h
theorem setW_len : ∀ {is : List Nat} {ws : List W} {env env' : EnvQ}, setW is ws env = some env' → is.length = ws.length
  | [], [], _, _, _ => rfl
  | i :: is, w :: ws, _, _, h => by simp only [List.length_cons]; rw [setW_len (is := is) (ws := ws) h]
  | [], _ :: _, _, _, h => by simp [setW] at h
  | _ :: _, [], _, _, h => by simp [setW] at h
theorem post_len {Dx : Ends} {is : List Nat} {r : R (List W)} (q : PostS K mg EX F σ env H μ (r.then env fun ws S' => if ws.length ≤ LIM then (match setW is ws env with | some env' => RS.next env' S' | none => .stuck) else .stuck) Dx) (s : Sim K mg F σ H env S μ) :
    PostO K mg EX F σ env H μ r fun L vs ws S' H' μ' => is.length = vs.length := by
  cases r with
  | stuck => exact q
  | exc c S1 => exact fun C H1 μ1 g s1 x1 => q C σ H1 μ1 g s1 x1.s
  | ok ws S1 =>
    rw [R.then_ok] at q
    intro H1 μ1 L vs s1 x1 fr rvs
    split at q
    · split at q
      · rename_i e
        rw [rvs.length, setW_len e]
      · exact q.elim
    · exact q.elim
theorem PostO.and {r : R (List W)} {P P' : List Addr → List V → List W → Sto → Hp → List Addr → Prop} (h : PostO K mg EX F σ env H μ r P) (h' : PostO K mg EX F σ env H μ r P') {P2 : List Addr → List V → List W → Sto → Hp → List Addr → Prop} (f : ∀ L vs ws S' H' μ', P L vs ws S' H' μ' → P' L vs ws S' H' μ' → P2 L vs ws S' H' μ') : PostO K mg EX F σ env H μ r P2 := by
  cases r with
  | stuck => exact h
  | exc c S1 => exact h
  | ok ws S1 => exact fun H1 μ1 L vs s1 x1 fr rvs => f _ _ _ _ _ _ (h H1 μ1 L vs s1 x1 fr rvs) (h' H1 μ1 L vs s1 x1 fr rvs)
/-- a, b, .. = e1, [], ..: through a tuple -/
theorem ms_parX {is : List Nat} {tes : List Expr} {k k2 : Nat} {pt pt2 : Pos} (hc : X.calm = true) (h : MAO X cf EX es els) (hg : PGs X tes (gNames is))
    (hn : (assignEach tes X.env).length = is.length := by rfl) (hst : (assignEach tes X.env).findIdx? (·.1) = none := by rfl)
    (hs : swapsWithSole [.Tuple tes k pt] (.Tuple es k2 pt2) pos.line X.env = pure false := by rfl) (hw : swappedStores [.Tuple tes k pt] (.Tuple es k2 pt2) X.env = pure none := by rfl)
    (h1 : (assignEach [.Tuple tes k pt] X.env).map (·.2) = [assign (.Tuple tes k pt) X.env] := by rfl) : MS X cf EX (.Assign [.Tuple tes k pt] (.Tuple es k2 pt2) pos) (sParX is els) := by
  refine PS.weak (ps_asg (pe_tup h) (pg_tup hc hg hn hst) hs hw h1) fun D σ H ⟨env, S, μ, F, s, q⟩ => ⟨env, S, μ, F, s, ?_⟩
  refine PostO.and (post_store q s) (post_len q s) fun L vs ws S' H' μ' h h2 => ?_
  refine ⟨by rw [← lim_line]; exact h.1, fun p n => ?_⟩
  exact ⟨p, vs, rfl, .inl (.inl upd_same), h2.symm, gNames_ok h2 (h.2 _ (.inr ⟨p, n, rfl⟩))⟩
end
end Q

namespace Q
open PySem PySem.Spec PyProof.Rows L2
theorem meets_enumB {v : Value} {o : Obj} {H : Heap → Prop} (B : Begins v o H) :
    Meets (Builtin.«enumerate.__new__» ⟨[.type "enumerate", v], []⟩) (fun _ R s => H s.heap ∧
      R (.ok (.ret (.ref (s.heap.push o).objs.size))) { s with heap := (s.heap.push o).push { cls := .type "enumerate", data := .fields #[.none, .bool false, .ref s.heap.objs.size, rawInt 0, .none, .none] } }) :=
  .of_wp fun prog w A R s h => by
    obtain ⟨hp, g, d, tk, os⟩ := s
    obtain ⟨h1, h⟩ := h
    have hsub := sub_enumerate
    have q1 : ∀ {A' : Around} {E : Value → Shared → Prop} {Q : Value → Shared → Prop}, Q (.ref hp.objs.size) ⟨hp.push o, g, d, tk, os⟩ → wpAny (model prog w) A' (pyIter v) Q E ⟨hp, g, d, tk, os⟩ :=
      fun q => B.iter prog w _ _ ⟨hp, g, d, tk, os⟩ _ h1 q
    wp_walk
    refine wpAny_stack_any fun st => wpAny_pure ?_
    split
    · rename_i c _ _ _ _ _
      cases (c == Value.type "enumerate")
      · wp_walk using q1
        exact ⟨_, rfl, h⟩
      · wp_walk using q1
        exact ⟨_, rfl, h⟩
    · wp_walk using q1
      exact ⟨_, rfl, h⟩
section
variable {prog : Program} {w : World} {A : Around} {E : Value → Shared → Prop} {s : Shared}
theorem call_enumB {v : Value} {o : Obj} {H : Heap → Prop} {Q : Value → Shared → Prop} (B : Begins v o H) (h1 : H s.heap)
    (h : ∀ h', IsEnum h' (s.heap.objs.size + 1) s.heap.objs.size 0 .none → h'.get? s.heap.objs.size = some o → h'.objs.size = s.heap.objs.size + 2 →
      (∀ b o, s.heap.get? b = some o → h'.get? b = some o) → Q (.ref (s.heap.objs.size + 1)) { s with heap := h' }) :
    wpAny (model prog w) A (call (.type "enumerate") [v]) Q E s := by
  refine callType_new F.called_enumerate (by decide) (F.typeCall_enumerate_1 _) (F.newCall_enumerate_1 _) (fun obj => F.args_object_init_2 obj _) F.entry_enumerate_new
    (meets_enumB B) ⟨h1, ?_⟩
  have hz : (s.heap.push o).objs.size = s.heap.objs.size + 1 := Heap.size_push ..
  show _ ∧ _
  rw [hz]
  have he : IsEnum ((s.heap.push o).push { cls := .type "enumerate", data := .fields #[.none, .bool false, .ref s.heap.objs.size, rawInt 0, .none, .none] }) (s.heap.objs.size + 1) s.heap.objs.size 0 .none := by
    have := Heap.get?_push_size (s.heap.push o) (o := { cls := .type "enumerate", data := .fields #[.none, .bool false, .ref s.heap.objs.size, rawInt 0, .none, .none] }) rfl
    rw [hz] at this; exact this
  refine ⟨⟨_, he, rfl⟩, h _ he (Heap.get?_push_of_some _ (Heap.get?_push_size _ B.free)) (by rw [Heap.size_push, hz]) fun b o x => Heap.get?_push_of_some _ (Heap.get?_push_of_some _ x)⟩
end
def IteT (K : PySem.W.Frag) (a : Addr) : It :=
  ⟨fun i H => ∃ (xs : List V) (x : V), SqT K H a xs ∧ xs[i]? = some x, fun i H v H' => ∃ T x, v = .ref T ∧ H T = none ∧ H' = upd H T (.tup [.int (i : Nat), x]) ∧ ∀ xs, SqT K H a xs → xs[i]? = some x, fun i H => ∃ xs : List V, SqT K H a xs ∧ xs.length ≤ i⟩
theorem turn_enumT {P : Program} {w : World} {K : PySem.W.Frag} {elts : List Expr} {kk : Nat} {tpos : Pos} (a e it : Addr) :
    Turn P w K (.Tuple elts kk tpos) (IteT K a) [e, it] e (fun i h => (∃ old, IsEnum h e it ((i : Nat) : Int) old) ∧ h.IsTupleIter it a i ∧ e ≠ it) where
  mem := by simp
  obj := fun i h st b hb => by
    obtain ⟨⟨old, he⟩, ⟨o, ho, hc, hd⟩, _⟩ := st
    have e' : b = e ∨ b = it := by simpa using hb
    rcases e' with z | z
    · rw [z]; exact ⟨_, he, fun v q => nomatch q⟩
    · rw [z]; exact ⟨o, ho, fun v q => by rw [hd] at q; cases q⟩
  keep := fun i h h' st k => let ⟨⟨old, he⟩, hi, hne⟩ := st; ⟨⟨old, k e (by simp) _ he⟩, hi.at fun o q => k it (by simp) o q, hne⟩
  item := by
    intro X hP hw hK hc i pins s σ H E I hf st hg
    subst hP hw hK
    obtain ⟨⟨old, he⟩, hit, hne⟩ := st
    obtain ⟨xs, x, hq, hx⟩ := hg
    obtain ⟨its, rv, p, hz⟩ := I.tuple hq
    obtain ⟨u, hu, ru⟩ := rv.get hx
    have hel : e < s.heap.objs.size := Heap.lt_size he
    have hil : it < s.heap.objs.size := by obtain ⟨_, q, _⟩ := hit; exact Heap.lt_size q
    have nea : e ≠ a := fun z => by
      obtain ⟨o, e1, e2, _⟩ := id p
      rw [← z, show s.heap.get? e = some _ from he] at e1
      cases e1
      simp at e2
    have nia : a ≠ it := fun z => by
      obtain ⟨o, e1, e2, _⟩ := id p
      obtain ⟨o', e3, e4, _⟩ := id hit
      rw [z, e3] at e1
      cases e1
      rw [e4] at e2
      simp at e2
    have hin1 : X.A.in1.handled = none := I.ok.hd hc
    refine wpAny_pyNext_enum_itemD (Draws.tuple hin1 it a nia its.toArray) he ⟨hit, p⟩ (by have := (List.getElem?_eq_some_iff.mp hu).1; simpa using this) hne (by simp [hne, nea]) fun x' h' tk hx' ho hst hT hsz hk => ?_
    obtain rfl : x' = u := by
      have q : its[i]? = some x' := by simpa using hx'
      rw [hu] at q
      exact (Option.some.inj q).symm
    refine ⟨_, rfl, wpAny_letOwnedTupleGo_enum (s := { s with heap := h', toks := tk + 1 }) ho fun h'' he' sb => ?_⟩
    have hT2 : h''.get? s.heap.objs.size = some { cls := .type "tuple", data := .seq #[.int i tk, x'] } := (sb.2 _ (Nat.ne_of_gt hel)).trans hT
    have new : ObjOk X.prog X.w (upd H s.heap.objs.size (.tup [.int (i : Nat), x])) h'' s.heap.objs.size (.tup [.int (i : Nat), x]) :=
      ⟨by show 2 ≤ sizeLine; decide, [.int i tk, x'], .cons ⟨_, rfl⟩ (.cons ru .nil), ⟨_, hT2, rfl, _, rfl⟩⟩
    have I1 : Inv X pins σ (upd H s.heap.objs.size (.tup [.int (i : Nat), x])) { s with heap := h'', toks := tk + 1 } :=
      I.turnedNew (ch := [e, it]) (fun b ob hb q => (sb.2 b (fun z => hb (by simp [z]))).trans (hk b ob (fun z => hb (by simp [z])) (fun z => hb (by simp [z])) q)) hf (Nat.le_refl _) new
    refine ⟨.ref s.heap.objs.size, _, I1, rfl, ⟨_, x, rfl, I.hok.fresh (Nat.le_refl _), rfl, fun ys hy => by rw [I.tuple_inj hy hq]; exact hx⟩, ⟨⟨x', ?_⟩, hst.1.at fun o q => (sb.2 it (Ne.symm hne)).trans q, hne⟩, fun b hb => ?_⟩
    · have e1 : ((i + 1 : Nat) : Int) = (i : Int) + 1 := by omega
      rw [e1]; exact he'
    · have hb' : b < s.heap.objs.size := by
        have e' : b = e ∨ b = it := by simpa using hb
        rcases e' with z | z
        · rw [z]; exact hel
        · rw [z]; exact hil
      rw [upd_ne (Nat.ne_of_lt hb')]
      exact (hf b hb).1
  done := by
    intro X hP hw hK hc i pins s σ H E I hf st hg
    subst hP hw hK
    obtain ⟨⟨old, he⟩, hit, hne⟩ := st
    obtain ⟨xs, hq, hx⟩ := hg
    obtain ⟨its, rv, p, hz⟩ := I.tuple hq
    obtain ⟨f0, f1, f2, f3, f4, f5⟩ := hf it (by simp)
    have hl := rv.length
    have hT : s.TypeIs (.ref e) "enumerate" := ⟨_, he, rfl⟩
    unfold pyNext
    refine wpAny_bind (wpAny_attempt (wpAny_callSpecial?_slot (name := Str.ofString "__next__") hT F.slot_enumerate_next
      (wpAny_call_entry F.slot_enumerate_next hT F.entry_enumerate_next ?_ (F.args_enumerate_next_1 _))))
    show wpAny _ _ (field (.ref e) 2 >>= _) _ _ _
    refine wpAny_bind (wpAny_field he rfl (x := .ref it) rfl ?_)
    refine wpAny_bind (wpAny_nextOf_tuple_end (I.ok.hd hc) hit p (by simp; omega) fun h' x he' hx' => ?_)
    obtain ⟨o, ho, hc'⟩ := hx'
    refine wpAny_bind (wpAny_isInstance (T := "StopIteration") (b := true) ⟨o, ho, hc'⟩ isSubtype_stop ?_)
    exact wpAny_pure ⟨rfl, I.turned (t' := s.toks) (fun b o hb q => he' b o hb q) f0 f1 f3 f4 f5⟩
  self := fun A i s Q E st h => let ⟨⟨_, he⟩, _⟩ := st; wpAny_pyIter_enum he h
def iEnumA (K : PySem.W.Frag) (ta : TA) : TI := fun σ H R => ta σ H fun vs H1 => ∃ a xs, vs = [.ref a] ∧ ((SqL K H1 a xs ∧ R (Ite K a) H1) ∨ (SqT K H1 a xs ∧ R (IteT K a) H1))
theorem pi_enumA {X : Cx} {e : Expr} {ta : TA} {p pos tpos : Pos} {elts : List Expr} {kk : Nat} (hg : Gl X "enumerate") (hm : X.mg "enumerate" = none) (ha : PA X [e] ta) (hs : starEach [e] X.env = [(false, eval e X.env)] := by rfl) :
    PI X (.Tuple elts kk tpos) (.Call (.Name "enumerate" p) [e] [] pos) (iEnumA X.K ta) := by
  refine ⟨fun pins s σ H R I h => ?_⟩
  refine Call_ (ld_blt I hg hm boot_enumerate (PyProof.Rows.callWith_type1 (thn (ha.run pos pins s σ H _ I h) fun us s1 ⟨vs, H1, I1, r1, q1⟩ => ?_) hs rfl))
  obtain ⟨a, xs, ex, q⟩ := q1
  subst ex
  have fr : ∀ b ∈ [s1.heap.objs.size + 1, s1.heap.objs.size], FpOk X pins H1 b := fun b hb => by
    have e' : b = s1.heap.objs.size + 1 ∨ b = s1.heap.objs.size := by simpa using hb
    have hle : s1.heap.objs.size ≤ b := by
      rcases e' with z | z
      · rw [z]; exact Nat.le_add_right _ _
      · rw [z]; exact Nat.le_refl _
    exact I1.fpOk hle (I1.hok.fresh hle)
  cases r1 with
  | cons r rr =>
    cases rr
    cases r
    rcases q with ⟨hq, q⟩ | ⟨hq, q⟩
    · obtain ⟨its, rv, p', hz⟩ := I1.list hq
      refine call_enumerate_list p'.isList fun h' he hit hsz hk => wpAny_pyIter_enum he ?_
      have I2 : Inv X pins σ H1 { s1 with heap := h' } := I1.kept (t' := s1.toks) hk
      exact ⟨s1.heap.objs.size + 1, [s1.heap.objs.size + 1, s1.heap.objs.size], _, _, H1, rfl, I2, turn_enum a (s1.heap.objs.size + 1) s1.heap.objs.size, ⟨⟨.none, he⟩, hit, Nat.succ_ne_self _⟩, fr, q⟩
    · obtain ⟨its, rv, p', hz⟩ := I1.tuple hq
      refine call_enumB (begins_tuple a its.toArray) p' fun h' he hit hsz hk => wpAny_pyIter_enum he ?_
      have I2 : Inv X pins σ H1 { s1 with heap := h' } := I1.kept (t' := s1.toks) hk
      exact ⟨s1.heap.objs.size + 1, [s1.heap.objs.size + 1, s1.heap.objs.size], _, _, H1, rfl, I2, turn_enumT a (s1.heap.objs.size + 1) s1.heap.objs.size, ⟨⟨.none, he⟩, ⟨_, hit, rfl, rfl⟩, Nat.succ_ne_self _⟩, fr, q⟩
/-- 0, x; 1, y; .. -/
def enumD : Nat → List D → List D
  | _, [] => []
  | k, x :: xs => .tuple [.int (k : Int), x] :: enumD (k + 1) xs
theorem enumD_len : ∀ (k : Nat) (xs : List D), (enumD k xs).length = xs.length
  | _, [] => rfl
  | k, x :: xs => congrArg (· + 1) (enumD_len (k + 1) xs)
theorem enumD_get : ∀ {k : Nat} {xs : List D} {i : Nat} {d : D}, (enumD k xs)[i]? = some d → ∃ x, xs[i]? = some x ∧ d = .tuple [.int ((k + i : Nat) : Int), x]
  | _, [], _, _, h => by simp [enumD] at h
  | k, x :: xs, 0, d, h => ⟨x, rfl, by simpa [enumD, eq_comm] using h⟩
  | k, x :: xs, i + 1, d, h => by
    obtain ⟨y, h1, h2⟩ := enumD_get (k := k + 1) (xs := xs) (i := i) (d := d) (by simpa [enumD] using h)
    exact ⟨y, by simpa using h1, by rw [h2, show k + 1 + i = k + (i + 1) by omega]⟩
def zipD : List D → List D → List D
  | x :: xs, y :: ys => .tuple [x, y] :: zipD xs ys
  | _, _ => []
section
variable {X : Cx} {cf : CF} {EX : WX} {K : PySem.W.Frag} {H : Hp} {N : Addr → Prop} {e e2 : Expr} {ha : SA} {p pos tpos : Pos} {elts : List Expr} {kk : Nat}
theorem pair_dn {H2 : Hp} {N2 : Addr → Prop} {T : Addr} {u v : V} {x y : D} (tr : ∀ a, N2 a → ∃ o, H2 a = some o) (n : H2 T = none) (h1 : Dn K H2 N2 u x) (h2 : Dn K H2 N2 v y) : Same H2 (upd H2 T (.tup [u, v])) ∧ Dn K (upd H2 T (.tup [u, v])) N2 (.ref T) (.tuple [x, y]) := by
  have sm : Same H2 (upd H2 T (.tup [u, v])) := Same.upd_new n
  have nT : ¬ N2 T := fun h => by
    obtain ⟨o, e⟩ := tr T h
    rw [n] at e
    cases e
  have kp : Keep N2 H2 N2 (upd H2 T (.tup [u, v])) := fun a o na e => ⟨sm a o e, na⟩
  exact ⟨sm, .tup (.inl ⟨nT, .inl upd_same⟩) (.cons (h1.keep kp) (.cons (h2.keep kp) .nil))⟩
theorem iter_enum {a : Addr} {vs : List V} {ds : List D} (hq : ∀ N2 H2, Keep N H N2 H2 → SqL K H2 a vs) (t : DnAll K H N vs ds) : IterOf K (Ite K a) (enumD 0 ds) N H := fun N2 H2 k tr i => by
  have t2 := t.keep k
  have q2 := hq N2 H2 k
  refine ⟨fun e => ⟨vs, q2, by rw [t.length, ← enumD_len 0 ds]; exact Nat.le_of_eq e.symm⟩, fun d hd => ?_⟩
  obtain ⟨x, hx, rfl⟩ := enumD_get hd
  obtain ⟨v, hv, r⟩ := t2.get hx
  refine ⟨⟨vs, v, q2, hv⟩, fun w H3 y => ?_⟩
  obtain ⟨T, x', rfl, hT, rfl, y⟩ := y
  have := y vs q2
  rw [hv] at this
  cases this
  rw [Nat.zero_add]
  exact pair_dn tr hT (.int _) r
theorem iter_enumT {a : Addr} {vs : List V} {ds : List D} (ht : RdT K H N a vs) (t : DnAll K H N vs ds) : IterOf K (IteT K a) (enumD 0 ds) N H := fun N2 H2 k tr i => by
  have t2 := t.keep k
  have q2 := (ht.keep k).sq
  refine ⟨fun e => ⟨vs, q2, by rw [t.length, ← enumD_len 0 ds]; exact Nat.le_of_eq e.symm⟩, fun d hd => ?_⟩
  obtain ⟨x, hx, rfl⟩ := enumD_get hd
  obtain ⟨v, hv, r⟩ := t2.get hx
  refine ⟨⟨vs, v, q2, hv⟩, fun w H3 y => ?_⟩
  obtain ⟨T, x', rfl, hT, rfl, y⟩ := y
  have := y vs q2
  rw [hv] at this
  cases this
  rw [Nat.zero_add]
  exact pair_dn tr hT (.int _) r
def iEnumQ (a : SA) : SI := fun cf env S => (a cf env S).bind fun ws S1 => match ws with
  | [.d (.list xs)] => .ok (enumD 0 xs) S1
  | [.d (.tuple xs)] => .ok (enumD 0 xs) S1
  | _ => .stuck
theorem mi_enum (hg : Gl X "enumerate") (hm : X.mg "enumerate" = none) (h : MA X cf EX [e] ha) (hs : starEach [e] X.env = [(false, eval e X.env)] := by rfl) : MI X cf EX (.Tuple elts kk tpos) (.Call (.Name "enumerate" p) [e] [] pos) (iEnumQ ha) :=
  PI.weak (pi_enumA hg hm h hs) fun σ H R ⟨env, S, μ, F, s, q⟩ => ⟨env, S, μ, F, s, (Post.bind q).mono fun ws S1 H1 μ1 s1 x1 q1 vs rvs => by
    split at q1
    · obtain ⟨v1, rfl, r1⟩ := rws1 rvs
      obtain ⟨a, us, rfl, na, h1, t1⟩ := rw_lst r1
      exact ⟨a, us, rfl, .inl ⟨SqL.of h1, q1 H1 μ1 s1 (Ext.refl _ _ _ _) _ (iter_enum (fun N2 H2 k => SqL.of (k a _ na h1).1) t1)⟩⟩
    · obtain ⟨v1, rfl, r1⟩ := rws1 rvs
      obtain ⟨a, us, rfl, h1, t1⟩ := rw_tup r1
      exact ⟨a, us, rfl, .inr ⟨h1.sq, q1 H1 μ1 s1 (Ext.refl _ _ _ _) _ (iter_enumT h1 t1)⟩⟩
    · exact q1.elim⟩
def iZipQ (a : SA) : SI := fun cf env S => (a cf env S).bind fun ws S1 => match ws with
  | [.d (.list xs), .d (.list ys)] => .ok (zipD xs ys) S1
  | [.d (.tuple xs), .d (.tuple ys)] => .ok (zipD xs ys) S1
  | _ => .stuck
end
end Q

namespace Q
open PySem PySem.Spec PyProof.Rows L2
def sortI (is : List Int) : List Int := is.mergeSort fun a b => decide (a ≤ b)
theorem sortI_perm (is : List Int) : (sortI is).Perm is := List.mergeSort_perm _ _
theorem sortI_pw (is : List Int) : (sortI is).Pairwise (· ≤ ·) := by
  have := List.pairwise_mergeSort (le := fun a b : Int => decide (a ≤ b)) (fun a b c h1 h2 => by simp at *; omega) (fun a b => by simp; omega) is
  exact this.imp fun h => of_decide_eq_true h
theorem sortI_eq {is js : List Int} (h1 : js.Perm is) (h2 : js.Pairwise (· ≤ ·)) : js = sortI is :=
  List.Perm.eq_of_pairwise (fun a b _ _ h h' => Int.le_antisymm h h') h2 (sortI_pw is) (h1.trans (sortI_perm is).symm)
def gSorted : GN
  | [.d (.list xs)], S => match intsOf xs with | some is => .ok (.d (.list ((sortI is).map PyData.int))) S | none => .stuck
  | _, _ => .stuck
section
variable {X : Cx} {cf : CF} {EX : WX} {e : Expr} {ha : SA} {p pos : Pos}
theorem co_sorted : CallOp X EX (rSortedI X.K) gSorted := by
  intro F σ env S H μ vs ws Q s rvs q
  unfold gSorted at q
  split at q
  · obtain ⟨v, rfl, rv⟩ := rws1 rvs
    obtain ⟨a, us, rfl, na, ha, ta⟩ := rw_lst rv
    split at q
    · rename_i bs e
      have h := ints_dn ta e
      subst h
      refine ⟨a, bs, rfl, SqL.of ha, fun ns' t h1 h2 n => ?_⟩
      rw [sortI_eq h1 h2]
      exact post_lst s (ints_all _) q n
    · exact q.elim
  · exact q.elim
theorem me_sorted (hg : Gl X "sorted") (hm : X.mg "sorted" = none) (h : MA X cf EX [e] ha) (he : starEach [e] X.env = (false, eval e X.env) :: starEach [] X.env := by rfl) (hpl : (backTo pos (starEach [] X.env)).any (·.1) = false := by rfl) :
    ME X cf EX (.Call (.Name "sorted" p) [e] [] pos) (fB gSorted ha) := me_callB cr_sortedI co_sorted hg hm (by decide +kernel) h (he := he) (hpl := hpl)
/-- max, min of a list of numbers -/
def bestI (lt : Int → Int → Bool) : List Int → Int
  | [] => 0
  | x :: xs => xs.foldl (fun a b => if lt a b then b else a) x
theorem best_max : ∀ (xs : List Int) (x : Int), (xs.foldl (fun a b => if decide (a < b) = true then b else a) x ∈ x :: xs) ∧ ∀ y ∈ x :: xs, y ≤ xs.foldl (fun a b => if decide (a < b) = true then b else a) x
  | [], x => by simp
  | z :: xs, x => by
    obtain ⟨h1, h2⟩ := best_max xs (if decide (x < z) = true then z else x)
    simp only [List.foldl_cons]
    refine ⟨?_, fun y hy => ?_⟩
    · rcases List.mem_cons.mp h1 with e | e
      · rw [e]
        split <;> simp
      · exact List.mem_cons_of_mem _ (List.mem_cons_of_mem _ e)
    · have h3 := h2 (if decide (x < z) = true then z else x) (by simp)
      rcases List.mem_cons.mp hy with rfl | hy
      · split at h3 <;> simp at * <;> omega
      · rcases List.mem_cons.mp hy with rfl | hy
        · split at h3 <;> simp at * <;> omega
        · exact h2 y (by simp [hy])
def maxI (is : List Int) : Int := bestI (fun a b => decide (a < b)) is
theorem maxI_eq {is : List Int} {m : Int} (h : m ∈ is) (u : ∀ y ∈ is, y ≤ m) : m = maxI is := by
  match is, h, u with
  | x :: xs, h, u =>
    obtain ⟨h1, h2⟩ := best_max xs x
    exact Int.le_antisymm (h2 m h) (u _ h1)
def gMaxL : GN
  | [.d (.list xs)], S => match intsOf xs with | some is => if 0 < is.length then .ok (.d (.int (maxI is))) S else .stuck | none => .stuck
  | _, _ => .stuck
theorem co_maxL : CallOp X EX (rMax X.K) gMaxL := by
  intro F σ env S H μ vs ws Q s rvs q
  unfold gMaxL at q
  split at q
  · obtain ⟨v, rfl, rv⟩ := rws1 rvs
    obtain ⟨a, us, rfl, na, ha, ta⟩ := rw_lst rv
    split at q
    · rename_i bs e
      have h := ints_dn ta e
      subst h
      split at q
      · rename_i hl
        refine ⟨a, bs, rfl, SqL.of ha, hl, fun m h1 h2 => ?_⟩
        rw [maxI_eq h1 h2]
        exact post_here s (.d (.int _)) q
      · exact q.elim
    · exact q.elim
  · exact q.elim
theorem me_maxL (hc : X.calm = true) (hg : Gl X "max") (hm : X.mg "max" = none) (h : MA X cf EX [e] ha) (he : starEach [e] X.env = (false, eval e X.env) :: starEach [] X.env := by rfl) (hpl : (backTo pos (starEach [] X.env)).any (·.1) = false := by rfl) :
    ME X cf EX (.Call (.Name "max" p) [e] [] pos) (fB gMaxL ha) := me_callB (cr_max hc) co_maxL hg hm (by decide +kernel) h (he := he) (hpl := hpl)
end
end Q

namespace Q
open PySem PySem.Spec PyProof.Rows L2
def leP (p q : Int × Int) : Bool := !(SrtO.lexB q p)
def sortP (ps : List (Int × Int)) : List (Int × Int) := ps.mergeSort leP
section
variable {X : Cx} {cf : CF} {EX : WX} {e : Expr} {ha : SA} {p pos : Pos}
open Classical in
def pairD (p : Int × Int) : D := .tuple [.int p.1, .int p.2]
def pairsOf : List D → Option (List (Int × Int))
  | [] => some []
  | .tuple [.int a, .int b] :: ds => (pairsOf ds).map ((a, b) :: ·)
  | _ :: _ => none
theorem pairsOf_map : ∀ (ps : List (Int × Int)), pairsOf (ps.map pairD) = some ps
  | [] => rfl
  | p :: ps => by simp [pairsOf, pairD, pairsOf_map ps]
def gSortedP : GN
  | [.d (.list xs)], S => match pairsOf xs with | some ps => .ok (.d (.list ((sortP ps).map pairD))) S | none => .stuck
  | _, _ => .stuck
end
end Q

namespace Q
open PySem PySem.Spec PyProof.Rows L2
def code (n : List Int) : Int := TS.code 64 n
section
variable {X : Cx} {cf : CF} {EX : WX} {e : Expr} {ha : SA} {p pos : Pos}
end
end Q

namespace Q
open PySem PySem.Spec PyProof.Rows L2
section
variable {X : Cx} {cf : CF} {EX : WX} {F : Addr → Prop} {σ : L2.St} {env : EnvQ} {S S' : Sto} {H H' : Hp} {μ μ' : List Addr} {K : PySem.W.Frag} {mg : Str → Option Value} {e c tg : Expr} {es : List Expr} {fa fb : SE} {pos p : Pos} {x : Str}
/-- x = [..], a new list of one's own -/
def sSetCompO (i : Nat) (vs : List Nat) (t : Tg) (it : SI) (c : ST) (f : SE) : SS := fun cf env S => if vs.all (notOwn env) then (it cf env S).then env fun ds S1 => (compL t (c cf) (f cf) (wipeE env vs) ds S1).calm.then env fun xs S2 => if xs.length ≤ LIM then .next (env.set i (some (.own xs))) S2 else .stuck else .stuck
/-- x[k] = e, x a list of one's own -/
def sSetIxO (i : Nat) (fk fe : SE) : SS := fun cf env S => match env[i]? with
  | some (some (.own xs)) => (fe cf env S).then env fun w S1 => match w with
    | .d x => (fk cf env S1).then env fun u S2 => (match u with
      | .d (.int j) => (match ixN xs.length j with
        | some m => .next (env.set i (some (.own (xs.set m x)))) S2
        | none => .stuck)
      | _ => .stuck)
    | _ => .stuck
  | _ => .stuck
def sNewD (i : Nat) : SS := fun _ env S => .next (env.set i (some (.ownd []))) S
def keyOfD : D → Option Key
  | .int i => some (.inl i)
  | .str s => some (.inr s)
  | _ => none
def putD (kvs : List (Key × D)) (k : Key) (d : D) : List (Key × D) :=
  if (kvs.any fun kv => decide (kv.1 = k)) = true then kvs.map (fun kv => if kv.1 = k then (kv.1, d) else kv) else kvs ++ [(k, d)]
theorem KvR.any {N : Addr → Prop} {k : Key} : ∀ {vs : List (Key × V)} {ds : List (Key × D)}, KvR K H N vs ds → (vs.any fun kv => decide (kv.1 = k)) = (ds.any fun kv => decide (kv.1 = k))
  | _, _, .nil => rfl
  | _, _, .cons i _ t => by simp only [List.any_cons, KvR.any t]
theorem KvR.map {N : Addr → Prop} {k : Key} {v : V} {d : D} (r : Dn K H N v d) : ∀ {vs : List (Key × V)} {ds : List (Key × D)}, KvR K H N vs ds → KvR K H N (vs.map fun kv => if kv.1 = k then (kv.1, v) else kv) (ds.map fun kv => if kv.1 = k then (kv.1, d) else kv)
  | _, _, .nil => .nil
  | _, _, .cons i h t => by
    simp only [List.map_cons]
    by_cases e : i = k
    · rw [if_pos e, if_pos e]
      exact .cons i r (KvR.map r t)
    · rw [if_neg e, if_neg e]
      exact .cons i h (KvR.map r t)
theorem KvR.app {N : Addr → Prop} {k : Key} {v : V} {d : D} (r : Dn K H N v d) : ∀ {vs : List (Key × V)} {ds : List (Key × D)}, KvR K H N vs ds → KvR K H N (vs ++ [(k, v)]) (ds ++ [(k, d)])
  | _, _, .nil => .cons k r .nil
  | _, _, .cons i h t => .cons i h (KvR.app r t)
theorem KvR.put {N : Addr → Prop} {k : Key} {v : V} {d : D} (r : Dn K H N v d) {vs : List (Key × V)} {ds : List (Key × D)} (h : KvR K H N vs ds) : KvR K H N (putK vs k v) (putD ds k d) := by
  unfold putK putD
  rw [h.any]
  split
  · exact h.map r
  · exact h.app r
/-- found[k] = e -/
def sPutD (i : Nat) (fk fe : SE) : SS := fun cf env S => match env[i]? with
  | some (some (.ownd kvs)) => (fe cf env S).then env fun w S1 => match w with
    | .d x => (fk cf env S1).then env fun u S2 => (match u with
      | .d y => (match keyOfD y with
        | some k => if kvs.length < LIM then .next (env.set i (some (.ownd (putD kvs k x)))) S2 else .stuck
        | none => .stuck)
      | _ => .stuck)
    | _ => .stuck
  | _ => .stuck
theorem kV_of {N : Addr → Prop} {v : V} {y : D} {k : Key} (r : Dn K H N v y) (e : keyOfD y = some k) : v = kV k := by
  cases r <;> simp [keyOfD] at e <;> subst e <;> rfl
theorem ms_putD {i k0 : Nat} {k : Expr} {fk fe : SE} {p1 p2 : Pos} (hr : Room k0 X.A) (hv : PE X (.Name x p1) (tVar i)) (hi : ME X cf EX k fk) (he : ME X cf EX e fe) (hs : swapsWith e (some (.Subscript (.Name x p1) k p2)) pos.line X.env = pure false := by rfl) :
    MS X cf EX (.Assign [.Subscript (.Name x p1) k p2] e pos) (sPutD i fk fe) := by
  refine PS.weak (ps_dput (by have := hr.un; omega) hv hi he hs) fun D σ H ⟨env, S, μ, F, s, q⟩ => ?_
  unfold sPutD at q
  split at q
  · rename_i xs e0
    obtain ⟨v0, hv0, r0⟩ := s.slot i _ e0
    refine ⟨env, S, μ, F, s, (PostS.expr q).mono fun w S1 H1 μ1 s1 x1 q1 v rv => ?_⟩
    split at q1
    · refine ⟨v0, hv0, env, S1, μ1, F, s1, (PostS.expr q1).mono fun u S2 H2 μ2 s2 x2 q2 v2 rv2 => ?_⟩
      split at q2
      · split at q2
        · rename_i kk ek
          split at q2
          · rename_i hl
            obtain ⟨v', hv1, r1⟩ := s2.slot i _ e0
            rw [hv0] at hv1
            cases hv1
            cases r1 with
            | ownd ha1 ta1 =>
              cases rv with
              | d rd =>
                cases rv2 with
                | d rd2 =>
                  have z := kV_of rd2 ek
                  subst z
                  obtain ⟨s4, x4⟩ := s2.chOwnG (i := i) e0 rfl hv0 (.dct (KvR.put (k := kk) (rd.keep (x2.nn F)) ta1)) rfl
                  exact ⟨_, _, rfl, DPut.k ha1 (by rw [ta1.length, ← lim_line]; exact hl), q2 _ _ μ2 s4 x4⟩
          · exact q2.elim
        · exact q2.elim
      · exact q2.elim
    · exact q1.elim
  · exact q.elim
/-- sorted(found), the keys whole numbers -/
def intKeys : List (Key × D) → Option (List Int)
  | [] => some []
  | (.inl i, _) :: t => (intKeys t).map (i :: ·)
  | _ :: _ => none
def gSortedDK : GN
  | [.ownd kvs], S => match intKeys kvs with | some ks => if ks.length < 64 then .ok (.d (.list ((sortI ks).map PyData.int))) S else .stuck | none => .stuck
  | _, _ => .stuck
end
end Q

namespace Q
open PySem PySem.Spec PyProof.Rows L2
section
variable {X : Cx} {cf : CF} {EX : WX} {F : Addr → Prop} {σ : L2.St} {env : EnvQ} {S S' S1 S2 : Sto} {H H' H1 : Hp} {μ μ' μ1 : List Addr} {K : PySem.W.Frag} {mg : Str → Option Value} {e c tg : Expr} {es : List Expr} {fa fb : SE} {pos p : Pos} {x : Str}
end
end Q

namespace Q
open PySem PySem.Spec PyProof.Rows L2
/-- the numbers, each once, as they come -/
def onceI (ns : List Int) : List Int := PyProof.Rows.firstMet (fun i => ns.getD i 0) ns.length
section
variable {X : Cx} {cf : CF} {EX : WX} {e : Expr} {fa : SE} {p p2 q pos : Pos}
/-- what a thing shows stays from here on -/
theorem PE.postlock {X : Cx} {e : Expr} {t : TE} (h : PE X e t) : PE X e (fun σ H Q => t σ H fun v H1 => ∃ d u, v = .ref d ∧ H1 d = some u ∧ Mut (some u) ∧ ∀ od, Q v (upd H1 d (.frz od u))) := by
  refine ⟨fun pins s σ H Q I hw => ?_⟩
  refine thn (h.run pins s σ H _ I hw) fun v s1 ⟨x, H1, I1, r, d, u, ex, hd, mu, q⟩ => ?_
  obtain ⟨od, I2⟩ := I1.lock hd mu
  exact ⟨x, _, I2, r, q od⟩
theorem PSs.prelock {X : Cx} {sts : List Stmt} {t : TS} (h : PSs X sts t) : PSs X sts (fun D σ H => ∃ d u, H d = some u ∧ Mut (some u) ∧ ∀ od, t D σ (upd H d (.frz od u))) := by
  refine ⟨fun pins s σ H D I hw => ?_⟩
  obtain ⟨d, u, hd, mu, q⟩ := hw
  obtain ⟨od, I2⟩ := I.lock hd mu
  exact h.run pins s σ _ D I2 (q od)
/-- {} that nothing is put into -/
def fDic0 : SE := fun _ _ S => .ok (.d (.dict [])) S
end
end Q

namespace Q
open PySem PySem.Spec PyProof.Rows L2
section
variable {P : Program} {w : World} {A : Around} {E : Value → Shared → Prop} {s : Shared}
/-- what set() lays -/
abbrev setO0 (w : World) : Obj := { cls := .type "set", dict := none, data := .set #[] 0 (.fresh 0 0 (!w.params.followText "set-order")) }
/-- the walk over the list, behind the empty set -/
theorem set_fill {l : Addr} {items : Array Value} {ns : List Int} {R : Result → Shared → Prop} {o : Obj} (hh : A.handled = none) (hlt : l < s.heap.objs.size) (hl : (s.heap.push (setO0 w)).IsList l items) (hi : IntsAre items.toList ns) (hb : ns.length + 1 < scanBound)
    (ho : o = { cls := .type "list_iterator", data := .fields #[.ref l, .int 0 0] })
    (done : ∀ (h' : Heap) (tk c : Nat), SetR w h' s.heap.objs.size (fun j => decide (j ∈ ns)) c → (∀ b ob, s.heap.get? b = some ob → h'.get? b = some ob) → R (.ok (.ret .none)) { s with heap := h', toks := tk }) :
    codeAny (model P w) A (.builtin "set.update.loop" ⟨[.ref s.heap.objs.size, .ref (s.heap.objs.size + 1)], []⟩) R { s with heap := (s.heap.push (setO0 w)).push o } := by
  have hz : (s.heap.push (setO0 w)).objs.size = s.heap.objs.size + 1 := Heap.size_push ..
  have hsz : items.size = ns.length := by
    rw [← hi.length, Array.length_toList]
  have ln : l ≠ s.heap.objs.size + 1 := Nat.ne_of_lt (Nat.lt_succ_of_lt hlt)
  subst ho
  have W := (Walks.list (prog := P) (w := w) (A := A.in1) (by simpa using hh) (s.heap.objs.size + 1) l ln items).toS
  refine set_update_ints W s.heap.objs.size (by simp only [List.mem_cons, List.not_mem_nil, or_false, not_or]; exact ⟨Nat.ne_of_lt (Nat.lt_succ_self _), Nat.ne_of_gt hlt⟩) ns hsz hb (fun i v hv => ?_) _ 0 _ rfl (Nat.zero_le _) ⟨⟨{ cls := .type "list_iterator", data := .fields #[.ref l, .int 0 0] }, ?_, rfl, rfl⟩, hl.push _⟩ ⟨0, Nat.le_refl 0, setR_new_at (Heap.get?_push_of_some _ (Heap.get?_push_size _ rfl))⟩ fun s' c hm _ hS => ?_
  · have hlt2 : i < ns.length := by
      rw [← hsz]
      exact (Array.getElem?_eq_some_iff.mp hv).1
    obtain ⟨t, e⟩ := IntsAre.int_at hi i v (by rw [Array.getElem?_toList]; exact hv)
    exact ⟨ns.getD i 0, t, by simp [List.getD_eq_getElem?_getD, hlt2], e⟩
  · rw [← hz]
    exact Heap.get?_push_size _ rfl
  · cases s' with
    | mk h' g d tk os =>
      have e1 := hm.gens
      have e2 := hm.drawn
      have e3 := hm.os
      simp only at e1 e2 e3
      cases e1
      cases e2
      cases e3
      refine done h' tk c hS fun b ob e => ?_
      have hlb : b < s.heap.objs.size := Heap.lt_size e
      exact hm.heap b ob (by simp only [List.mem_cons, List.not_mem_nil, or_false, not_or]; exact ⟨Nat.ne_of_lt hlb, Nat.ne_of_lt (Nat.lt_succ_of_lt hlb)⟩) (Heap.get?_push_of_some _ (Heap.get?_push_of_some _ e))
/-- set(l) of a list of whole numbers: a set whose table is known -/
theorem call_setL {l : Addr} {items : Array Value} {ns : List Int} {Q : Value → Shared → Prop} (hh : A.handled = none) (hl : s.heap.IsList l items) (hi : IntsAre items.toList ns) (hb : ns.length + 1 < scanBound)
    (done : ∀ (h' : Heap) (tk c : Nat), SetR w h' s.heap.objs.size (fun j => decide (j ∈ ns)) c → (∀ b ob, s.heap.get? b = some ob → h'.get? b = some ob) → Q (.ref s.heap.objs.size) { s with heap := h', toks := tk }) :
    wpAny (model P w) A (call (.type "set") [.ref l]) Q E s := by
  have made := F.called_set.made
  have subs := F.called_set.sub
  have noT := F.called_set.notType
  have can := F.called_set.canCreate
  have typ := F.typeCall_set_1 (.ref l)
  obtain ⟨mc, mt, mro⟩ := F.called_set.mro
  refine wpAny_call (codeAny_of_tree ?_)
  refine show wpAny _ _ (callAny (.type "set") ⟨[.ref l], []⟩) _ _ _ from wpAny_pure ⟨Code.quiet_builtin _ (by decide +kernel), codeAny_builtin F.entry_type_call ?_⟩
  rw [Around.under_plain (weight_type_call_type "set" [.ref l] []) rfl]
  repeat (any_goals (first | assumption | wp_step))
  refine codeAny_mono (code_set_led1 (.ref l) (E := E) (Q₁ := fun v u => v = .ref s.heap.objs.size ∧ u = { s with heap := s.heap.push (setO0 w) }) ⟨rfl, rfl⟩) fun res u hu => ?_
  match res, hu with
  | .error x, hx => exact hx
  | .ok (.ret v), hv =>
    obtain ⟨rfl, rfl⟩ := hv
    have here : (s.heap.push (setO0 w)).get? s.heap.objs.size = some (setO0 w) := Heap.get?_push_size _ rfl
    have isS : Shared.TypeIs { s with heap := s.heap.push (setO0 w) } (.ref s.heap.objs.size) "set" := ⟨_, here, rfl⟩
    have look := F.called_set.init.lookup
    have bound := F.called_set.init.bind (.ref s.heap.objs.size)
    repeat (any_goals (first | assumption | wp_step))
    refine codeAny_mono (codeAny_call_builtin (R := wants (fun v u => v = .none ∧ ∃ h' tk c, u = { s with heap := h', toks := tk } ∧ SetR w h' s.heap.objs.size (fun j => decide (j ∈ ns)) c ∧ ∀ b ob, s.heap.get? b = some ob → h'.get? b = some ob) E) F.called_set.init.plain F.entry_set_init (check_set_init_1 isS ?_)) fun res2 u2 hu2 => ?_
    · have lists := F.sub_list_set
      have listf := F.sub_list_frozenset
      have nodict : (Value.type "list" == Value.type "dict") = false := by decide
      cases hl with
      | intro ol hol =>
        obtain ⟨hget, hcl, nl, hdl⟩ := hol
        cases ol with
        | mk cls dict data slots =>
          simp only at hcl hdl
          subst hcl
          subst hdl
          have hlt : l < s.heap.objs.size := Heap.lt_size hget
          have hget' : (s.heap.push (setO0 w)).get? l = some { cls := .type "list", dict := dict, data := .seq items nl, slots := slots } := Heap.get?_push_of_some _ hget
          have hl' : (s.heap.push (setO0 w)).IsList l items := ⟨_, hget', rfl, nl, rfl⟩
          unfold Builtin.«set.__init__» noKeywords Builtin.Frozenset.updateFrom
          generalize hIt : pyIter = it
          wp_walk
          subst hIt
          have hsz : (s.heap.push (setO0 w)).objs.size = s.heap.objs.size + 1 := Heap.size_push ..
          refine wpAny_pyIter_list hl' ?_
          refine wpAny_bind (wpAny_runValue ?_)
          rw [hsz]
          refine set_fill (items := items) (ns := ns) (by simp [hh]) hlt hl' hi hb rfl fun h' tk c hS keep => ?_
          refine wpAny_pure (wpAny_pure ⟨rfl, h', tk, c, rfl, hS, keep⟩)
    · match res2, hu2 with
      | .error x, hx => exact hx
      | .ok (.ret v), hv =>
        obtain ⟨rfl, h', tk, c, rfl, hS, keep⟩ := hv
        repeat (any_goals (first | assumption | wp_step))
        exact done h' tk c hS keep
      | .ok .next, hx => exact hx.elim
      | .ok .brk, hx => exact hx.elim
      | .ok .cont, hx => exact hx.elim
  | .ok .next, hx => exact hx.elim
  | .ok .brk, hx => exact hx.elim
  | .ok .cont, hx => exact hx.elim
end
end Q

namespace Q
open PySem PySem.Spec PyProof.Rows L2
theorem once_nodup (val : Nat → Int) : ∀ n, (firstMet val n).Nodup
  | 0 => by rw [firstMet_zero]; exact List.nodup_nil
  | n + 1 => by
    rw [firstMet_succ]
    unfold step_dedup
    have ih := once_nodup val n
    split
    · exact ih
    · rename_i h
      rw [List.nodup_append]
      refine ⟨ih, by simp, fun a ha b hb e => ?_⟩
      simp at hb
      subst hb
      subst e
      apply h
      rw [List.any_eq_true]
      exact ⟨_, ha, by simp⟩
theorem mem_once {ns : List Int} {k : Int} : k ∈ onceI ns ↔ k ∈ ns := by
  have h := firstMet_any (fun i => ns.getD i 0) ns.length k
  have e1 : (onceI ns).any (· == k) = true ↔ k ∈ onceI ns := by
    rw [List.any_eq_true]
    constructor
    · rintro ⟨x, hx, e⟩
      have : x = k := by simpa using e
      exact this ▸ hx
    · intro h
      exact ⟨k, h, by simp⟩
  rw [← e1]
  unfold onceI
  rw [h, List.any_eq_true]
  constructor
  · rintro ⟨x, hx, e⟩
    obtain ⟨i, hi, rfl⟩ := List.mem_map.mp hx
    have hl : i < ns.length := List.mem_range.mp hi
    have : ns[i] = k := by simpa [List.getD_eq_getElem?_getD, hl] using e
    exact this ▸ List.getElem_mem hl
  · intro h
    obtain ⟨i, hi⟩ := List.getElem?_of_mem h
    have hl := (List.getElem?_eq_some_iff.mp hi).1
    exact ⟨k, List.mem_map.mpr ⟨i, List.mem_range.mpr hl, by simp [hi]⟩, by simp⟩
theorem sort_lt {ns : List Int} (h : ns.Nodup) : (sortI ns).Pairwise (· < ·) := by
  have h2 : (sortI ns).Nodup := (sortI_perm ns).nodup_iff.mpr h
  exact ((sortI_pw ns).and h2).imp fun ⟨a, b⟩ => by omega
theorem rise_eq {l m : List Int} (h1 : l.Pairwise (· < ·)) (h2 : m.Pairwise (· < ·)) (h : ∀ i, i ∈ l ↔ i ∈ m) : l = m :=
  List.Perm.eq_of_pairwise (fun a b _ _ h h' => by omega) h1 h2 (by
    rw [List.perm_ext_iff_of_nodup (h1.imp fun h => by omega) (h2.imp fun h => by omega)]
    exact h)
/-- what sorted(set(ns)) tells -/
def sortS (ns : List Int) : List Int := sortI (onceI ns)
theorem sortS_eq {ns os : List Int} (h1 : os.Pairwise (· < ·)) (h2 : ∀ k, k ∈ os ↔ k ∈ ns) : os = sortS ns :=
  rise_eq h1 (sort_lt (once_nodup _ _)) fun k => by
    rw [h2]
    unfold sortS
    rw [(sortI_perm _).mem_iff, mem_once]
theorem sortS_pw (ns : List Int) : (sortS ns).Pairwise (· < ·) := sort_lt (once_nodup _ _)
theorem mem_sortS {ns : List Int} {k : Int} : k ∈ sortS ns ↔ k ∈ ns := by
  unfold sortS
  rw [(sortI_perm _).mem_iff, mem_once]
section
variable {X : Cx} {cf : CF} {EX : WX} {e : Expr} {fa : SE} {p p2 q pos : Pos}
end
end Q

namespace Q
open PySem PySem.Spec PyProof.Rows L2
section
variable {prog : Program} {w : World} {A : Around} {E : Value → Shared → Prop} {s : Shared}
theorem adjust_rev (n : Nat) : Builtin.Slice.sliceAdjust none none (-1) (n : Int) = ((n : Int) - 1, -1) := by
  unfold Builtin.Slice.sliceAdjust
  simp
theorem places_rev (n : Nat) : Builtin.Slice.slicePlaces ((n : Int) - 1) (-1) (-1) = n := by
  unfold Builtin.Slice.slicePlaces
  simp only [show ¬ ((-1 : Int) > 0) by decide, if_false]
  split
  · rw [show -(-1 : Int) = 1 by decide, Int.ediv_one]
    omega
  · omega
theorem applied_rev {sl : Addr} {vs : Value} {n : Nat} {Q : Int × Int × Nat → Shared → Prop} (hs : s.heap.IsSliceOf sl .none .none vs) (ps : IsPart vs (some (-1))) (h : Q ((n : Int) - 1, -1, n) s) : wpAny (model prog w) A (Builtin.Slice.sliceApplied (.ref sl) (pure (n : Int))) Q E s := by
  obtain ⟨os, hos, hcs, hds⟩ := id hs
  unfold Builtin.Slice.sliceApplied Builtin.Slice.sliceFields
  refine wpAny_bind (wpAny_bind (wpAny_field hos hds (x := .none) rfl (wpAny_bind (wpAny_field hos hds (x := .none) rfl (wpAny_bind (wpAny_field hos hds (x := vs) rfl (wpAny_pure ?_)))))))
  refine wpAny_bind (HT.slicePart_ ps ?_)
  show wpAny _ _ (if ((-1 : Int) == 0) = true then _ else _) _ _ s
  rw [if_neg (by decide)]
  refine wpAny_bind (HT.slicePart_ .none (wpAny_bind (HT.slicePart_ .none (wpAny_bind (wpAny_pure ?_)))))
  show wpAny _ _ (match Builtin.Slice.sliceAdjust none none (-1) (n : Int) with | (lo, hi) => pure (lo, (-1 : Int), Builtin.Slice.slicePlaces lo hi (-1))) _ _ s
  rw [adjust_rev]
  show wpAny _ _ (pure ((n : Int) - 1, (-1 : Int), Builtin.Slice.slicePlaces ((n : Int) - 1) (-1) (-1))) _ _ s
  rw [places_rev]
  exact wpAny_pure h
theorem fm_congr {α β : Type} {f g : α → Option β} : ∀ {l : List α}, (∀ x ∈ l, f x = g x) → l.filterMap f = l.filterMap g
  | [], _ => rfl
  | x :: l, h => by
    rw [List.filterMap_cons, List.filterMap_cons, h x (by simp), fm_congr (l := l) fun y hy => h y (by simp [hy])]
theorem pick_rev (xs : Array Value) : ((List.range xs.size).filterMap fun (m : Nat) => xs[(((xs.size : Int) - 1) + (m : Int) * (-1)).toNat]?).toArray = xs.toList.reverse.toArray := by
  congr 1
  have e : ((List.range xs.size).filterMap fun (m : Nat) => xs[(((xs.size : Int) - 1) + (m : Int) * (-1)).toNat]?) = ((List.range xs.size).map fun k => xs.size - 1 - k).filterMap (xs[·]?) := by
    rw [List.filterMap_map]
    apply fm_congr
    intro m hm
    have hm : m < xs.size := by simpa using hm
    show xs[(((xs.size : Int) - 1) + (m : Int) * (-1)).toNat]? = xs[xs.size - 1 - m]?
    congr 1
    omega
  rw [e, PySem.W.krv_range, List.filterMap_reverse, PySem.W.krv_all]
theorem getItem_tuple_rev {t sl : Addr} {items : Array Value} {vs : Value} {Q : Value → Shared → Prop} (ht : IsTup s.heap t items) (hs : s.heap.IsSliceOf sl .none .none vs) (ps : IsPart vs (some (-1)))
    (h : Q (.ref s.heap.objs.size) { s with heap := s.heap.push { cls := .type "tuple", data := .seq items.toList.reverse.toArray } })
    (hsz : items.size ≤ sizeLine) : wpAny (model prog w) A (getItem (.ref t) (.ref sl)) Q E s := by
  have htake : sizeOk (.seq items.toList.reverse.toArray) := by
    show items.toList.reverse.toArray.size ≤ sizeLine
    rw [List.size_toArray, List.length_reverse, Array.length_toList]
    exact hsz
  obtain ⟨os, hos, hcs, hds⟩ := id hs
  have hTs : s.TypeIs (.ref sl) "slice" := ⟨os, hos, hcs⟩
  unfold getItem
  try with_reducible refine wpAny_holding ?_
  first | refine wpAny_bind (wpAny_pure ?_) | skip
  refine wpAny_bind (wpAny_sequenceKey ht.typeIs (by decide) ?_)
  refine wpAny_bind (wpAny_callSpecial?_slot (name := Str.ofString "__getitem__") ht.typeIs PyProof.Rows.slot_tuple_getitem
    (wpAny_call_entry PyProof.Rows.slot_tuple_getitem ht.typeIs entry_tuple_getitem ?_ (args_tuple_getitem _ _)))
  show wpAny _ _ (Builtin.Tuple.tupleItemsOf (.ref t) >>= _) _ _ s
  refine wpAny_bind (tupleItemsOf_ ht ?_)
  refine wpAny_bind (wpAny_typeOf hTs ?_)
  rw [if_pos (by decide)]
  refine wpAny_bind (applied_rev hs ps ?_)
  have hno : ¬ ((((items.size : Int) - 1) == 0 && (-1 : Int) == 1 && items.size == items.size) = true) := by
    intro q
    rw [Bool.and_eq_true, Bool.and_eq_true] at q
    exact absurd q.1.2 (by decide)
  show wpAny _ _ (if (((items.size : Int) - 1) == 0 && (-1 : Int) == 1 && items.size == items.size) = true then _ else _) _ _ s
  rw [if_neg hno, pick_rev]
  first
    | exact wpAny_bind (m := Builtin.Tuple.tupleExact _) (wpAny_newObj_type (wpAny_pure ⟨_, rfl, wpAny_pure h⟩) htake)
    | exact wpAny_bind (m := Builtin.Tuple.tupleExact _) (wpAny_newObj_type (wpAny_bind (wpAny_pure (wpAny_pure ⟨_, rfl, wpAny_pure h⟩))) htake)
    | exact wpAny_bind (wpAny_bind (m := Builtin.Tuple.tupleExact _) (wpAny_newObj_type (wpAny_pure (wpAny_pure ⟨_, rfl, wpAny_pure h⟩)) htake))
    | exact wpAny_bind (wpAny_bind (m := Builtin.Tuple.tupleExact _) (wpAny_newObj_type (wpAny_pure ⟨_, rfl, wpAny_pure h⟩) htake))
end
/-- x[::-1], a list or a tuple -/
def tRevA (K : PySem.W.Frag) (te : TE) : TE := fun σ H Q => te σ H fun x H1 => ∃ a xs, x = .ref a ∧ ((SqL K H1 a xs ∧ ∀ p, H1 p = none → Q (.ref p) (upd H1 p (.lst xs.reverse))) ∨ (SqT K H1 a xs ∧ ∀ p, H1 p = none → Q (.ref p) (upd H1 p (.tup xs.reverse))))
theorem pe_revA {X : Cx} {e : Expr} {te : TE} {k : Nat} {p1 p2 p3 pos : Pos} (he : PE X e te) : PE X (.Subscript e (.Slice none none (some (.UnaryOp .USub (.Constant (.int 1) k p1) p2)) p3) pos) (tRevA X.K te) := by
  refine ⟨fun pins s σ H Q I h => ?_⟩
  refine Subscript_ (thn (he.run pins s σ H _ I h) fun v s1 ⟨x, H1, I1, r1, q1⟩ => ?_)
  obtain ⟨a, xs, ex, q⟩ := q1
  subst ex
  cases r1
  have hst : PO X (some (.UnaryOp .USub (.Constant (.int 1) k p1) p2)) (tPart (tUn (rU fun i => .int (-i)) (tC (.int 1)))) := po_some (pe_un un_neg pe_int)
  refine wpAny_Slice (thn (po_none.run pins s1 σ H1 (fun o H2 => o = none ∧ H2 = H1) I1 ⟨rfl, rfl⟩) fun vl s2 ⟨l, H2, I2, pl, el, e2⟩ => ?_)
  subst el e2
  refine thn (po_none.run pins s2 σ H2 (fun o H3 => o = none ∧ H3 = H2) I2 ⟨rfl, rfl⟩) fun vu s3 ⟨u, H3, I3, pu, eu, e3⟩ => ?_
  subst eu e3
  refine thn (hst.run pins s3 σ H3 (fun o H4 => o = some (-1) ∧ H4 = H3) I3 ⟨1, rfl, -1, rfl, rfl, rfl⟩) fun vs s4 ⟨o, H4, I4, ps, eo, e4⟩ => ?_
  subst eo e4
  have I5 : Inv X pins σ H4 { s4 with heap := s4.heap.push { cls := .type "slice", data := .fields #[vl, vu, vs] } } := I4.kept (t' := s4.toks) fun b ob q => Heap.get?_push_of_some _ q
  cases pl
  cases pu
  show wpAny (model X.prog X.w) X.A (subscriptTail e (.Slice none none (some (.UnaryOp .USub (.Constant (.int 1) k p1) p2)) p3) (.ref a) (.ref s4.heap.objs.size)) (EP X pins σ Q) X.xe { s4 with heap := s4.heap.push { cls := .type "slice", data := .fields #[.none, .none, vs] } }
  rcases q with ⟨hx, q⟩ | ⟨hx, q⟩
  · obtain ⟨its, r, ht, hz⟩ := I5.list hx
    have hlen := r.length
    refine tail_any (ops := [.ref a, .ref s4.heap.objs.size]) ht.isList.typeIs (PySem.slot_list_getitem.lookup) ?_ (by with_unfolding_all rfl)
    refine wpAny_getItem_list_slice ht.isList (Heap.IsSliceOf.new _ .none .none vs) .none .none ps (by decide) ?_ (by rw [List.size_toArray]; omega)
    rw [PySem.W.krv_pick]
    refine ⟨.ref _, _, I5.laid (t' := s4.toks) (o := .lst xs.reverse) (fun b ob q => Heap.get?_push_of_some _ q) (Nat.le_refl _) ?_, rfl, q _ (I5.hok.fresh (Nat.le_refl _))⟩
    exact ⟨by rw [List.length_reverse]; exact hz, _, 0, r.reverse, Heap.get?_push_size _ rfl⟩
  · obtain ⟨its, r, ht, hz⟩ := I5.tuple hx
    have hlen := r.length
    refine tail_any (ops := [.ref a, .ref s4.heap.objs.size]) ht.typeIs (PyProof.Rows.slot_tuple_getitem.lookup) ?_ (by with_unfolding_all rfl)
    refine getItem_tuple_rev ht (Heap.IsSliceOf.new _ .none .none vs) ps ?_ (by rw [List.size_toArray]; omega)
    refine ⟨.ref _, _, I5.laid (t' := s4.toks) (o := .tup xs.reverse) (fun b ob q => Heap.get?_push_of_some _ q) (Nat.le_refl _) ?_, rfl, q _ (I5.hok.fresh (Nat.le_refl _))⟩
    exact ⟨by rw [List.length_reverse]; exact hz, _, r.reverse, IsTup.new _ _⟩
def fRev (f : SE) : SE := fun cf env S => (f cf env S).bind fun w S1 => match w with
  | .d (.list xs) => .ok (.d (.list xs.reverse)) S1
  | .d (.tuple xs) => .ok (.d (.tuple xs.reverse)) S1
  | _ => .stuck
theorem me_rev {X : Cx} {cf : CF} {EX : WX} {e : Expr} {fa : SE} {k : Nat} {p1 p2 p3 pos : Pos} (h : ME X cf EX e fa) : ME X cf EX (.Subscript e (.Slice none none (some (.UnaryOp .USub (.Constant (.int 1) k p1) p2)) p3) pos) (fRev fa) :=
  PE.weak (pe_revA h) fun σ H Q ⟨env, S, μ, F, s, q⟩ => ⟨env, S, μ, F, s, (Post.bind q).mono fun w S1 H1 μ1 s1 x1 q1 v rv => by
    split at q1
    · obtain ⟨a, us, rfl, na, ha, ta⟩ := rw_lst rv
      exact ⟨a, us, rfl, .inl ⟨SqL.of ha, fun p n => post_lst s1 ta.reverse q1 n⟩⟩
    · obtain ⟨a, us, rfl, ha, ta⟩ := rw_tup rv
      exact ⟨a, us, rfl, .inr ⟨ha.sq, fun p n => post_tup (α := Unit) s1 ta.reverse q1 n⟩⟩
    · exact q1.elim⟩
end Q

namespace Q
open PySem PySem.Spec PyProof.Rows L2
section
variable {prog : Program} {w : World} {A : Around} {E : Value → Shared → Prop} {s : Shared}
end
section
variable {prog : Program} {w : World} {A : Around} {E : Value → Shared → Prop} {s : Shared}
end
section
variable {X : Cx} {cf : CF} {EX : WX} {K : PySem.W.Frag} {H : Hp} {N : Addr → Prop} {e e2 : Expr} {ha : SA} {p pos tpos kp kp2 : Pos} {elts : List Expr} {kk ck : Nat}
def iZipS (a : SA) : SI := fun cf env S => (a cf env S).bind fun ws S1 => match ws with
  | [.d (.tuple xs), .d (.tuple ys)] => if xs.length = ys.length then .ok (zipD xs ys) S1 else .stuck
  | _ => .stuck
end
end Q

namespace Q
open PySem PySem.Spec PyProof.Rows L2
/-- lo, lo + c, .. : n of them -/
def rangeC (lo c : Int) (n : Nat) : List D := (List.range n).map fun k : Nat => PyData.int (lo + k * c)
def rng3 (i j c : Int) : Option (List D) := if c ≠ 0 ∧ Nat.ble c.natAbs 1073741823 = true ∧ Builtin.Range.small i j c = true ∧ 0 ≤ Builtin.Range.rangeSize i j c then some (rangeC i c (Builtin.Range.rangeSize i j c).toNat) else none
def iRange3 (a : SA) : SI := fun cf env S => (a cf env S).bind fun ws S1 => match ws with
  | [.d (.int i), .d (.int j), .d (.int c)] => (match rng3 i j c with | some ds => .ok ds S1 | none => .stuck)
  | _ => .stuck
section
variable {X : Cx} {cf : CF} {EX : WX} {tg e : Expr} {fa : SE} {ha : SA} {p p2 pos q : Pos}
def fLstRg (f : SE) : SE := fun cf env S => (f cf env S).bind fun w S1 => match w with
  | .d (.int n) => if inR n && decide (n ≤ 16777216) then .ok (.d (.list (rangeD 0 n.toNat))) S1 else .stuck
  | _ => .stuck
def fTupRg (f : SE) : SE := fun cf env S => (f cf env S).bind fun w S1 => match w with
  | .d (.int n) => if inR n && decide (n ≤ 16777216) then .ok (.d (.tuple (rangeD 0 n.toNat))) S1 else .stuck
  | _ => .stuck
end
end Q

namespace Q
open PySem PySem.Spec PyProof.Rows L2
theorem obsQ_eq {n : Nat} {fa : List He.Fa} {fn : List He.DefD} {ex : PySem.W.Frag → Bool} {g : Addr → Option Obj} {s : Shared} (h : ∀ a, g a = s.heap.get? a) : obsQ n fa fn ex g = (hookQ n fa fn ex).obs s := by
  have e : g = s.heap.get? := funext h
  rw [e] <;> rfl
end Q

namespace Q
open PySem PySem.Spec PyProof.Rows L2

/-- a def: how many parameters, how many names, its body -/
structure FD where
  n : Nat
  slots : Nat
  body : SS
abbrev Tab := String → Option FD
def fin : RS → R W
  | .ret w S => .ok w S
  | .next _ S => .ok (.d .none) S
  | .exc c _ S => .exc c S
  | _ => .stuck
def startQ (m : Nat) (ws : List W) : EnvQ := ws.map some ++ List.replicate (m - ws.length) none
def callQ (T : Tab) : Nat → CF
  | 0 => fun _ _ _ => .stuck
  | k + 1 => fun x ws S => match T x with
    | none => .stuck
    | some d => if ws.length = d.n ∧ W.plains ws = true then fin (d.body (callQ T k) (startQ d.slots ws) S) else .stuck
section
variable {P : Program} {w : World} {K : PySem.W.Frag} {mg : Str → Option Value} {base : Heap} {T : Tab} {k : Nat}
theorem plains_get : ∀ {ws : List W} {i : Nat} {u : W}, W.plains ws = true → ws[i]? = some u → u.plain = true
  | [], _, _, _, h => by simp at h
  | x :: xs, 0, u, p, h => by
    simp at h
    subst h
    simp only [W.plains, Bool.and_eq_true] at p
    exact p.1
  | x :: xs, i + 1, u, p, h => by
    simp only [W.plains, Bool.and_eq_true] at p
    exact plains_get p.2 (by simpa using h)
theorem startQ_get {m : Nat} {ws : List W} {i : Nat} {u : W} (h : (startQ m ws)[i]? = some (some u)) : ws[i]? = some u := by
  unfold startQ at h
  by_cases hi : i < ws.length
  · rw [List.getElem?_append_left (by simpa using hi), List.getElem?_map] at h
    cases e : ws[i]? with
    | none => rw [e] at h; cases h
    | some a => rw [e] at h; cases h; rfl
  · rw [List.getElem?_append_right (by simpa using hi), List.getElem?_replicate] at h
    split at h <;> cases h
theorem start_get {N : List Str} {vs : List V} {i : Nat} {v : V} (h : vs[i]? = some v) : (start N vs)[i]? = some (some v) := by
  unfold L2.start
  have hi : i < vs.length := (List.getElem?_eq_some_iff.mp h).1
  rw [List.getElem?_append_left (by simpa using hi), List.getElem?_map, h]
  rfl
/-- a def's body at its entry -/
theorem body_start {F : Addr → Prop} {N : List Str} {H : Hp} {S : Sto} {μ : List Addr} {vs : List V} {ws : List W} {Q : VK} {E : XK} {r : RS} (sr : SimR K mg F H S μ) (rv : RWs K mg H (NR F μ) μ vs ws) (pl : W.plains ws = true) (hN : vs.length ≤ N.length) :
    Sim K mg F (start N vs) H (startQ N.length ws) S μ ∧ (PostR K mg F H μ (fin r) Q E → PostS K mg (fun c d _ H => E c d H) F (start N vs) (startQ N.length ws) H μ r { nx := fun _ H' => Q .non H', rt := Q }) := by
  have no : ∀ i a, ¬ OwnAt (start N vs) (startQ N.length ws) i a := fun i a ⟨_, u, h, o⟩ => by
    have p := plains_get pl (startQ_get h)
    rw [fine_own o] at p
    cases p
  have mm : ∀ a, MM μ (start N vs) (startQ N.length ws) a ↔ a ∈ μ := fun a => ⟨fun h => h.elim id fun ⟨i, h⟩ => (no i a h).elim, .inl⟩
  have nn : ∀ a, NN F μ (start N vs) (startQ N.length ws) a → NR F μ a := fun a h => h.elim (fun h => .inl ((mm a).mp h)) .inr
  have sim : Sim K mg F (start N vs) H (startQ N.length ws) S μ := by
    refine ⟨?_, fun i u h => ?_, fun i u h => ?_, fun i j a h _ => (no i a h).elim, fun i a h => (no i a h).elim, sr.st.sub nn, sr.ftr, fun a f h => sr.fdis a f ((mm a).mp h)⟩
    · unfold L2.start startQ
      simp [rv.length]
    · obtain ⟨v, hv, r⟩ := rv.get (startQ_get h)
      exact ⟨v, start_get hv, RW.sub nn r⟩
    · unfold W.fine
      rw [plains_get pl (startQ_get h), Bool.true_or]
  refine ⟨sim, fun q => ?_⟩
  have back : ∀ {σ' : L2.St} {env' : EnvQ} {H' : Hp} {S' : Sto} {μ' : List Addr}, Sim K mg F σ' H' env' S' μ' → ExS (start N vs) (startQ N.length ws) H μ σ' env' H' μ' → SimR K mg F H' S' μ' ∧ ExR H μ H' μ' := fun s' x => by
    obtain ⟨sr', k'⟩ := s'.leave
    exact ⟨sr', ⟨fun a o na e => (x.keep.trans k') a o (fun h => na ((mm a).mp h)) e, x.pre⟩⟩
  cases r with
  | next e S' =>
    intro σ' H' μ' s' x
    obtain ⟨sr', x'⟩ := back s' x
    exact q .non H' μ' sr' x' (.d .non)
  | brk e S' => exact q.elim
  | cont e S' => exact q.elim
  | ret u S' =>
    intro v H' μ' sr' k' p' rv'
    exact q v H' μ' sr' ⟨fun a o na e => k' a o (fun h => na ((mm a).mp h)) e, p'⟩ rv'
  | exc c e S' =>
    intro C σ' H' μ' g s' x
    obtain ⟨sr', x'⟩ := back s' x
    exact q C H' μ' g sr' x'
  | stuck => exact q.elim
/-- a def of the text -/
structure DQ (K : PySem.W.Frag) (mg : Str → Option Value) (x y z : String) (params : Arguments) (body : List Stmt) (scope : Scope) (N ps : List Str) (f : Addr) (fd : FuncData) : Prop where
  F : FunD K (Str.ofString y) (Str.ofString z) params body scope [] [] f fd
  S : FnScope N ps scope
  g : mg (Str.ofString x) = some (.ref f)
  b : Binds K fd ps []
theorem fn_zero {x y z : String} {params : Arguments} {body : List Stmt} {scope : Scope} {N ps : List Str} {f : Addr} {fd : FuncData} (d : DQ K mg x y z params body scope N ps f fd) : FnQ P w K mg base (callQ T 0) 0 x ps.length :=
  ⟨f, fd, ps, ⟨fun vs H Q E h => h.1, fun A outer s H args us vs Q E hg hr he hb hv h => by
    obtain ⟨_, ws, S, μ, F, _, _, _, q⟩ := h
    exact q.elim⟩, d.g, d.F.kp, d.b, rfl⟩
theorem fn_succG {x y z : String} {params : Arguments} {body : List Stmt} {scope : Scope} {N ps : List Str} {f : Addr} {fd : FuncData} {D : FD} (d : DQ K mg x y z params body scope N ps f fd) (hT : T x = some D) (hn : D.n = ps.length) (hs : D.slots = N.length) (hl : ps.length ≤ N.length)
    (h : ∀ (cdv : Value) (A : Around) (outer : List Env) (s : Shared) (H : Hp) (E : XK), A.guards = some [] → Room k (A.deeper (envOfC (Str.ofString z) scope s.heap.objs.size f cdv)) →
      MSs (cxOf (L2.CX P w) P w K mg base N (Str.ofString z) scope f cdv A outer s H E) (callQ T k) (fun c d _ H => E c d H) body D.body) : FnG P w K mg base (L2.CX P w) (k + 1) f fd ps (SpQ K mg (callQ T (k + 1)) x ps.length) := by
  refine ok_G d.F d.S (fun vs H Q E h => h.1) fun cdv A outer s H vs Q E hg hr hsp => ⟨_, h cdv A outer s H E hg hr, ?_⟩
  obtain ⟨hlen, ws, S, μ, F, sr, rv, pl, q⟩ := hsp
  have e : callQ T (k + 1) x ws S = fin (D.body (callQ T k) (startQ D.slots ws) S) := by
    show (match T x with | none => R.stuck | some d => if ws.length = d.n ∧ W.plains ws = true then fin (d.body (callQ T k) (startQ d.slots ws) S) else .stuck) = _
    rw [hT]
    exact if_pos ⟨by rw [hn, ← hlen, rv.length], pl⟩
  rw [e, hs] at q
  obtain ⟨s1, q1⟩ := body_start (N := N) (Q := Q) (E := E) (r := D.body (callQ T k) (startQ N.length ws) S) sr rv pl (by omega)
  exact ⟨_, S, μ, F, s1, q1 q⟩
theorem fn_succ {x y z : String} {params : Arguments} {body : List Stmt} {scope : Scope} {N ps : List Str} {f : Addr} {fd : FuncData} {D : FD} (d : DQ K mg x y z params body scope N ps f fd) (hT : T x = some D) (hn : D.n = ps.length) (hs : D.slots = N.length) (hl : ps.length ≤ N.length)
    (h : ∀ (cdv : Value) (A : Around) (outer : List Env) (s : Shared) (H : Hp) (E : XK), A.guards = some [] → Room k (A.deeper (envOfC (Str.ofString z) scope s.heap.objs.size f cdv)) →
      MSs (cxOf (L2.CX P w) P w K mg base N (Str.ofString z) scope f cdv A outer s H E) (callQ T k) (fun c d _ H => E c d H) body D.body) : FnQ P w K mg base (callQ T (k + 1)) (k + 1) x ps.length :=
  ⟨f, fd, ps, fn_succG d hT hn hs hl h, d.g, d.F.kp, d.b, rfl⟩
theorem only_scr {H : Hp} {a : Addr} {xs : List V} (h : SqL K H a xs) : RdF K H (NR (fun _ => False) []) a xs := by
  rcases h with h | h
  · exact .inl ⟨fun z => z.elim (fun z => by cases z) id, h⟩
  · exact .inr (.inr h)
theorem law_sp {x : String} (law : ∀ ns : List Int, ns.length ≤ 63 → ∃ S', callQ T k x [.scr ns] [] = .ok (.d (.bool true)) S') (H : Hp) (a : Addr) (ns : List Int) (hl : ns.length ≤ 63) (hO : Only H) (hS : SqL K H a (ns.map V.int)) :
    SpQ K mg (callQ T k) x 1 [.ref a] H (fun v _ => v = .bl true) fun _ _ _ => False := by
  obtain ⟨S', e⟩ := law ns hl
  refine ⟨rfl, [.scr ns], [], [], fun _ => False, ⟨⟨rfl, .nil, fun n o h => by simp at h⟩, fun _ h => h.elim, fun _ h => h.elim⟩, .cons (.scr (only_scr hS)) .nil, rfl, ?_⟩
  rw [e]
  intro v H' μ' _ _ rv
  exact rw_bl rv
end
end Q

namespace Q
open PySem PySem.Spec PyProof.Rows L2
section
variable {X : Cx} {cf : CF} {EX : WX} {k n : Nat} {p pos : Pos} {e : Expr} {es : List Expr} {ff : SE} {ha : SA} {t : TA} {tf : TE} {x : Str} {ys : List String}
/-- the call of what a name holds: one of these defs -/
def fCallV (ff : SE) (n : Nat) (ys : List String) (a : SA) : SE := fun cf env S => (ff cf env S).bind fun w S1 => match w with
  | .fn y => if y ∈ ys then (a cf env S1).bind fun ws S2 => arity n ws (cf y ws S2) else .stuck
  | _ => .stuck
@[simp] theorem x_callV {env : EnvQ} {S : Sto} (ff : SE) (n : Nat) (ys : List String) (a : SA) : fCallV ff n ys a cf env S = (ff cf env S).bind fun w S1 => match w with
  | .fn y => if y ∈ ys then (a cf env S1).bind fun ws S2 => arity n ws (cf y ws S2) else .stuck
  | _ => .stuck := rfl
end
end Q

namespace Q
open PySem PySem.Spec PyProof.Rows L2
def max2 (i j : Int) : Int := if i < j then j else i
def min2 (i j : Int) : Int := if j < i then j else i
def gMax3 : GN
  | [.d (.int i), .d (.int j), .d (.int l)], S => .ok (.d (.int (max2 (max2 i j) l))) S
  | _, _ => .stuck
def gMin3 : GN
  | [.d (.int i), .d (.int j), .d (.int l)], S => .ok (.d (.int (min2 (min2 i j) l))) S
  | _, _ => .stuck
section
variable {X : Cx} {cf : CF} {EX : WX} {e : Expr} {es : List Expr} {ha : SA} {p pos : Pos}
@[simp] theorem g_max3 (i j l : Int) (S : Sto) : gMax3 [.d (.int i), .d (.int j), .d (.int l)] S = .ok (.d (.int (max2 (max2 i j) l))) S := rfl
@[simp] theorem g_min3 (i j l : Int) (S : Sto) : gMin3 [.d (.int i), .d (.int j), .d (.int l)] S = .ok (.d (.int (min2 (min2 i j) l))) S := rfl
end
end Q

namespace Q
open PySem PySem.Spec PyProof.Rows L2
/-- what is handed in by names stands in the def's own order -/
def byIx {α : Type} (z : α) (idx : List Nat) (xs : List α) : List α := idx.map fun i => xs.getD i z
section
variable {X : Cx} {cf : CF} {k n : Nat} {f : Addr} {fd : FuncData} {ps ks : List Str} {idx : List Nat} {sp : Sp} {EX : WX} {x : Str} {p pos kpos : Pos} {kws : List Keyword} {t : TA} {e : Expr} {fa : SE} {ha : SA} {nm : Option Str}
theorem PK.weak {t' : TA} (h : PK X kws t) (w : ∀ σ H Q, t' σ H Q → t σ H Q) : PK X kws t' := ⟨fun pos pins s σ H Q I q => h.run pos pins s σ H Q I (w σ H Q q)⟩
def fCallK (x : String) (m : Nat) (idx : List Nat) (a : SA) : SE := fun cf env S => (a cf env S).bind fun ws S1 => if ws.length = m ∧ W.plains ws = true then cf x (byIx (.d .none) idx ws) S1 else .stuck
end
section
variable {P : Program} {w : World} {K : PySem.W.Frag} {mg : Str → Option Value} {base : Heap} {k : Nat} {T : Tab} {ks : List Str} {idx : List Nat} {x y z : String} {params : Arguments} {body : List Stmt} {scope : Scope} {N ps : List Str} {f : Addr} {fd : FuncData}
end
@[simp] theorem x_callK (x : String) (m : Nat) (idx : List Nat) (a : SA) (cf : CF) (env : EnvQ) (S : Sto) : fCallK x m idx a cf env S = (a cf env S).bind fun ws S1 => if ws.length = m ∧ W.plains ws = true then cf x (byIx (.d .none) idx ws) S1 else .stuck := rfl
end Q

namespace Q
open PySem PySem.Spec PyProof.Rows L2
section
variable {X : Cx} {pins : List (Addr × Obj)} {σ : L2.St} {H : Hp} {s : Shared} {N : Addr → Prop} {cf : CF} {EX : WX} {e : Expr} {ha : SA} {p pos : Pos}
end
end Q

namespace Q
open PySem PySem.Spec PyProof.Rows L2
section
variable {X : Cx} {cf : CF} {EX : WX}
/-- == where one side is () or [] -/
def gEqZ : G2
  | .d (.tuple xs), .d (.tuple []), S => .ok (.d (.bool xs.isEmpty)) S
  | .d (.list xs), .d (.list []), S => .ok (.d (.bool xs.isEmpty)) S
  | x, y, S => gEq x y S
@[simp] theorem g_eqZT (xs : List D) (S : Sto) : gEqZ (.d (.tuple xs)) (.d (.tuple [])) S = .ok (.d (.bool xs.isEmpty)) S := rfl
@[simp] theorem g_eqZL (xs : List D) (S : Sto) : gEqZ (.d (.list xs)) (.d (.list [])) S = .ok (.d (.bool xs.isEmpty)) S := rfl
@[simp] theorem x_dic0 (cf : CF) (env : EnvQ) (S : Sto) : fDic0 cf env S = .ok (.d (.dict [])) S := rfl
end
end Q

namespace Q
open PySem PySem.Spec PyProof.Rows L2
theorem asIndex_int {M : Model} {A : Around} {E : Value → Shared → Prop} {s : Shared} {k : Int} {u : Tok} {Q : Int → Shared → Prop} (q : Q k s) : wpAny M A (asIndex (.int k u)) Q E s := by
  have e : asIndex (.int k u) = pure k := by rfl
  rw [e]
  exact wpAny_pure q
theorem tuple_mul0 {prog : Program} {w : World} {A : Around} {E : Value → Shared → Prop} {s : Shared} {l : Addr} {items : Array Value} {k : Int} {u : Tok} {Q : PySem.Fin → Shared → Prop} (ht : IsTup s.heap l items) (hk : k ≤ 0) (hk2 : ¬ k < -2 ^ 63) (hne : items.isEmpty = false)
    (q : Q (.done (.ret (.ref s.heap.objs.size))) { s with heap := s.heap.push { cls := .type "tuple", data := .seq #[] } }) : wpAny (model prog w) A (Builtin.«tuple.__mul__» ⟨[.ref l, .int k u], []⟩) Q E s := by
  show wpAny _ _ (asIndex (.int k u) >>= _) _ _ _
  refine wpAny_bind (asIndex_int ?_)
  have h1 : (decide (k < -2 ^ 63) || decide (k ≥ 2 ^ 63)) = false := by simp; omega
  have h2 : (items.isEmpty || k == 1) = false := by rw [hne]; simp; omega
  have h3 : (decide (k ≤ 0) || items.isEmpty) = true := by simp [hk]
  simp only [h1]
  show wpAny _ _ (Builtin.Tuple.tupleItemsOf (.ref l) >>= _) _ _ _
  refine wpAny_bind (tupleItemsOf_ ht ?_)
  simp only [h2, h3]
  show wpAny _ _ (newTuple [] >>= _) _ _ _
  refine wpAny_bind (wpAny_newTuple ?_)
  exact wpAny_pure q
def rRep0 (K : PySem.W.Frag) : R2 := fun x y H Q => ∃ l k xs, x = .ref l ∧ y = .int k ∧ SqT K H l xs ∧ xs ≠ [] ∧ k ≤ 0 ∧ -1000 ≤ k ∧ ∀ p, H p = none → Q (.ref p) (upd H p (.tup []))
section
variable {X : Cx} {cf : CF} {EX : WX}
theorem op_rep0 : OpR X (binaryOp .Mult) (rRep0 X.K) := by
  rintro pins s σ H x y v u Q I rx ry ⟨l, k, xs, rfl, rfl, hT, hne, h0, h1, q⟩
  cases rx
  obtain ⟨t, rfl⟩ := ry
  obtain ⟨its, r, e, hl⟩ := I.tuple hT
  have hits : its ≠ [] := fun z => by subst z; cases r; exact hne rfl
  have hie : its.toArray.isEmpty = false := by cases its with | nil => exact absurd rfl hits | cons => rfl
  have ty : s.TypeIs (.ref l) "tuple" := e.typeIs
  obtain ⟨⟨cls, dd, data, sl⟩, ho, hc, n, hd⟩ := e
  cases hc
  cases hd
  refine wpAny_binaryOp_repeat_ref (T := "tuple") (U := "int") (id := "tuple.__mul__") (idr := "int.__rmul__") (by decide) ty (fun s' => by first | rfl | exact ⟨⟩ | trivial) noFill_tuple_mul PySem.F.fills_int_mul PySem.F.slot_int_rmul repeat_tuple PySem.int_index ?_
  refine PySem.call_meets PySem.F.slot_int_rmul (by first | rfl | exact ⟨⟩ | trivial) PySem.F.entry_int_rmul (PySem.F.args_int_rmul_2 _ _) (int_rmul_tuple k t l its.toArray n dd sl) ⟨ho, rfl, ty, ?_⟩
  refine PySem.call_meets (S := fun A R s' => s' = s ∧ R (.ok (.ret (.ref s.heap.objs.size))) { s with heap := s.heap.push { cls := .type "tuple", data := .seq #[] } }) PySem.F.slot_tuple_mul ty PySem.F.entry_tuple_mul (PySem.F.args_tuple_mul_2 _ _) ?_ ⟨rfl, ?_⟩
  · intro prog w A R s' ⟨e, h⟩
    subst e
    exact tuple_mul0 ⟨_, ho, rfl, n, rfl⟩ h0 (by omega) hie h
  · refine ⟨.ref s.heap.objs.size, upd H s.heap.objs.size (.tup []), I.laid (t' := s.toks) (fun b u e => Heap.get?_push_of_some _ e) (Nat.le_refl _) ?_, rfl, q _ I.fresh⟩
    exact ⟨Nat.zero_le _, [], .nil, ⟨_, Heap.get?_push_size _ rfl, rfl, _, rfl⟩⟩
variable {a b : Expr} {fa fb : SE} {pos : Pos}
/-- a tuple so often, as none too -/
def gMul0 : G2
  | .d (.tuple xs), .d (.int k), S => if k ≤ 0 then (if xs ≠ [] ∧ -1000 ≤ k then .ok (.d (.tuple [])) S else .stuck) else gMul2 (.d (.tuple xs)) (.d (.int k)) S
  | x, y, S => gMul2 x y S
theorem o_mul0 : Op X EX (fun x y H Q => rRep0 X.K x y H Q ∨ ((rI CMul fun i j => .int (i * j)) x y H Q ∨ rRep x y H Q ∨ rRepT X.K x y H Q)) gMul0 := by
  intro F σ env S H μ x y w u Q s rx pw ry pu q
  unfold gMul0 at q
  split at q
  · split at q
    · rename_i h0
      split at q
      · rename_i h
        obtain ⟨a, vs, rfl, ha, ta⟩ := rw_tup rx
        rw [rw_int ry]
        refine .inl ⟨a, _, vs, rfl, rfl, ha.sq, fun e => h.1 ?_, h0, h.2, fun p n => post_tup (α := Unit) s DnAll.nil q n⟩
        subst e
        cases ta
        rfl
      · exact q.elim
    · exact .inr (o_mul F σ env S H μ x y _ _ Q s rx rfl ry rfl q)
  · exact .inr (o_mul F σ env S H μ x y w u Q s rx pw ry pu q)
end
end Q

namespace Q
open PySem PySem.Spec PyProof.Rows L2
theorem tuple_mul1 {prog : Program} {w : World} {A : Around} {E : Value → Shared → Prop} {s : Shared} {l : Addr} {items : Array Value} {k : Int} {u : Tok} {Q : PySem.Fin → Shared → Prop} (ht : IsTup s.heap l items) (hk : k ≤ 1000) (hk2 : ¬ k < -2 ^ 63) (hne : (items.isEmpty || k == 1) = true)
    (q : Q (.done (.ret (.ref l))) s) : wpAny (model prog w) A (Builtin.«tuple.__mul__» ⟨[.ref l, .int k u], []⟩) Q E s := by
  show wpAny _ _ (asIndex (.int k u) >>= _) _ _ _
  refine wpAny_bind (asIndex_int ?_)
  have h1 : (decide (k < -2 ^ 63) || decide (k ≥ 2 ^ 63)) = false := by simp; omega
  simp only [h1]
  show wpAny _ _ (Builtin.Tuple.tupleItemsOf (.ref l) >>= _) _ _ _
  refine wpAny_bind (tupleItemsOf_ ht ?_)
  simp only [hne]
  show wpAny _ _ (Builtin.Tuple.tupleIsExact (.ref l) >>= _) _ _ _
  refine wpAny_bind ?_
  obtain ⟨o, ho, hc, n, hd⟩ := ht
  unfold Builtin.Tuple.tupleIsExact
  refine wpAny_bind (wpAny_typeOf_ref ho ?_)
  rw [hc]
  refine wpAny_pure ?_
  show wpAny _ _ (rule _ >>= _) _ _ _
  refine wpAny_bind (wpAny_rule ?_)
  exact wpAny_pure q
def rRep1 (K : PySem.W.Frag) : R2 := fun x y H Q => ∃ l k xs, x = .ref l ∧ y = .int k ∧ SqT K H l xs ∧ (xs = [] ∨ k = 1) ∧ k ≤ 1000 ∧ -1000 ≤ k ∧ Q (.ref l) H
section
variable {X : Cx} {cf : CF} {EX : WX}
theorem op_rep1 : OpR X (binaryOp .Mult) (rRep1 X.K) := by
  rintro pins s σ H x y v u Q I rx ry ⟨l, k, xs, rfl, rfl, hT, hne, h0, h1, q⟩
  cases rx
  obtain ⟨t, rfl⟩ := ry
  obtain ⟨its, r, e, hl⟩ := I.tuple hT
  have hie : (its.toArray.isEmpty || k == 1) = true := by
    rcases hne with hne | hne
    · subst hne
      cases r
      rfl
    · subst hne
      simp
  have ty : s.TypeIs (.ref l) "tuple" := e.typeIs
  obtain ⟨⟨cls, dd, data, sl⟩, ho, hc, n, hd⟩ := e
  cases hc
  cases hd
  refine wpAny_binaryOp_repeat_ref (T := "tuple") (U := "int") (id := "tuple.__mul__") (idr := "int.__rmul__") (by decide) ty (fun s' => by first | rfl | exact ⟨⟩ | trivial) noFill_tuple_mul PySem.F.fills_int_mul PySem.F.slot_int_rmul repeat_tuple PySem.int_index ?_
  refine PySem.call_meets PySem.F.slot_int_rmul (by first | rfl | exact ⟨⟩ | trivial) PySem.F.entry_int_rmul (PySem.F.args_int_rmul_2 _ _) (int_rmul_tuple k t l its.toArray n dd sl) ⟨ho, rfl, ty, ?_⟩
  refine PySem.call_meets (S := fun A R s' => s' = s ∧ R (.ok (.ret (.ref l))) s) PySem.F.slot_tuple_mul ty PySem.F.entry_tuple_mul (PySem.F.args_tuple_mul_2 _ _) ?_ ⟨rfl, ?_⟩
  · intro prog w A R s' ⟨e, h⟩
    subst e
    exact tuple_mul1 ⟨_, ho, rfl, n, rfl⟩ h0 (by omega) hie h
  · exact ⟨.ref l, H, I, rfl, q⟩
variable {a b : Expr} {fa fb : SE} {pos : Pos}
/-- a tuple so often -/
def gMulA : G2
  | .d (.tuple xs), .d (.int k), S => if xs.isEmpty || k == 1 then (if -1000 ≤ k ∧ k ≤ 1000 then .ok (.d (.tuple xs)) S else .stuck) else gMul0 (.d (.tuple xs)) (.d (.int k)) S
  | x, y, S => gMul2 x y S
theorem o_mulA : Op X EX (fun x y H Q => rRep1 X.K x y H Q ∨ (rRep0 X.K x y H Q ∨ ((rI CMul fun i j => .int (i * j)) x y H Q ∨ rRep x y H Q ∨ rRepT X.K x y H Q))) gMulA := by
  intro F σ env S H μ x y w u Q s rx pw ry pu q
  unfold gMulA at q
  split at q
  · split at q
    · rename_i h0
      split at q
      · rename_i h
        obtain ⟨a, vs, rfl, ha, ta⟩ := rw_tup rx
        rw [rw_int ry]
        refine .inl ⟨a, _, vs, rfl, rfl, ha.sq, ?_, h.2, h.1, Post.ok q s (Ext.refl _ _ _ _) _ rx⟩
        rw [Bool.or_eq_true] at h0
        rcases h0 with h0 | h0
        · left
          have h2 := List.isEmpty_iff.mp h0
          subst h2
          cases ta
          rfl
        · exact .inr (by simpa using h0)
      · exact q.elim
    · exact .inr (o_mul0 F σ env S H μ x y _ _ Q s rx rfl ry rfl q)
  · exact .inr (.inr (o_mul F σ env S H μ x y w u Q s rx pw ry pu q))
theorem gp_mulA : ∀ w u S, w.plain = false ∨ u.plain = false → gMulA w u S = .stuck := by
  intro w u S h
  unfold gMulA
  split
  · simp [W.plain] at h
  · exact gp_mul _ _ _ h
theorem me_mulA (h1 : ME X cf EX a fa) (h2 : ME X cf EX b fb) : ME X cf EX (.BinOp a .Mult b pos) (fBin gMulA fa fb) :=
  me_bin (OpR.or op_rep1 (OpR.or op_rep0 (OpR.or op_mul (OpR.or op_rep op_repT)))) o_mulA gp_mulA h1 h2
end
end Q

namespace Q
open PySem PySem.Spec PyProof.Rows L2
section
variable {X : Cx} {cf : CF} {EX : WX}
end
end Q

namespace Q
open PySem PySem.Spec PyProof.Rows L2
section
variable {X : Cx} {cf : CF} {EX : WX}
end
end Q

namespace Q
open PySem PySem.Spec PyProof.Rows L2
section
variable {X : Cx} {cf : CF} {EX : WX} {a b c : Expr} {ha : SA} {p p2 pos q : Pos} {ta : TA}
def fLstRg3 (a : SA) : SE := fun cf env S => (a cf env S).bind fun ws S1 => match ws with
  | [.d (.int i), .d (.int j), .d (.int c)] => (match rng3 i j c with | some ds => if ds.length ≤ 16777216 then .ok (.d (.list ds)) S1 else .stuck | none => .stuck)
  | _ => .stuck
end
@[simp] theorem x_lstRg3 {cf : CF} {env : EnvQ} {S : Sto} (a : SA) : fLstRg3 a cf env S = (a cf env S).bind fun ws S1 => match ws with
  | [.d (.int i), .d (.int j), .d (.int c)] => (match rng3 i j c with | some ds => if ds.length ≤ 16777216 then .ok (.d (.list ds)) S1 else .stuck | none => .stuck)
  | _ => .stuck := rfl
end Q

namespace Q
open PySem PySem.Spec PyProof.Rows L2
def sAddO (i : Nat) (f : SE) : SS := fun cf env S => match env[i]? with
  | some (some (.own xs)) => (f cf env S).then env fun w S1 => (match w with
    | .d (.list ys) => if xs.length + ys.length ≤ LIM then .next (env.set i (some (.own (xs ++ ys)))) S1 else .stuck
    | _ => .stuck)
  | _ => .stuck
section
variable {X : Cx} {cf : CF} {EX : WX} {x : Str} {e : Expr} {fa : SE} {pos p1 pb pp : Pos}
end
@[simp] theorem y_addO {cf : CF} {env : EnvQ} {S : Sto} (i : Nat) (f : SE) : sAddO i f cf env S = (match env[i]? with
  | some (some (.own xs)) => (f cf env S).then env fun w S1 => (match w with
    | .d (.list ys) => if xs.length + ys.length ≤ LIM then .next (env.set i (some (.own (xs ++ ys)))) S1 else .stuck
    | _ => .stuck)
  | _ => .stuck) := rfl
end Q

namespace Q
open PySem PySem.Spec PyProof.Rows L2
section
variable {X : Cx} {cf : CF} {EX : WX} {e : Expr} {fa : SE} {p p2 q pos : Pos}
end
end Q

namespace Q
open PySem PySem.Spec PyProof.Rows L2
section
variable {X : Cx} {cf : CF} {EX : WX} {x : Str} {e e2 : Expr} {es : List Expr} {ha : SA} {p pos : Pos}
end
section
variable {cf : CF} {env : EnvQ} {S : Sto}
end
end Q

namespace Q
open PySem PySem.Spec PyProof.Rows L2
def flD : D → Bool
  | .none => true
  | .bool _ => true
  | .int _ => true
  | .str _ => true
  | _ => false
/-- the datum of a dict of one's own -/
def datK (kvs : List (Key × D)) : List (D × D) := kvs.map fun kv => (keyD kv.1, kv.2)
section
variable {K : PySem.W.Frag} {H : Hp} {N : Addr → Prop}
theorem fl_of {v : V} {d : D} (h : Dn K H N v d) (f : flD d = true) : Fl v d := by
  cases h <;> first | constructor | simp [flD] at f
theorem fl_dn {v : V} {d : D} (h : Fl v d) : Dn K H N v d := by cases h <;> constructor
theorem kvf_of : ∀ {vs : List (Key × V)} {kvs : List (Key × D)}, KvR K H N vs kvs → (kvs.all fun kv => flD kv.2) = true → KvF vs (datK kvs)
  | _, _, .nil, _ => .nil
  | _, _, .cons k h t, f => by
    simp only [List.all_cons, Bool.and_eq_true] at f
    exact .cons k (fl_of h f.1) (kvf_of t f.2)
theorem keyOfD_keyD (k : Key) : keyOfD (keyD k) = some k := by cases k <;> rfl
end
section
variable {X : Cx} {cf : CF} {EX : WX} {F : Addr → Prop} {σ : L2.St} {env : EnvQ} {S S' : Sto} {H H' : Hp} {μ μ' : List Addr} {K : PySem.W.Frag} {mg : Str → Option Value} {e c tg : Expr} {es : List Expr} {sts : List Stmt} {g : SS} {fa fb : SE} {pos p : Pos} {x : Str}
def sFreezeD (i : Nat) : SS := fun _ env S => match env[i]? with
  | some (some (.ownd kvs)) => if kvs.all (fun kv => flD kv.2) then .next (env.set i (some (.d (.dict (datK kvs))))) S else .stuck
  | _ => .stuck
theorem Sim.freezeD (s : Sim K mg F σ H env S μ) {i : Nat} {a : Addr} {od : Obj} {vs : List (Key × V)} {kvs : List (Key × D)} (e : env[i]? = some (some (.ownd kvs))) (hv : σ[i]? = some (some (.ref a))) (ha : H a = some (.dK vs)) (t : KvF vs (datK kvs)) :
    Sim K mg F σ (upd H a (.frz od (.dK vs))) (env.set i (some (.d (.dict (datK kvs))))) S μ ∧ ExS σ env H μ σ (env.set i (some (.d (.dict (datK kvs))))) (upd H a (.frz od (.dK vs))) μ := by
  have hl : i < env.length := (List.getElem?_eq_some_iff.mp e).1
  have oa : OwnAt σ env i a := ⟨hv, _, e, rfl⟩
  have ow : ∀ j b, OwnAt σ (env.set i (some (.d (.dict (datK kvs))))) j b → j ≠ i ∧ OwnAt σ env j b := fun j b ⟨h1, u, h2, h3⟩ => by
    rcases set_get h2 with ⟨z, y⟩ | ⟨n, z⟩
    · cases y
      simp [W.isOwn] at h3
    · exact ⟨n, h1, u, z, h3⟩
  have sub : ∀ b, MM μ σ (env.set i (some (.d (.dict (datK kvs))))) b → MM μ σ env b := fun b h => h.elim .inl fun ⟨j, h⟩ => .inr ⟨j, (ow j b h).2⟩
  have subN : ∀ b, NN F μ σ (env.set i (some (.d (.dict (datK kvs))))) b → NN F μ σ env b := fun b h => h.elim (fun h => .inl (sub b h)) .inr
  have kp : Keep (MM μ σ env) H (MM μ σ (env.set i (some (.d (.dict (datK kvs)))))) (upd H a (.frz od (.dK vs))) := fun b o nb q => by
    have ne : b ≠ a := fun z => nb (z ▸ .inr ⟨i, oa⟩)
    exact ⟨by rw [upd_ne ne]; exact q, fun h => nb (sub b h)⟩
  have kn : Keep (NN F μ σ env) H (NN F μ σ (env.set i (some (.d (.dict (datK kvs)))))) (upd H a (.frz od (.dK vs))) := fun b o nb q =>
    let z := kp b o (fun h => nb (.inl h)) q
    ⟨z.1, fun h => nb (subN b h)⟩
  have na : ¬ NN F μ σ (env.set i (some (.d (.dict (datK kvs))))) a := fun h => by
    rcases h with (h | ⟨k, h⟩) | h
    · exact s.apart i a oa h
    · exact (ow k a h).1 (s.inj k i a (ow k a h).2 oa)
    · exact s.fdis a h (.inr ⟨i, oa⟩)
  refine ⟨⟨by simpa using s.len, fun j u q => ?_, fun j u q => ?_, fun j k b h1 h2 => s.inj j k b (ow j b h1).2 (ow k b h2).2, fun j b h => s.apart j b (ow j b h).2, ⟨s.st.len, s.st.nd, fun k ob q => ?_⟩, fun b f => ?_, fun b f h => s.fdis b f (sub b h)⟩, kp, List.prefix_refl _⟩
  · rcases set_get q with ⟨z, y⟩ | ⟨n, z⟩
    · subst z
      cases y
      exact ⟨_, hv, .d (.dic na upd_same t)⟩
    · obtain ⟨v', h1, r⟩ := s.slot j u z
      refine ⟨v', h1, ?_⟩
      by_cases po : u.isOwn = true
      · obtain ⟨b, ob, rfl, hb, tb⟩ := own_or_plain r po
        have ne : b ≠ a := fun z' => n (s.inj j i a (by rw [← z']; exact ⟨h1, u, z, po⟩) oa)
        exact (tb.keep kn).rw (by rw [upd_ne ne]; exact hb)
      · have pl : u.plain = true := by
          have fi := s.fin j u z
          unfold W.fine at fi
          simpa [po] using fi
        exact RW.keep kn (List.prefix_refl _) r pl
  · rcases set_get q with ⟨z, y⟩ | ⟨n, z⟩
    · cases y
      rfl
    · exact s.fin j u z
  · obtain ⟨b, hb, r⟩ := s.st.obj k ob q
    have ne : b ≠ a := fun z => s.apart i a oa (z ▸ List.mem_of_getElem? hb)
    refine ⟨b, hb, ?_⟩
    cases r with
    | lst h t' => exact .lst (by rw [upd_ne ne]; exact h) (t'.keep kn)
    | ins g h m t' pl => exact .ins g (by rw [upd_ne ne]; exact h) m (RWs.keep kn (List.prefix_refl _) t' pl) pl
    | dct h t' => exact .dct (by rw [upd_ne ne]; exact h) fun e he => (t' e he).keep kn
  · obtain ⟨u, hu⟩ := s.ftr b f
    have ne : b ≠ a := fun z => s.fdis b f (.inr ⟨i, z ▸ oa⟩)
    exact ⟨u, by rw [upd_ne ne]; exact hu⟩
theorem mss_freezeD {i : Nat} (h : MSs X cf EX sts g) : MSs X cf EX sts (sSeq (sFreezeD i) g) := PSs.weak (PSs.prelock h) fun D σ H ⟨env, S, μ, F, s, q⟩ => by
  have z := PostS.seq q
  unfold sFreezeD at z
  split at z
  · rename_i kvs e0
    split at z
    · rename_i fl
      obtain ⟨v, hv, r⟩ := s.slot i _ e0
      cases r with
      | @ownd a vs _ ha ta =>
        refine ⟨a, _, ha, True.intro, fun od => ?_⟩
        obtain ⟨s2, x2⟩ := s.freezeD (od := od) e0 hv ha (kvf_of ta fl)
        obtain ⟨env', S', μ', s', q'⟩ := z _ _ _ s2 x2
        exact ⟨env', S', μ', F, s', q'⟩
    · exact z.elim
  · exact z.elim
def updV (kvs more : List (Key × V)) : List (Key × V) := more.foldl (fun a kv => putK a kv.1 kv.2) kvs
theorem updV_len : ∀ (more kvs : List (Key × V)), (updV kvs more).length ≤ kvs.length + more.length
  | [], kvs => by simp [updV]
  | kv :: more, kvs => by
    have h := updV_len more (putK kvs kv.1 kv.2)
    have := length_putK kvs kv.1 kv.2
    show (updV (putK kvs kv.1 kv.2) more).length ≤ _
    rw [List.length_cons]
    omega
theorem kv_merged : ∀ {more : List (Key × V)} {ms : List (Key × Value)} {kvs : List (Key × V)} {vs : List (Key × Value)}, KV kvs vs → KV more ms → KV (updV kvs more) (merged vs ms)
  | _, _, _, _, r, .nil => r
  | _, _, kvs, vs, r, .cons (a := a) (b := b) h t => by
    obtain ⟨k, v⟩ := a
    obtain ⟨k', u⟩ := b
    obtain ⟨h1, h2⟩ := h
    have h1 : k = k' := h1
    have h2 : RelV v u := h2
    subst h1
    show KV (updV (putK kvs k v) _) (merged (stored vs k u) _)
    exact kv_merged (r.put k h2) t
def rUpdD : V → List V → Hp → VK → Prop := fun x xs H Q => ∃ (d o : Addr) (od : Obj) (kvs more : List (Key × V)), x = .ref d ∧ xs = [.ref o] ∧ H d = some (.dK kvs) ∧ H o = some (.frz od (.dK more)) ∧ kvs.length + more.length ≤ sizeLine ∧ Q .non (upd H d (.dK (updV kvs more)))
theorem mt_updD : MtR X "dict.update" rUpdD := by
  intro pins s σ H x xs v us Q I rx rxs h
  obtain ⟨d, o, od, kvs, more, rfl, rfl, hd, ho, hz, q⟩ := h
  cases rx
  obtain ⟨u, rfl, r1⟩ := vals1 rxs
  cases r1
  obtain ⟨_, hs, vs, rel, dd⟩ := dk_of I.hok hd
  obtain ⟨_, hs2, ms, rel2, dd2⟩ := dk_rd I.hok (.inr ⟨od, ho⟩)
  have ne : d ≠ o := fun z => by
    rw [z, ho] at hd
    cases hd
  refine call_meetsIn PySem.F.slot_dict_update dd.typeIs PySem.F.entry_dict_update (PySem.F.args_dict_update_2 _ _) (meets_dict_update (mixKind X.prog X.w) d o ne hs2) ⟨vs, ms, dd, dd2, by rw [← rel.length, ← rel2.length]; exact hz, fun h' dd' _ hsb => ?_⟩
  have he : ∃ q, h'.get? d = some q := let ⟨q, _, _, hq, _⟩ := dd'; ⟨q, hq⟩
  exact ⟨.non, _, d_write (t' := s.toks) I (by rw [hd]; exact True.intro) hsb he (dk_new (Nat.le_trans (updV_len _ _) hz) hs (kv_merged rel rel2) dd'), rfl, q⟩
def updD (kvs : List (Key × D)) : List (D × D) → Option (List (Key × D))
  | [] => some kvs
  | (k, d) :: t => match keyOfD k with
    | some k' => updD (putD kvs k' d) t
    | none => none
theorem kvr_upd {N : Addr → Prop} : ∀ {ms : List (Key × V)} {ds : List (D × D)} {vs : List (Key × V)} {kvs r : List (Key × D)}, KvR K H N vs kvs → KvF ms ds → updD kvs ds = some r → KvR K H N (updV vs ms) r
  | _, _, _, _, _, h, .nil, e => by
    simp only [updD, Option.some.injEq] at e
    subst e
    exact h
  | _, _, vs, kvs, _, h, .cons (v := v) (vs := ms) k f t, e => by
    simp only [updD, keyOfD_keyD] at e
    show KvR K H N (updV (putK vs k v) ms) _
    exact kvr_upd (KvR.put (k := k) (fl_dn f) h) t e
theorem KvF.length : ∀ {vs : List (Key × V)} {ds : List (D × D)}, KvF vs ds → vs.length = ds.length
  | _, _, .nil => rfl
  | _, _, .cons _ _ t => congrArg (· + 1) (KvF.length t)
def sUpd (i : Nat) (f : SE) : SS := fun cf env S => match env[i]? with
  | some (some (.ownd kvs)) => (f cf env S).then env fun w S' => match w with
    | .d (.dict ds) => (match updD kvs ds with
      | some r => if kvs.length + ds.length ≤ LIM then .next (env.set i (some (.ownd r))) S' else .stuck
      | none => .stuck)
    | _ => .stuck
  | _ => .stuck
theorem ms_upd {i : Nat} {p1 p2 : Pos} (hv : PE X (.Name x p1) (tVar i)) (h : ME X cf EX e fa)
    (hbase : attributeBase (.Name x p1) "update" X.env (eval (.Name x p1) X.env) = eval (.Name x p1) X.env := by rfl)
    (hfew : ((backTo p (starEach (e :: []) X.env)).all (fun x => !x.1) && (backToKw p (keywordEach [] X.env)).all (fun x => x.1.isSome) && decide ((e :: []).length + ([] : List Keyword).length + (if ([] : List Keyword).isEmpty then 0 else 1) < 30)) = true := by rfl)
    (hline : (p2.endLine == p.line) = true := by rfl) (hst : starEach (e :: []) X.env = (false, eval e X.env) :: starEach [] X.env := by rfl) (hplain : (backTo p (starEach [] X.env)).any (·.1) = false := by rfl)
    (hs : swapsWith (.Call (.Attribute (.Name x p1) "update" p2) [e] [] p) none pos.line X.env = pure false := by rfl) :
    MS X cf EX (.Expr (.Call (.Attribute (.Name x p1) "update" p2) [e] [] p) pos) (sUpd i fa) := by
  refine PS.weak (ps_expr (pe_bm PySem.F.plainAttrs_dict PySem.F.slot_dict_update PySem.F.type_dict_update mt_updD hv (pa_cons h pa_nil hst) hbase hfew hline hst hplain) hs) fun D σ H ⟨env, S, μ, F, s, q⟩ => ?_
  unfold sUpd at q
  split at q
  · rename_i kvs e0
    obtain ⟨v, hv0, r⟩ := s.slot i _ e0
    cases r with
    | ownd ha ta =>
      refine ⟨_, hv0, .inr (.inr (.inl ⟨rfl, .inl ⟨_, ha⟩⟩)), env, S, μ, F, s, (PostS.expr q).mono fun w S1 H1 μ1 s1 x1 q1 v rv => ?_⟩
      split at q1
      · split at q1
        · rename_i r hr
          split at q1
          · rename_i hz
            obtain ⟨v', hv1, r1⟩ := s1.slot i _ e0
            rw [hv0] at hv1
            cases hv1
            cases r1 with
            | ownd ha1 ta1 =>
              cases rv with
              | d rd =>
                cases rd with
                | @dic b ob ms _ nb hb fb =>
                  refine ⟨_, b, ob, _, ms, rfl, rfl, ha1, hb, by rw [← lim_line, ta1.length, fb.length]; exact hz, ?_⟩
                  obtain ⟨s2, x2⟩ := s1.chOwnG (i := i) e0 rfl hv0 (.dct (kvr_upd ta1 fb hr)) rfl
                  exact q1 _ _ μ1 s2 x2
          · exact q1.elim
        · exact q1.elim
      · exact q1.elim
  · exact q.elim
/-- a list, a tuple, a dict (its keys) -/
def iSeqD (f : SE) : SI := fun cf env S => (f cf env S).bind fun w S1 => match w with
  | .d (.list xs) => .ok xs S1
  | .d (.tuple xs) => .ok xs S1
  | .d (.dict ds) => .ok (ds.map (·.1)) S1
  | _ => .stuck
theorem kvf_get : ∀ {vs : List (Key × V)} {ds : List (D × D)} {i : Nat} {d : D}, KvF vs ds → (ds.map (·.1))[i]? = some d → ∃ k v, vs[i]? = some (k, v) ∧ d = keyD k
  | _, _, _, _, .nil, e => by simp at e
  | _, _, 0, _, .cons k _ _, e => by simp at e; subst e; exact ⟨k, _, rfl, rfl⟩
  | _, _, i + 1, d, .cons _ _ t, e => by
    obtain ⟨k, v, h1, h2⟩ := kvf_get (i := i) (d := d) t (by simpa using e)
    exact ⟨k, v, by simpa using h1, h2⟩
theorem dn_key {N : Addr → Prop} (k : Key) : Dn K H N (kV k) (keyD k) := by cases k <;> constructor
theorem iter_dict {a : Addr} {o : Obj} {vs : List (Key × V)} {ds : List (D × D)} {N : Addr → Prop} (na : ¬ N a) (ha : H a = some (.frz o (.dK vs))) (t : KvF vs ds) : IterOf K (Itk a o vs) (ds.map (·.1)) N H := fun N2 H2 k tr i => by
  have h2 := (k a _ na ha).1
  refine ⟨fun e => ⟨h2, by rw [t.length, e, List.length_map]; exact Nat.le_refl _⟩, fun d hd => ?_⟩
  obtain ⟨kk, v, hv, rfl⟩ := kvf_get t hd
  refine ⟨⟨h2, (List.getElem?_eq_some_iff.mp hv).1⟩, fun w H3 y => ?_⟩
  obtain ⟨e3, k', v', hv', rfl⟩ := y
  subst e3
  rw [hv] at hv'
  cases hv'
  exact ⟨Same.refl _, dn_key kk⟩
theorem pi_seqD {l : Expr} {tl : TE} (hl : PE X l tl) : PI X tg l (fun σ H R => tl σ H fun x H1 => ∃ a, x = .ref a ∧ (((∃ xs, SqL X.K H1 a xs) ∧ R (Itl X.K a) H1) ∨ ((∃ xs, SqT X.K H1 a xs) ∧ R (Itt X.K a) H1) ∨ ∃ o kvs, H1 a = some (.frz o (.dK kvs)) ∧ R (Itk a o kvs) H1)) := by
  constructor
  intro pins s σ H R I h
  apply thn (hl.run pins s σ H _ I h)
  rintro v s1 ⟨x, H1, I1, r1, a, rfl, q⟩
  cases r1
  have fr : ∀ b, b ∈ [s1.heap.objs.size] → FpOk X pins H1 b := fun b hb => by
    rw [List.mem_singleton] at hb
    rw [hb]
    exact I1.fpOk (Nat.le_refl _) (I1.hok.fresh (Nat.le_refl _))
  rcases q with ⟨⟨xs, hq⟩, q⟩ | ⟨⟨xs, hq⟩, q⟩ | ⟨o, kvs, hd, q⟩
  · obtain ⟨its, rv, p, hz⟩ := I1.list hq
    apply wpAny_pyIter_list p.isList
    exact ⟨_, _, _, _, H1, rfl, I1.kept (t' := s1.toks) fun b o e => Heap.get?_push_of_some _ e, turn_list a _, ⟨_, Heap.get?_push_size _ rfl, rfl, rfl⟩, fr, q⟩
  · obtain ⟨its, rv, p, hz⟩ := I1.tuple hq
    apply wpAny_pyIter_tuple (show s1.heap.IsTuple a its.toArray from p)
    exact ⟨_, _, _, _, H1, rfl, I1.kept (t' := s1.toks) fun b o e => Heap.get?_push_of_some _ e, turn_tuple a _, ⟨_, Heap.get?_push_size _ rfl, rfl, rfl⟩, fr, q⟩
  · obtain ⟨hs, hgd, hx, es, ep, vs, hdt, hsz, kv, hm⟩ := I1.frzK hd
    refine iter_keys hs hgd hx hdt (pi_one (tk := s1.toks) I1 _ (turn_keys _ hdt) ⟨_, Heap.get?_push_size _ rfl, rfl, ?_⟩ q)
    rw [hsz] <;> rfl
theorem mi_seqD (h : ME X cf EX e fa) : MI X cf EX tg e (iSeqD fa) :=
  PI.weak (pi_seqD h) fun σ H R ⟨env, S, μ, F, s, q⟩ => ⟨env, S, μ, F, s, (Post.bind q).mono fun w S1 H1 μ1 s1 x1 q1 v rv => by
    split at q1
    · obtain ⟨a, vs, rfl, na, h1, t1⟩ := rw_lst rv
      exact ⟨a, rfl, .inl ⟨⟨vs, SqL.of h1⟩, q1 H1 μ1 s1 (Ext.refl _ _ _ _) _ (iter_list (fun N2 H2 k => SqL.of (k a _ na h1).1) t1 fun _ _ _ _ => True.intro)⟩⟩
    · obtain ⟨a, vs, rfl, h1, t1⟩ := rw_tup rv
      exact ⟨a, rfl, .inr (.inl ⟨⟨vs, h1.sq⟩, q1 H1 μ1 s1 (Ext.refl _ _ _ _) _ (iter_tup h1 t1)⟩)⟩
    · cases rv with
      | d rd =>
        cases rd with
        | dic na ha fa => exact ⟨_, rfl, .inr (.inr ⟨_, _, ha, q1 H1 μ1 s1 (Ext.refl _ _ _ _) _ (iter_dict na ha fa)⟩)⟩
    · exact q1.elim⟩
end
end Q

namespace Q
open PySem PySem.Spec PyProof.Rows L2
def keysOfD : List D → Option (List Key)
  | [] => some []
  | d :: ds => match keyOfD d, keysOfD ds with | some k, some ks => some (k :: ks) | _, _ => none
def addK (ks : List Key) (k : Key) : List Key := if (ks.any fun j => decide (j = k)) = true then ks else ks ++ [k]
def onceK (ks : List Key) : List Key := ks.foldl addK []
def trueD (ks : List Key) : List (D × D) := ks.map fun k => (keyD k, .bool true)
def trueV (ks : List Key) : List (Key × V) := ks.map fun k => (k, .bl true)
theorem kvf_true : ∀ (ks : List Key), KvF (trueV ks) (trueD ks)
  | [] => .nil
  | k :: ks => .cons k (.bl true) (kvf_true ks)
theorem put_true (ks : List Key) (k : Key) : putK (trueV ks) k (.bl true) = trueV (addK ks k) := by
  unfold putK addK trueV
  have e : ((ks.map fun k => ((k, V.bl true) : Key × V)).any fun kv => decide (kv.1 = k)) = ks.any fun j => decide (j = k) := by
    rw [List.any_map]; rfl
  rw [e]
  split
  · rw [List.map_map]
    refine List.map_congr_left fun j _ => ?_
    simp only [Function.comp]
    split <;> simp_all
  · rw [List.map_append]; rfl
theorem addK_len (ks : List Key) (k : Key) : (addK ks k).length ≤ ks.length + 1 := by
  unfold addK
  split
  · omega
  · simp
def fDComp (vs : List Nat) (t : Tg) (it : SI) (c : ST) (f : SE) : SE := fun cf env S => if vs.all (notOwn env) then (it cf env S).bind fun ds S1 => (compL t (c cf) (f cf) (wipeE env vs) ds S1).bind fun xs S2 => if xs.length ≤ LIM then (match keysOfD xs with
  | some ks => .ok (.d (.dict (trueD (onceK ks)))) S2
  | none => .stuck) else .stuck else .stuck
theorem keysOfD_app : ∀ {xs ys : List D} {ks : List Key}, keysOfD (xs ++ ys) = some ks → ∃ k1 k2, keysOfD xs = some k1 ∧ keysOfD ys = some k2 ∧ ks = k1 ++ k2
  | [], ys, ks, h => ⟨[], ks, rfl, h, rfl⟩
  | x :: xs, ys, ks, h => by
    simp only [List.cons_append, keysOfD] at h
    split at h
    · rename_i k ks' h1 h2
      obtain ⟨k1, k2, e1, e2, rfl⟩ := keysOfD_app h2
      cases h
      exact ⟨k :: k1, k2, by simp [keysOfD, h1, e1], e2, rfl⟩
    · cases h
theorem onceK_snoc (ks : List Key) (k : Key) : onceK (ks ++ [k]) = addK (onceK ks) k := by unfold onceK; rw [List.foldl_append]; rfl
theorem onceK_len : ∀ (ks : List Key), (onceK ks).length ≤ ks.length := by
  intro ks
  have h : ∀ (ks a : List Key), (ks.foldl addK a).length ≤ a.length + ks.length := by
    intro ks
    induction ks with
    | nil => intro a; simp
    | cons k ks ih =>
      intro a
      have := ih (addK a k)
      have := addK_len a k
      simp only [List.foldl_cons, List.length_cons]
      omega
  have := h ks []
  simpa [onceK] using this
theorem keysOfD_len : ∀ {xs : List D} {ks : List Key}, keysOfD xs = some ks → ks.length = xs.length
  | [], ks, h => by simp only [keysOfD, Option.some.injEq] at h; subst h; rfl
  | x :: xs, ks, h => by
    simp only [keysOfD] at h
    split at h
    · rename_i k ks' h1 h2
      cases h
      simp [keysOfD_len h2]
    · cases h
theorem keysOfD_snoc {zs : List D} {k1 : List Key} {z : D} {k : Key} (h : keysOfD zs = some k1) (hz : keyOfD z = some k) : keysOfD (zs ++ [z]) = some (k1 ++ [k]) := by
  induction zs generalizing k1 with
  | nil =>
    simp only [keysOfD, Option.some.injEq] at h
    subst h
    simp [keysOfD, hz]
  | cons x xs ih =>
    simp only [keysOfD] at h
    split at h
    · rename_i a b h1 h2
      cases h
      simp [keysOfD, h1, ih h2]
    · cases h
section
variable {X : Cx} {cf : CF} {EX : WX} {F : Addr → Prop} {σ : L2.St} {env : EnvQ} {S S' : Sto} {H H' : Hp} {μ μ' : List Addr} {K : PySem.W.Frag} {mg : Str → Option Value} {e c tg : Expr} {es : List Expr} {fa fb : SE} {pos p : Pos} {x : Str}
/-- the reading of a dict comprehension -/
theorem comp_readD {t : Tg} {it : SI} {cc : ST} {ff fv : SE} {vs : List Nat} (hv : ∀ cf env S, fv cf env S = .ok (.d (.bool true)) S) (hsl : ∀ i ∈ t.slots, i ∈ vs)
    (σ : L2.St) (H : Hp) (Q : VK) (q : tE X.K X.mg cf EX (fDComp vs t it cc ff) σ H Q) : tDc (tI X.K X.mg cf EX it) (tG X.K X.mg t) (tT X.K X.mg cf EX0 cc) (tE X.K X.mg cf EX0 ff) (tE X.K X.mg cf EX0 fv) vs σ H
      (fun v H1 => ∃ d u, v = .ref d ∧ H1 d = some u ∧ Mut (some u) ∧ ∀ od, Q v (upd H1 d (.frz od u))) := by
  obtain ⟨env, S, μ, F, s, q⟩ := q
  unfold fDComp at q
  split at q
  · rename_i no
    have no : ∀ i ∈ vs, notOwn env i = true := fun i hi => List.all_eq_true.mp no i hi
    refine ⟨env, S, μ, F, s, (Post.bind q).mono fun ds S1 H1 μ1 s1 x1 q1 J hJ D nD => ?_⟩
    have fD : ¬ F D := fun h => by
      obtain ⟨u, hu⟩ := s1.ftr D h
      rw [nD] at hu
      cases hu
    -- what is left to do behind the keys zs
    generalize hPP : (fun (zs : List PyData) (ds : List PyData) (S' : Sto) => Post X.K X.mg EX F σ env H1 μ1 ((compL t (cc cf) (ff cf) (wipeE env vs) ds S').bind fun xs S2 => if (zs ++ xs).length ≤ LIM then (match keysOfD (zs ++ xs) with | some ks => R.ok (.d (.dict (trueD (onceK ks)))) S2 | none => .stuck) else .stuck)
      (fun w _ H' μ' => ∀ v, RW X.K X.mg H' (NN F μ' σ env) μ' v w → Q v H')) = PP
    have PPe : ∀ zs ds S', PP zs ds S' = Post X.K X.mg EX F σ env H1 μ1 ((compL t (cc cf) (ff cf) (wipeE env vs) ds S').bind fun xs S2 => if (zs ++ xs).length ≤ LIM then (match keysOfD (zs ++ xs) with | some ks => R.ok (.d (.dict (trueD (onceK ks)))) S2 | none => .stuck) else .stuck)
      (fun w _ H' μ' => ∀ v, RW X.K X.mg H' (NN F μ' σ env) μ' v w → Q v H') := fun zs ds S' => by rw [← hPP]
    refine ⟨fun i m H' => i + m = ds.length ∧ ∃ S' μ' ks zs, Sim X.K X.mg (fun a => a = D ∨ F a) (wipe σ vs) H' (wipeE env vs) S' μ' ∧ Ext σ env H1 μ1 H' μ' ∧ H' D = some (.dK (trueV (onceK ks))) ∧ keysOfD zs = some ks ∧ PP zs (ds.drop i) S', ⟨ds.length, by omega, S1, μ1, [], [], s1.block no nD, ext_new nD, upd_same, rfl, by rw [PPe]; simpa using q1⟩, ?_⟩
    rintro i m H' ⟨hm, S', μ', ks, zs, s', x0, hD, tz, q'⟩
    have s0 := s1.unblock no s' x0
    have kN : Keep (NN F μ1 σ env) H1 (NN (fun a => a = D ∨ F a) μ' (wipe σ vs) (wipeE env vs)) H' := fun a o na e => by
      obtain ⟨e', n'⟩ := x0.nn F a o na e
      refine ⟨e', fun h => ?_⟩
      rw [wipe_nn no] at h
      rcases h with h | h | h
      · exact n' (.inl h)
      · exact ne_of_none e nD h
      · exact n' (.inr h)
    obtain ⟨hstop, hgo⟩ := hJ _ H' kN s'.trk i
    have nDN : ∀ {H2 S2 μ2}, Sim X.K X.mg (fun a => a = D ∨ F a) (wipe σ vs) H2 (wipeE env vs) S2 μ2 → ¬ NN F μ2 σ env D := fun s2 h => h.elim (fun h => s2.fdis D (.inl rfl) (by rw [wipe_mm no]; exact h)) fD
    by_cases hi : i = ds.length
    · refine .inl ⟨hstop hi, ?_⟩
      rw [hi, List.drop_length, PPe] at q'
      simp only [compL, R.bind_ok, List.append_nil] at q'
      split at q'
      · rw [tz] at q'
        refine ⟨D, _, rfl, hD, True.intro, fun od => ?_⟩
        have sF := (s'.updF (p := D) (o := .frz od (.dK (trueV (onceK ks)))) (.inl rfl)).1
        have x2 : Ext σ env H1 μ1 (upd H' D (.frz od (.dK (trueV (onceK ks))))) μ' := ⟨fun a o na e => by
          obtain ⟨e', n'⟩ := x0.keep a o na e
          exact ⟨by rw [upd_ne (ne_of_none e nD)]; exact e', n'⟩, x0.pre⟩
        exact q' _ μ' (s1.unblock no sF x2) x2 _ (.d (.dic (nDN s') upd_same (kvf_true _)))
      · exact q'.elim
    · have hlt : i < ds.length := by omega
      have e : ds[i]? = some ds[i] := by simp [hlt]
      obtain ⟨go, y⟩ := hgo _ e
      refine .inr ⟨go, fun H2 => (i + 1) + (m - 1) = ds.length ∧ ∃ S' μ' ks zs, Sim X.K X.mg (fun a => a = D ∨ F a) (wipe σ vs) H2 (wipeE env vs) S' μ' ∧ Ext σ env H1 μ1 H2 μ' ∧ H2 D = some (.dK (trueV (onceK ks))) ∧ keysOfD zs = some ks ∧ PP zs (ds.drop (i + 1)) S', fun H2 h => ⟨m - 1, by omega, h⟩, fun v H3 yv => ?_⟩
      obtain ⟨sm, rv⟩ := y v H3 yv
      have s3 := s'.same sm
      have x3 : Ext σ env H1 μ1 H3 μ' := x0.trans (Ext.same sm)
      have hD3 : H3 D = some (.dK (trueV (onceK ks))) := sm _ _ hD
      rw [List.drop_eq_getElem_cons hlt, PPe] at q'
      unfold compL at q'
      split at q'
      · exact q'.elim
      · rename_i env1 e1
        refine ⟨_, _, S', μ', _, env1, s3, rv, e1, fun σ4 s4 x4 o4 => ⟨wipe_only hsl o4, env1, S', μ', _, s4, ?_⟩⟩
        obtain ⟨mm, back⟩ := Sim.turn (K := X.K) (mg := X.mg) hsl e1 s.len o4
        have step : ∀ {Ha Hb : Hp} {μa μb : List Addr}, Ext σ4 env1 Ha μa Hb μb → Ext σ env Ha μa Hb μb := fun x => by
          have k := x.keep
          rw [mm, mm, wipe_mm no, wipe_mm no] at k
          exact ⟨k, x.pre⟩
        have atD : ∀ {Ha Hb : Hp} {μa μb : List Addr} {Sa : Sto} {u : HO}, Sim X.K X.mg (fun a => a = D ∨ F a) (wipe σ vs) Ha (wipeE env vs) Sa μa → Ext σ4 env1 Ha μa Hb μb → Ha D = some u → Hb D = some u := fun sa x h => by
          have k := x.keep
          rw [mm, mm] at k
          exact (k D _ (sa.fdis D (.inl rfl)) h).1
        cases r : cc cf env1 S' with
        | stuck =>
          rw [r] at q'
          exact q'.elim
        | exc c0 S5 =>
          rw [r] at q'
          exact q'.elim
        | ok b S5 =>
          rw [r] at q'
          intro H5 μ5 s5 x5
          have w5 := back s5
          have xx5 := x3.trans (step x5)
          have hD5 := atD s3 x5 hD3
          cases b with
          | false =>
            simp only [R.calm, R.bind_ok, Bool.false_eq_true, if_false] at q' ⊢
            exact ⟨by omega, S5, μ5, ks, zs, w5, xx5, hD5, tz, by rw [PPe]; exact q'⟩
          | true =>
            simp only [R.calm, R.bind_ok, if_true] at q' ⊢
            refine ⟨env1, S5, μ5, _, s5, ?_⟩
            cases r2 : ff cf env1 S5 with
            | stuck =>
              rw [r2] at q'
              exact q'.elim
            | exc c0 S6 =>
              rw [r2] at q'
              exact q'.elim
            | ok w S6 =>
              rw [r2] at q'
              intro H6 μ6 s6 x6 v2 rv2
              have w6 := back s6
              have xx6 := xx5.trans (step x6)
              have hD6 := atD w5 x6 hD5
              refine ⟨env1, S6, μ6, _, s6, ?_⟩
              rw [hv]
              intro H7 μ7 s7 x7 v3 rv3
              have w7 := back s7
              have xx7 := xx6.trans (step x7)
              have hD7 := atD w6 x7 hD6
              have e3 : v3 = .bl true := by
                cases rv3 with
                | d h => cases h; rfl
              subst e3
              simp only [R.bind_ok] at q'
              split at q'
              · rename_i z
                have hz : ∃ k, keyOfD z = some k ∧ zs.length < LIM ∧ PP (zs ++ [z]) (ds.drop (i + 1)) S6 := by
                  rw [PPe]
                  rcases compL_calm t (cc cf) (ff cf) (wipeE env vs) (ds.drop (i + 1)) S6 with ⟨xs, S7, e7⟩ | e7
                  · rw [e7] at q' ⊢
                    simp only [R.bind_ok, List.append_assoc, List.singleton_append] at q' ⊢
                    split at q'
                    · rename_i hz
                      cases hk : keysOfD (zs ++ z :: xs) with
                      | none =>
                        rw [hk] at q'
                        exact q'.elim
                      | some kk =>
                        obtain ⟨k1, k2, h1, h2, h3⟩ := keysOfD_app hk
                        simp only [keysOfD] at h2
                        split at h2
                        · rename_i k ks' g1 g2
                          refine ⟨k, g1, ?_, ?_⟩
                          · rw [List.length_append, List.length_cons] at hz
                            omega
                          · rw [if_pos hz]
                            exact hk ▸ q'
                        · cases h2
                    · exact q'.elim
                  · rw [e7] at q'
                    exact q'.elim
                obtain ⟨k, ek, hl, hpp⟩ := hz
                have ev : v2 = kV k := by
                  cases rv2 with
                  | d h => exact kV_of h ek
                refine ⟨_, k, ev, hD7, ?_, ?_⟩
                · have h1 := onceK_len ks
                  have h2 := keysOfD_len tz
                  rw [← lim_line]
                  unfold trueV
                  rw [List.length_map]
                  omega
                · rw [put_true, ← onceK_snoc]
                  refine ⟨by omega, S6, μ7, ks ++ [k], zs ++ [z], (w7.updF (.inl rfl)).1, ⟨fun a o na e => ?_, xx7.pre⟩, upd_same, keysOfD_snoc tz ek, hpp⟩
                  obtain ⟨e', n'⟩ := xx7.keep a o na e
                  exact ⟨by rw [upd_ne (ne_of_none e nD)]; exact e', n'⟩
              · exact q'.elim
  · exact q.elim
theorem me_dcomp {t : Tg} {it : SI} {gcc : ST} {ff fv : SE} {kx vx iter : Expr} {ifs : List Expr} {scope : Scope} {own : List (Str × Nat)} (hv : ∀ cf env S, fv cf env S = .ok (.d (.bool true)) S) (hc : X.calm = true) (hN : X.N.Nodup) (hi : MI X cf EX tg iter it) (ok : BlkOk X.N X.env.scope scope own)
    (hsl : ∀ i ∈ t.slots, i ∈ own.map (·.2))
    (hg : ∀ (s : Shared) (H : Hp) (C : Addr) (cl : List (Str × Addr)) (fp : List Addr), MG (X.blk s H scope (compEnvC scope cl C X.env) fp) tg t) (ht : ∀ (s : Shared) (H : Hp) (C : Addr) (cl : List (Str × Addr)) (fp : List Addr), MTs (X.blk s H scope (compEnvC scope cl C X.env) fp) cf EX0 ifs gcc)
    (hk : ∀ (s : Shared) (H : Hp) (C : Addr) (cl : List (Str × Addr)) (fp : List Addr), ME (X.blk s H scope (compEnvC scope cl C X.env) fp) cf EX0 kx ff)
    (he : ∀ (s : Shared) (H : Hp) (C : Addr) (cl : List (Str × Addr)) (fp : List Addr), ME (X.blk s H scope (compEnvC scope cl C X.env) fp) cf EX0 vx fv) (hs : ∀ x, foldedSetIterable iter X.env x = pure x := by intro _; rfl) :
    ME X cf EX (.DictComp kx vx [⟨tg, iter, ifs, 0⟩] scope pos) (fDComp (own.map (·.2)) t it gcc ff) :=
  PE.weak (PE.postlock (pe_dc (g := tG X.K X.mg t) (tt := tT X.K X.mg cf EX0 gcc) (tk := tE X.K X.mg cf EX0 ff) (tv := tE X.K X.mg cf EX0 fv) hc hN hi ok hg ht hk he hs)) (comp_readD hv hsl)
end
end Q

namespace Q
open PySem PySem.Spec PyProof.Rows L2
section
variable {P : Program} {w : World} {A : Around} {E : Value → Shared → Prop} {s : Shared}
/-- sorted(u), where u's items are gathered as ints -/
theorem sorted_from {u : Value} {Q : Value → Shared → Prop}
    (gather : ∀ G : List Value → Shared → Prop, (∀ vs s1 ks, IntsAre vs ks → vs.length ≤ sizeLine →
        (∀ (ys : List Int) (p : Addr) (h' : Heap) (c : Nat) (out : Array Value), s1.heap.objs.size ≤ p → (∀ b o, s1.heap.get? b = some o → h'.get? b = some o) → h'.get? p = some (seqObj "list" out c) → IntsAre out.toList ys → ys = sortI ks → Q (.ref p) { s1 with heap := h' }) → G vs s1) →
      wpAny (model P w) A.in1 (collect u) G E s) :
    wpAny (model P w) A (call (.builtin "sorted") [u]) Q E s := by
  apply Calls.call_function_entry kind_sorted plain_sorted entry_sorted (args_sorted1 _)
  unfold Builtin.«sorted»
  apply wpAny_bind (m := checkCount "sorted" 1 1 _)
  apply wpAny_pure
  apply wpAny_bind
  apply gather
  intro vs s1 ks hI hz k
  have at_ : (s1.heap.push (seqObj "list" vs.toArray 0)).get? s1.heap.objs.size = some (seqObj "list" vs.toArray 0) := Heap.get?_push_size _ rfl
  apply wpAny_bind
  apply wpAny_newList _ hz
  apply wpAny_bind
  apply wpAny_holding
  refine wpAny_call_entry slot_list_sort ?ty entry_list_sort ?body (args_list_sort _)
  case ty => exact ⟨_, at_, rfl⟩
  apply list_sort_treeAny at_ hI hz
  intro out ys io hp hs
  refine ⟨_, rfl, ?_⟩
  obtain ⟨c, hc⟩ := sortedHeap_at (vs := vs) (out := out) at_
  apply wpAny_pure
  refine ⟨_, rfl, k ys s1.heap.objs.size _ c out (Nat.le_refl _) (fun b o e => ?_) hc io (sortI_eq hp hs)⟩
  have lt := Heap.lt_size e
  show (sortedHeap _ _ vs out).get? b = some o
  rw [sortedHeap_old (Nat.ne_of_lt lt) (by rw [size_push']; exact Nat.lt_succ_of_lt lt)]
  exact Heap.get?_push_of_some _ e
theorem ints_raw : ∀ (l : List (Int × Value)), (∀ e ∈ l, ∃ k t, e.2 = Value.int k t) → IntsAre (l.map (·.2)) (l.map keyOf)
  | [], _ => .nil
  | e :: l, h => by
    obtain ⟨k, t, q⟩ := h e (by simp)
    have z := ints_raw l fun x hx => h x (by simp [hx])
    have e2 : keyOf e = k := by unfold keyOf; rw [q] <;> rfl
    rw [List.map_cons, List.map_cons, e2, q]
    exact .cons k t z
/-- a set of ints -/
theorem sorted_setA {a : Addr} {S : Int → Bool} {n : Nat} {Q : Value → Shared → Prop} (R : SetR w s.heap a S n) (hh : A.handled = none)
    (k : ∀ (ys : List Int) (p : Addr) (s2 : Shared) (c : Nat) (out : Array Value), s.heap.objs.size ≤ p → (∀ b o, s.heap.get? b = some o → s2.heap.get? b = some o) → s2.gens = s.gens → s2.os = s.os → s2.heap.get? p = some (seqObj "list" out c) → IntsAre out.toList ys →
      ys.Pairwise (· < ·) → (∀ i, i ∈ ys ↔ S i = true) → ys.length ≤ sizeLine → Q (.ref p) s2) : wpAny (model P w) A (call (.builtin "sorted") [.ref a]) Q E s := by
  obtain ⟨o, es, ep, t, ho, hex, hd, g, nd, hm, hb, hf, hn, hr, hl⟩ := R
  have sb : scanBound = 4096 := rfl
  apply sorted_from
  intro G hG
  apply collect_set (A := A.in1) hh ⟨o, ho, hex.1, hd⟩ hf hb hr hl
  intro s1 vs k1 hz g1 o1 pm
  have I0 := ints_raw es.toList fun e he => (g e he).imp fun _ ⟨t, q, _⟩ => ⟨t, q⟩
  have lv : vs.length = es.size := by rw [pm.length_eq, List.length_map, Array.length_toList]
  obtain ⟨ks, Iv, pk⟩ : ∃ ks, IntsAre vs ks ∧ ks.Perm (es.toList.map keyOf) := by
    refine ⟨vs.map Builtin.Re.reRawOf, ints_of vs fun v hv => ?_, ?_⟩
    · obtain ⟨e, he, rfl⟩ := List.mem_map.mp (pm.mem_iff.mp hv)
      exact (g e he).imp fun _ ⟨t, q, _⟩ => ⟨t, q⟩
    · have z := pm.map Builtin.Re.reRawOf
      rw [List.map_map] at z
      exact z
  apply hG vs s1 ks Iv (by rw [lv, sizeLine_eq]; omega)
  intro ys p h' c out h1 h2 h3 h4 e
  subst e
  have pn := (sortI_perm ks).trans pk
  refine k _ p _ c out (Nat.le_trans hz h1) (fun b ob q => h2 b ob (k1 b ob q)) g1 o1 h3 h4 ?_ (fun i => ?_) ?_
  · exact sort_lt (pk.nodup_iff.mpr nd)
  · rw [pn.mem_iff, ← hm i]
  · rw [pn.length_eq, List.length_map, Array.length_toList, sizeLine_eq]; omega
end
def tSortSetA (K : PySem.W.Frag) (ta : TE) : TE := fun σ H Q => ta σ H fun x H1 => ∃ (l : Addr) (ns : List Int), x = .ref l ∧ (SqL K H1 l (ns.map V.int) ∨ SqT K H1 l (ns.map V.int)) ∧ ns.length ≤ 4000 ∧ ∀ p, H1 p = none → Q (.ref p) (upd H1 p (.lst ((sortS ns).map V.int)))
section
variable {X : Cx} {cf : CF} {EX : WX} {e : Expr} {fa : SE} {ta : TE} {ha : SA} {p p2 q pos : Pos}
theorem pe_sortSetA (hg : Gl X "sorted") (hm : X.mg "sorted" = none) (hg2 : Gl X "set") (hm2 : X.mg "set" = none) (he : PE X e ta) (hc : X.calm = true := by rfl) (na : starEach [e] X.env = (false, eval e X.env) :: starEach [] X.env := by rfl) :
    PE X (.Call (.Name "sorted" p) [.Call (.Name "set" p2) [e] [] q] [] pos) (tSortSetA X.K ta) := by
  constructor
  intro pins s σ H Q I h
  apply Call_ (ld_blt I hg hm boot_sorted _)
  apply PyProof.Rows.callWith_builtin1 _ rfl rfl
  apply PyProof.Rows.args_cons _ rfl
  apply Call_ (ld_blt I hg2 hm2 boot_set _)
  apply PyProof.Rows.callWith_type1 _ na rfl
  apply PyProof.Rows.args_cons _ na
  apply thn (he.run pins s σ H _ I h)
  rintro v s1 ⟨x, H1, I1, r1, l, ns, rfl, hq, hl, q1⟩
  cases r1
  apply PyProof.Rows.args_nil
  have sb : scanBound = 4096 := rfl
  have made : ∀ Q' : Value → Shared → Prop, (∀ (h' : Heap) (tk c : Nat), SetR X.w h' s1.heap.objs.size (fun j => decide (j ∈ ns)) c → (∀ b o, s1.heap.get? b = some o → h'.get? b = some o) → Q' (.ref s1.heap.objs.size) { s1 with heap := h', toks := tk }) → wpAny (model X.prog X.w) X.A (call (.type "set") [.ref l]) Q' X.xe s1 := by
    intro Q' k
    rcases hq with hq | hq
    · obtain ⟨its, r, pl, hz⟩ := I1.list hq
      exact call_setL (I1.ok.hd hc) pl.isList (ns := ns) (by simpa using RZ.intsAre_vals r) (by omega) k
    · obtain ⟨its, r, pl, hz⟩ := I1.tuple hq
      exact call_set_tupI ns (I1.ok.hd hc) (show s1.heap.IsTuple l its.toArray from pl) (by simpa using RZ.intsAre_vals r) (by omega) fun h' tk c hS _ kp => k h' tk c hS kp
  apply made
  intro h' tk c hS keep
  apply PyProof.Rows.args_nil
  have I2 : Inv X pins σ H1 { s1 with heap := h', toks := tk } := I1.kept fun b o e => keep b o e
  apply sorted_setA hS (I2.ok.hd hc)
  intro ys p s2 c2 out hp k g o hg' hi hs hm hl'
  have e : ys = sortS ns := sortS_eq hs fun k => by rw [hm]; simp
  subst e
  have hn : H1 p = none := I2.hok.fresh hp
  have ok : ObjOk X.prog X.w (upd H1 p (.lst ((sortS ns).map V.int))) s2.heap p (.lst ((sortS ns).map V.int)) := ⟨by simpa using hl', out.toList, c2, vals_of_ints hi, hg'⟩
  obtain ⟨hp2, gs2, dr2, tk2, os2⟩ := s2
  simp only at k g o hg' ok
  subst g
  subst o
  have J := I2.call (ch := []) (d' := dr2) (t' := tk2) (Un.laid k hp hn) (I2.hok.laid k hp ok) I2.bare fun _ z => nomatch z
  exact ⟨.ref p, _, J, rfl, q1 p hn⟩
def fSortSetA (f : SE) : SE := fun cf env S => (f cf env S).bind fun w S1 => match w with
  | .d (.list xs) => (match intsOf xs with | some is => if is.length ≤ 4000 then .ok (.d (.list ((sortS is).map PyData.int))) S1 else .stuck | none => .stuck)
  | .d (.tuple xs) => (match intsOf xs with | some is => if is.length ≤ 4000 then .ok (.d (.list ((sortS is).map PyData.int))) S1 else .stuck | none => .stuck)
  | _ => .stuck
theorem me_sortSetA (hc : X.calm = true) (hg : Gl X "sorted") (hm : X.mg "sorted" = none) (hg2 : Gl X "set") (hm2 : X.mg "set" = none) (h : ME X cf EX e fa) (na : starEach [e] X.env = (false, eval e X.env) :: starEach [] X.env := by rfl) :
    ME X cf EX (.Call (.Name "sorted" p) [.Call (.Name "set" p2) [e] [] q] [] pos) (fSortSetA fa) :=
  PE.weak (pe_sortSetA hg hm hg2 hm2 h hc na) fun σ H Q ⟨env, S, μ, F, s, q⟩ => ⟨env, S, μ, F, s, (Post.bind q).mono fun w S1 H1 μ1 s1 x1 q1 v rv => by
    split at q1
    · obtain ⟨a, us, rfl, na, ha, ta⟩ := rw_lst rv
      split at q1
      · rename_i bs e
        have h := ints_dn ta e
        subst h
        split at q1
        · rename_i hl
          exact ⟨a, bs, rfl, .inl (SqL.of ha), hl, fun p n => post_lst s1 (ints_all _) q1 n⟩
        · exact q1.elim
      · exact q1.elim
    · obtain ⟨a, us, rfl, ha, ta⟩ := rw_tup rv
      split at q1
      · rename_i bs e
        have h := ints_dn ta e
        subst h
        split at q1
        · rename_i hl
          exact ⟨a, bs, rfl, .inr ha.sq, hl, fun p n => post_lst s1 (ints_all _) q1 n⟩
        · exact q1.elim
      · exact q1.elim
    · exact q1.elim⟩
def rSortDA : List V → Hp → VK → Prop := fun xs H Q => ∃ (a : Addr) (kvs : List (Key × V)) (ks : List Int), xs = [.ref a] ∧ Rd H a (.dK kvs) ∧ kvs.map (·.1) = ks.map Sum.inl ∧ ∀ p, H p = none → Q (.ref p) (upd H p (.lst ((sortI ks).map V.int)))
theorem ints_items : ∀ {vs : List Value} {ks : List Int}, vs.length = ks.length → (∀ (j : Nat) v, vs[j]? = some v → ∃ x t, ks[j]? = some x ∧ v = Value.int x t) → IntsAre vs ks
  | [], [], _, _ => .nil
  | v :: vs, k :: ks, l, h => by
    obtain ⟨x, t, e1, e2⟩ := h 0 v rfl
    simp only [List.getElem?_cons_zero, Option.some.injEq] at e1
    subst e1
    subst e2
    exact .cons _ _ (ints_items (by simpa using l) fun j v e => by simpa using h (j + 1) v (by simpa using e))
  | [], _ :: _, l, _ => by simp at l
  | _ :: _, [], l, _ => by simp at l
theorem cr_sortDA (hc : X.calm = true) : CallR X (.builtin "sorted") rSortDA := by
  rintro pins s σ H xs us Q I r ⟨a, kvs, ks, rfl, hd, hks, q⟩
  obtain ⟨u, rfl, rx⟩ := vals1 r
  cases rx
  obtain ⟨hz, lo, vs, rel, dd⟩ := dk_rd I.hok hd
  obtain ⟨ep, hat⟩ := dd.dictAt
  have hk2 : vs.map (·.1) = ks.map Sum.inl := rel.keys.symm.trans hks
  have hl : vs.length = ks.length := by simpa using congrArg List.length hk2
  apply sorted_from
  intro G hG
  apply PySem.W.kdu_collect (A := X.A.in1) (PySem.W.kdl_dict (knd := mixKind X.prog X.w) (kvs := vs) (ep := ep) lo) (I.ok.hd hc) hat (by rw [← rel.length]; exact hz)
  intro h1 tk acc keep items
  have la : acc.toList.length = ks.length := by rw [Array.length_toList, items.1, hl]
  have hI : IntsAre acc.toList ks := by
    apply ints_items la
    intro j v e
    obtain ⟨k, x, e1, e2⟩ := items.2 j v (by rw [← Array.getElem?_toList]; exact e)
    have e3 : (ks.map (Sum.inl : Int → Key))[j]? = some k := by
      rw [← hk2, List.getElem?_map, e1]
      rfl
    obtain ⟨y, e4, e5⟩ := Option.map_eq_some_iff.mp (List.getElem?_map (f := (Sum.inl : Int → Key)) ▸ e3)
    subst e5
    rcases keyIs_shape (show keyIs (Sum.inl y) v = true from e2) with ⟨i, t, ek, ev⟩ | ⟨z, t, ek, ev⟩
    · cases ek
      exact ⟨_, t, e4, ev⟩
    · cases ek
  have I1 : Inv X pins σ H { s with heap := h1, toks := tk } := I.kept keep
  have hz2 : ks.length ≤ sizeLine := by rw [← hl, ← rel.length]; exact hz
  apply hG _ _ ks hI (by rw [la]; exact hz2)
  intro ys p h' c out hp k hg' hi e
  subst e
  have hn : H p = none := I1.hok.fresh hp
  have ok : ObjOk X.prog X.w (upd H p (.lst ((sortI ks).map V.int))) h' p (.lst ((sortI ks).map V.int)) := ⟨by rw [List.length_map, (sortI_perm ks).length_eq]; exact hz2, out.toList, c, vals_of_ints hi, hg'⟩
  exact ⟨.ref p, _, I1.laid (t' := tk) k hp ok, rfl, q p hn⟩
def keysI : List (D × D) → Option (List Int)
  | [] => some []
  | (.int i, _) :: t => (keysI t).map (i :: ·)
  | _ :: _ => none
theorem keysI_eq : ∀ {vs : List (Key × V)} {ds : List (D × D)} {ks : List Int}, KvF vs ds → keysI ds = some ks → vs.map (·.1) = ks.map Sum.inl
  | _, _, _, .nil, e => by simp only [keysI, Option.some.injEq] at e; subst e; rfl
  | _, _, ks, .cons k f t, e => by
    cases k with
    | inl i =>
      obtain ⟨us, h1, rfl⟩ := Option.map_eq_some_iff.mp (show (keysI _).map (i :: ·) = some ks from e)
      simp [keysI_eq t h1]
    | inr x => simp [keysI, keyD] at e
def gSortedDA : GN
  | [.d (.dict ds)], S => match keysI ds with | some ks => .ok (.d (.list ((sortI ks).map PyData.int))) S | none => .stuck
  | [.d (.list xs)], S => match intsOf xs with | some is => .ok (.d (.list ((sortI is).map PyData.int))) S | none => .stuck
  | _, _ => .stuck
theorem co_sortedDA : CallOp X EX (fun xs H Q => rSortDA xs H Q ∨ rSortedI X.K xs H Q) gSortedDA := by
  intro F σ env S H μ vs ws Q s rvs q
  unfold gSortedDA at q
  split at q
  · obtain ⟨v, rfl, rv⟩ := rws1 rvs
    cases rv with
    | d rd =>
      cases rd with
      | dic na ha fa =>
        split at q
        · rename_i ks e
          exact .inl ⟨_, _, ks, rfl, .inr ⟨_, ha⟩, keysI_eq fa e, fun p n => post_lst s (ints_all _) q n⟩
        · exact q.elim
  · exact .inr (co_sorted F σ env S H μ vs _ Q s rvs q)
  · exact q.elim
theorem me_sortedDA (hc : X.calm = true) (hg : Gl X "sorted") (hm : X.mg "sorted" = none) (h : MA X cf EX [e] ha) (he : starEach [e] X.env = (false, eval e X.env) :: starEach [] X.env := by rfl) (hpl : (backTo pos (starEach [] X.env)).any (·.1) = false := by rfl) :
    ME X cf EX (.Call (.Name "sorted" p) [e] [] pos) (fB gSortedDA ha) :=
  me_callB (fun pins s σ H xs us Q I r h => h.elim (cr_sortDA hc pins s σ H xs us Q I r) (cr_sortedI pins s σ H xs us Q I r)) co_sortedDA hg hm (by decide +kernel) h (he := he) (hpl := hpl)
end
end Q

namespace Q
open PySem PySem.Spec PyProof.Rows L2
def idxD (x : D) (xs : List D) : Option Nat := xs.findIdx? fun z => PyData.eqv z x
def fIdx (fo fx : SE) : SE := fun cf env S => (fo cf env S).bind fun w S1 => match w with
  | .d (.list xs) => (fx cf env S1).bind fun u S2 => (match u with
    | .d x => if okEq x && okEq (.list xs) then (match idxD x xs with
      | some j => .ok (.d (.int (j : Nat))) S2
      | none => .stuck) else .stuck
    | _ => .stuck)
  | _ => .stuck
section
variable {X : Cx} {cf : CF} {EX : WX} {o e : Expr} {fo fx : SE} {p p2 pos : Pos}
theorem me_idx {k : Nat} (hr : Room k X.A) (ho : ME X cf EX o fo) (h : ME X cf EX e fx)
    (hbase : attributeBase o "index" X.env (eval o X.env) = eval o X.env := by rfl)
    (hfew : ((backTo p (starEach (e :: []) X.env)).all (fun x => !x.1) && (backToKw p (keywordEach [] X.env)).all (fun x => x.1.isSome) && decide ((e :: []).length + ([] : List Keyword).length + (if ([] : List Keyword).isEmpty then 0 else 1) < 30)) = true := by rfl)
    (hline : (p2.endLine == p.line) = true := by rfl) (hst : starEach (e :: []) X.env = (false, eval e X.env) :: starEach [] X.env := by rfl) (hplain : (backTo p (starEach [] X.env)).any (·.1) = false := by rfl) :
    ME X cf EX (.Call (.Attribute o "index" p2) [e] [] p) (fIdx fo fx) := by
  refine PE.weak (pe_bm PySem.F.plainAttrs_list PySem.F.slot_list_index PySem.F.type_list_index (mt_indexD (units65 hr)) ho (pa_cons h pa_nil hst) hbase hfew hline hst hplain) fun σ H Q ⟨env, S, μ, F, s, q⟩ => ?_
  refine ⟨env, S, μ, F, s, (Post.bind q).mono fun w S1 H1 μ1 s1 x1 q1 v rv => ?_⟩
  split at q1
  · rename_i xs
    obtain ⟨a, vs, rfl, na, ha, ta⟩ := rw_lst rv
    refine ⟨.inl ⟨rfl, _, SqL.of ha⟩, env, S1, μ1, F, s1, (Post.bind q1).mono fun u S2 H2 μ2 s2 x2 q2 v2 rv2 => ?_⟩
    split at q2
    · rename_i x
      split at q2
      · rename_i f2
        rw [Bool.and_eq_true] at f2
        split at q2
        · rename_i j ej
          have rv' : RW X.K X.mg H2 (NN F μ2 σ env) μ2 (.ref a) (.d (.list xs)) := RW.keep (x2.nn F) x2.pre rv rfl
          cases rv2 with
          | d hx =>
            cases rv' with
            | d hl =>
              obtain ⟨p1, g1⟩ := dn_dp hx f2.1
              obtain ⟨p2, g2⟩ := dn_dp hl f2.2
              obtain ⟨hj, hp, hlt⟩ := List.findIdx?_eq_some_iff_getElem.mp ej
              refine ⟨a, v2, x, xs, j, xs[j], rfl, rfl, p2, p1, g2, g1, by simp [hj], hp, fun m z' hm hz => ?_, post_here s2 (.d (.int _)) q2⟩
              have hl := List.getElem?_eq_some_iff.mp hz
              have := hlt m hm
              rw [hl.2] at this
              simpa using this
        · exact q2.elim
      · exact q2.elim
    · exact q2.elim
  · exact q1.elim
end
end Q

namespace Q
open PySem PySem.Spec PyProof.Rows L2

section
variable {cf : CF} {env : EnvQ} {S : Sto}
@[simp] theorem x_int (i : Int) : fInt i cf env S = .ok (.d (.int i)) S := rfl
@[simp] theorem x_bl (b : Bool) : fBl b cf env S = .ok (.d (.bool b)) S := rfl
@[simp] theorem x_non : fNon cf env S = .ok (.d .none) S := rfl
@[simp] theorem x_str (s : Str) : fStr s cf env S = .ok (.d (.str s)) S := rfl
@[simp] theorem x_var (i : Nat) : fVar i cf env S = (match env[i]? with | some (some w) => if w.plain then .ok w S else .stuck | _ => .stuck) := rfl
@[simp] theorem x_bin (g : G2) (a b : SE) : fBin g a b cf env S = (a cf env S).bind fun x S1 => (b cf env S1).bind fun y S2 => g x y S2 := rfl
@[simp] theorem x_isNone (a : SE) : fIsNone a cf env S = (a cf env S).bind fun x S1 => .ok (.d (.bool x.isNone)) S1 := rfl
@[simp] theorem x_notNone (a : SE) : fNotNone a cf env S = (a cf env S).bind fun x S1 => .ok (.d (.bool (!x.isNone))) S1 := rfl
@[simp] theorem x_cVal (a : SE) : cVal a cf env S = (a cf env S).bind fun x S1 => match x with | .d (.bool b) => .ok b S1 | _ => .stuck := rfl
@[simp] theorem x_cNot (a : ST) : cNot a cf env S = (a cf env S).bind fun b S1 => .ok (!b) S1 := rfl
@[simp] theorem x_cAnd (a b : ST) : cAnd a b cf env S = (a cf env S).bind fun x S1 => if x = true then b cf env S1 else .ok false S1 := rfl
@[simp] theorem x_cOr (a b : ST) : cOr a b cf env S = (a cf env S).bind fun x S1 => if x = true then .ok true S1 else b cf env S1 := rfl
@[simp] theorem x_and (a b : SE) : fAnd a b cf env S = (a cf env S).bind fun x S1 => match x with | .d (.bool c) => if c = true then b cf env S1 else .ok (.d (.bool false)) S1 | _ => .stuck := rfl
@[simp] theorem x_or (a b : SE) : fOr a b cf env S = (a cf env S).bind fun x S1 => match x with | .d (.bool c) => if c = true then .ok (.d (.bool true)) S1 else b cf env S1 | _ => .stuck := rfl
@[simp] theorem x_not (a : SE) : fNot a cf env S = (a cf env S).bind fun x S1 => match x with | .d (.bool c) => .ok (.d (.bool (!c))) S1 | _ => .stuck := rfl
@[simp] theorem x_neg (a : SE) : fNeg a cf env S = (a cf env S).bind fun x S1 => match x with | .d (.int i) => .ok (.d (.int (-i))) S1 | _ => .stuck := rfl
@[simp] theorem x_if (c : ST) (a b : SE) : fIf c a b cf env S = (c cf env S).bind fun x S1 => if x = true then a cf env S1 else b cf env S1 := rfl
@[simp] theorem x_nil : aNil cf env S = .ok [] S := rfl
@[simp] theorem x_cons (a : SE) (r : SA) : aCons a r cf env S = (a cf env S).bind fun x S1 => (r cf env S1).bind fun xs S2 => if x.plain then .ok (x :: xs) S2 else .stuck := rfl
@[simp] theorem x_one (a : SE) : aOne a cf env S = (a cf env S).bind fun x S1 => .ok [x] S1 := rfl
@[simp] theorem x_tup (a : SA) : fTup a cf env S = (a cf env S).bind fun ws S1 => if ws.length ≤ LIM then (match datas ws with | some ds => .ok (.d (.tuple ds)) S1 | none => .ok (.tw ws) S1) else .stuck := rfl
@[simp] theorem x_lst (a : SA) : fLst a cf env S = (a cf env S).bind fun ws S1 => if ws.length ≤ LIM then (match datas ws with | some ds => .ok (.d (.list ds)) S1 | none => .stuck) else .stuck := rfl
@[simp] theorem x_newL (a : SA) : fNewL a cf env S = (a cf env S).bind fun ws S1 => if ws.length ≤ LIM then (match datas ws with | some ds => .ok (.ref S1.length) (S1 ++ [.lst ds]) | none => .stuck) else .stuck := rfl
@[simp] theorem x_B (g : GN) (a : SA) : fB g a cf env S = (a cf env S).bind fun ws S1 => g ws S1 := rfl
@[simp] theorem x_callN (x : String) (n : Nat) (a : SA) : fCallN x n a cf env S = (a cf env S).bind fun ws S1 => arity n ws (cf x ws S1) := rfl
@[simp] theorem x_call0 (x : String) : fCall0 x cf env S = cf x [] S := rfl
@[simp] theorem x_isI (t : String) (a : SE) : fIsI t a cf env S = (a cf env S).bind fun x S1 => match x with | .d d => .ok (.d (.bool (isTy t d))) S1 | _ => .stuck := rfl
@[simp] theorem x_at (a b : SE) : fAt a b cf env S = (a cf env S).bind fun x S1 => if x.plain then (b cf env S1).bind fun y S2 => gAt x y S2 else .stuck := rfl
@[simp] theorem x_own (i : Nat) : fOwn i cf env S = (match env[i]? with | some (some (.own xs)) => .ok (.own xs) S | some (some (.ownd xs)) => .ok (.ownd xs) S | _ => .stuck) := rfl
@[simp] theorem x_atOwn (i : Nat) (b : SE) : fAtOwn i b cf env S = (match env[i]? with | some (some (.own xs)) => (b cf env S).bind fun y S2 => gAt (.own xs) y S2 | _ => .stuck) := rfl
@[simp] theorem x_chain (g g' : G2) (a b c : SE) : fChain g g' a b c cf env S = (a cf env S).bind fun x S1 => (b cf env S1).bind fun y S2 => (g x y S2).bind fun z S3 => match z with | .d (.bool k) => if k = true then (c cf env S3).bind fun w S4 => g' y w S4 else .ok (.d (.bool false)) S3 | _ => .stuck := rfl
@[simp] theorem x_oNone : oNone cf env S = .ok none S := rfl
@[simp] theorem x_oSome (a : SE) : oSome a cf env S = (a cf env S).bind fun x S1 => match x with | .d (.int i) => .ok (some i) S1 | _ => .stuck := rfl
@[simp] theorem x_sl (a : SE) (lo hi : SO) : fSl a lo hi cf env S = (a cf env S).bind fun x S1 => if x.plain then (lo cf env S1).bind fun l S2 => (hi cf env S2).bind fun u S3 => gSlice x l u S3 else .stuck := rfl
@[simp] theorem x_comp (vs : List Nat) (t : Tg) (it : SI) (c : ST) (f : SE) : fComp vs t it c f cf env S = if vs.all (notOwn env) then (it cf env S).bind fun ds S1 => (compL t (c cf) (f cf) (wipeE env vs) ds S1).bind fun xs S2 => if xs.length ≤ LIM then .ok (.d (.list xs)) S2 else .stuck else .stuck := rfl
@[simp] theorem x_yes : cYes cf env S = .ok true S := rfl
@[simp] theorem x_iSeq (f : SE) : iSeq f cf env S = (f cf env S).bind fun w S1 => match w with | .d (.list xs) => .ok xs S1 | .d (.tuple xs) => .ok xs S1 | .scr xs => .ok (xs.map PyData.int) S1 | _ => .stuck := rfl
@[simp] theorem x_range1 (a : SA) : iRange1 a cf env S = (a cf env S).bind fun ws S1 => match ws with | [.d (.int j)] => if inR j then .ok (rangeD 0 j.toNat) S1 else .stuck | _ => .stuck := rfl
@[simp] theorem x_range2 (a : SA) : iRange2 a cf env S = (a cf env S).bind fun ws S1 => match ws with | [.d (.int i), .d (.int j)] => if inR i && inR j then .ok (rangeD i (j - i).toNat) S1 else .stuck | _ => .stuck := rfl
@[simp] theorem y_next : sNext cf env S = .next env S := rfl
@[simp] theorem y_never : sNever cf env S = .stuck := rfl
@[simp] theorem y_brk : sBreak cf env S = .brk env S := rfl
@[simp] theorem y_cont : sCont cf env S = .cont env S := rfl
@[simp] theorem y_seq (a b : SS) : sSeq a b cf env S = (a cf env S).seq fun env' S' => b cf env' S' := rfl
@[simp] theorem y_set (i : Nat) (f : SE) : sSet i f cf env S = (f cf env S).then env fun w S' => if w.plain then .next (env.set i (some w)) S' else .stuck := rfl
@[simp] theorem y_new (i : Nat) (a : SA) : sNew i a cf env S = (a cf env S).then env fun ws S' => if ws.length ≤ LIM then (match datas ws with | some ds => .next (env.set i (some (.own ds))) S' | none => .stuck) else .stuck := rfl
@[simp] theorem y_app (i : Nat) (f : SE) : sApp i f cf env S = (match env[i]? with | some (some (.own xs)) => (f cf env S).then env (fun w S' => (match w with | .d x => if xs.length < LIM then .next (env.set i (some (.own (xs ++ [x])))) S' else .stuck | _ => .stuck)) | _ => .stuck) := rfl
@[simp] theorem y_freeze (i : Nat) : sFreeze i cf env S = (match env[i]? with | some (some (.own xs)) => .next (env.set i (some (.d (.list xs)))) S | _ => .stuck) := rfl
@[simp] theorem y_retN : sRetN cf env S = .ret (.d .none) S := rfl
@[simp] theorem y_retP (f : SE) : sRetP f cf env S = (f cf env S).then env fun w S' => if w.plain then .ret w S' else .stuck := rfl
@[simp] theorem y_retO (i : Nat) : sRetO i cf env S = (match env[i]? with | some (some (.own xs)) => .ret (.d (.list xs)) S | _ => .stuck) := rfl
@[simp] theorem y_expr (f : SE) : sExpr f cf env S = (f cf env S).then env fun _ S' => .next env S' := rfl
@[simp] theorem y_if (c : ST) (a b : SS) : sIf c a b cf env S = (c cf env S).then env fun k S' => if k = true then a cf env S' else b cf env S' := rfl
@[simp] theorem y_for (t : Tg) (it : SI) (body : SS) : sFor t it body cf env S = (it cf env S).then env fun ds S' => forL t (body cf) ds env S' := rfl
@[simp] theorem y_while (n : Nat) (c : ST) (body : SS) : sWhile n c body cf env S = whileL (c cf) (body cf) n env S := rfl
@[simp] theorem y_par (is : List Nat) (a : SA) : sPar is a cf env S = (a cf env S).then env fun ws S' => if W.plains ws then (match setW is ws env with | some env' => .next env' S' | none => .stuck) else .stuck := rfl
@[simp] theorem y_unp (is : List Nat) (f : SE) : sUnp is f cf env S = (f cf env S).then env fun w S' => match w with | .d (.tuple ds) => (match setAll is ds env with | some env' => .next env' S' | none => .stuck) | _ => .stuck := rfl
@[simp] theorem y_aug (i : Nat) (g : G2) (f : SE) : sAug i g f cf env S = (match env[i]? with | some (some w) => if w.plain then (f cf env S).then env fun u S1 => (g w u S1).then env fun z S2 => if z.plain then .next (env.set i (some z)) S2 else .stuck else .stuck | _ => .stuck) := rfl
@[simp] theorem z_d (x : D) : W.plain (.d x) = true := rfl
@[simp] theorem z_ref (n : Nat) : W.plain (.ref n) = true := rfl
@[simp] theorem z_scr (n : List Int) : W.plain (.scr n) = true := rfl
@[simp] theorem z_own (n : List D) : W.plain (.own n) = false := rfl
@[simp] theorem z_nil : W.plains [] = true := rfl
@[simp] theorem z_cons (w : W) (ws : List W) : W.plains (w :: ws) = (w.plain && W.plains ws) := rfl
@[simp] theorem z_datas0 : datas [] = some [] := rfl
@[simp] theorem z_datas1 (x : D) (ws : List W) : datas (.d x :: ws) = (datas ws).map (x :: ·) := rfl
@[simp] theorem z_datas2 (n : Nat) (ws : List W) : datas (.ref n :: ws) = none := rfl
@[simp] theorem z_set0 (env : EnvQ) : setW [] [] env = some env := rfl
@[simp] theorem z_set1 (i : Nat) (is : List Nat) (w : W) (ws : List W) (env : EnvQ) : setW (i :: is) (w :: ws) env = setW is ws (env.set i (some w)) := rfl
@[simp] theorem z_setA0 (env : EnvQ) : setAll [] [] env = some env := rfl
@[simp] theorem z_setA1 (i : Nat) (is : List Nat) (w : D) (ws : List D) (env : EnvQ) : setAll (i :: is) (w :: ws) env = setAll is ws (env.set i (some (.d w))) := rfl
@[simp] theorem z_name (i : Nat) (d : D) (env : EnvQ) : Tg.set (.name i) d env = some (env.set i (some (.d d))) := rfl
@[simp] theorem z_names (is : List Nat) (ds : List D) (env : EnvQ) : Tg.set (.names is) (.tuple ds) env = setAll is ds env := rfl
@[simp] theorem z_wipe0 : wipeE env [] = env := rfl
@[simp] theorem z_wipe1 (v : Nat) (vs : List Nat) : wipeE env (v :: vs) = (wipeE env vs).set v none := rfl
@[simp] theorem z_arity (n : Nat) (ws : List W) (r : R W) : arity n ws r = if ws.length = n ∧ W.plains ws = true then r else .stuck := rfl
@[simp] theorem g_add (i j : Int) : gAdd (.d (.int i)) (.d (.int j)) S = .ok (.d (.int (i + j))) S := rfl
@[simp] theorem g_sub (i j : Int) : gSub (.d (.int i)) (.d (.int j)) S = .ok (.d (.int (i - j))) S := rfl
@[simp] theorem g_mul (i j : Int) : gMul2 (.d (.int i)) (.d (.int j)) S = if sm i || sm j then .ok (.d (.int (i * j))) S else .stuck := rfl
@[simp] theorem g_mod (i j : Int) : gMod (.d (.int i)) (.d (.int j)) S = if 0 < j then .ok (.d (.int (i % j))) S else .stuck := rfl
@[simp] theorem g_div (i j : Int) : gDiv (.d (.int i)) (.d (.int j)) S = if 0 < j ∧ Nat.ble j.natAbs 18446744073709551615 = true then .ok (.d (.int (i / j))) S else .stuck := rfl
@[simp] theorem g_pow (i j : Int) : gPow (.d (.int i)) (.d (.int j)) S = if 0 ≤ j ∧ j ≤ 1000000 ∧ i.natAbs < 2 ^ 64 then .ok (.d (.int (i ^ j.toNat))) S else .stuck := rfl
@[simp] theorem g_lt (i j : Int) : gLt (.d (.int i)) (.d (.int j)) S = .ok (.d (.bool (decide (i < j)))) S := rfl
@[simp] theorem g_le (i j : Int) : gLe (.d (.int i)) (.d (.int j)) S = .ok (.d (.bool (decide (i ≤ j)))) S := rfl
@[simp] theorem g_gt (i j : Int) : gGt (.d (.int i)) (.d (.int j)) S = .ok (.d (.bool (decide (j < i)))) S := rfl
@[simp] theorem g_ge (i j : Int) : gGe (.d (.int i)) (.d (.int j)) S = .ok (.d (.bool (decide (j ≤ i)))) S := rfl
@[simp] theorem g_lenT (xs : List D) : gLen [.d (.tuple xs)] S = .ok (.d (.int xs.length)) S := rfl
@[simp] theorem g_lenL (xs : List D) : gLen [.d (.list xs)] S = .ok (.d (.int xs.length)) S := rfl
@[simp] theorem g_tupL (xs : List D) : gTuple [.d (.list xs)] S = .ok (.d (.tuple xs)) S := rfl
@[simp] theorem g_tupT (xs : List D) : gTuple [.d (.tuple xs)] S = .ok (.d (.tuple xs)) S := rfl
@[simp] theorem g_tupO (xs : List D) : gTuple [.own xs] S = .ok (.d (.tuple xs)) S := rfl
@[simp] theorem g_max2 (i j : Int) : gMax2 [.d (.int i), .d (.int j)] S = .ok (.d (.int (if j > i then j else i))) S := rfl
@[simp] theorem g_min2 (i j : Int) : gMin2 [.d (.int i), .d (.int j)] S = .ok (.d (.int (if j < i then j else i))) S := rfl
@[simp] theorem g_repr (d : D) : gRepr [.d d] S = if okShow d then .ok (.d (.str d.shown)) S else .stuck := rfl
@[simp] theorem g_atT (xs : List D) (i : Int) : gAt (.d (.tuple xs)) (.d (.int i)) S = (match atI xs i with | some x => .ok (.d x) S | none => .stuck) := rfl
@[simp] theorem g_atL (xs : List D) (i : Int) : gAt (.d (.list xs)) (.d (.int i)) S = (match atI xs i with | some x => .ok (.d x) S | none => .stuck) := rfl
@[simp] theorem g_atO (xs : List D) (i : Int) : gAt (.own xs) (.d (.int i)) S = (match atI xs i with | some x => .ok (.d x) S | none => .stuck) := rfl
@[simp] theorem g_atR (n : Nat) (i : Int) : gAt (.ref n) (.d (.int i)) S = (match S[n]? with | some (.lst xs) => (match atI xs i with | some x => .ok (.d x) S | none => .stuck) | _ => .stuck) := rfl
@[simp] theorem g_atS (xs : List Int) (i : Int) : gAt (.scr xs) (.d (.int i)) S = (match atI xs i with | some x => .ok (.d (.int x)) S | none => .stuck) := rfl
@[simp] theorem g_eqI (i j : Int) : gEq (.d (.int i)) (.d (.int j)) S = .ok (.d (.bool (decide (i = j)))) S := by
  simp [gEq, okEq, PyData.canLay0, PyData.depth, PyData.eqv]
  rw [Bool.eq_iff_iff]; simp
@[simp] theorem g_neI (i j : Int) : gNe (.d (.int i)) (.d (.int j)) S = .ok (.d (.bool (!decide (i = j)))) S := by
  simp [gNe, okEq, PyData.canLay0, PyData.depth, PyData.eqv]
  rw [Bool.eq_iff_iff]; simp
@[simp] theorem g_neS (i j : Str) : gNe (.d (.str i)) (.d (.str j)) S = .ok (.d (.bool (!decide (i = j)))) S := rfl
@[simp] theorem g_eqS (i j : Str) : gEq (.d (.str i)) (.d (.str j)) S = .ok (.d (.bool (decide (i = j)))) S := rfl
@[simp] theorem g_all (xs : List D) : gAll [.d (.list xs)] S = (match bools xs with | some bs => .ok (.d (.bool (bs.all id))) S | none => .stuck) := rfl
@[simp] theorem g_any (xs : List D) : gAny [.d (.list xs)] S = (match bools xs with | some bs => .ok (.d (.bool (bs.any id))) S | none => .stuck) := rfl
@[simp] theorem g_sumL (xs : List D) : gSum [.d (.list xs)] S = (match intsOf xs with | some is => .ok (.d (.int is.sum)) S | none => .stuck) := rfl
@[simp] theorem g_sumT (xs : List D) : gSum [.d (.tuple xs)] S = (match intsOf xs with | some is => .ok (.d (.int is.sum)) S | none => .stuck) := rfl
@[simp] theorem g_slT (xs : List D) (lo hi : Option Int) : gSlice (.d (.tuple xs)) lo hi S = .ok (.d (.tuple (cutD xs lo hi))) S := rfl
@[simp] theorem g_slL (xs : List D) (lo hi : Option Int) : gSlice (.d (.list xs)) lo hi S = .ok (.d (.list (cutD xs lo hi))) S := rfl
@[simp] theorem g_slS (xs : List Int) (lo hi : Option Int) : gSlice (.scr xs) lo hi S = .ok (.d (.list ((cutD xs lo hi).map PyData.int))) S := rfl
@[simp] theorem fin_ret (w : W) : fin (.ret w S) = .ok w S := rfl
@[simp] theorem fin_next : fin (.next env S) = .ok (.d .none) S := rfl
@[simp] theorem fin_exc (c : String) : fin (.exc c env S) = .exc c S := rfl
@[simp] theorem calm_ok {α : Type} (a : α) : (R.ok a S).calm = .ok a S := rfl
@[simp] theorem ty_int (i : Int) : isTy "int" (.int i) = true := by simp [isTy, tyName]
@[simp] theorem ty_bool (i : Int) : isTy "bool" (.int i) = false := by simp [isTy, tyName]
@[simp] theorem ty_tup (xs : List D) : isTy "tuple" (.tuple xs) = true := by simp [isTy, tyName]
theorem y_setIx (o i f : SE) : sSetIx o i f cf env S = (f cf env S).then env fun w S1 => (o cf env S1).then env fun u S2 => (i cf env S2).then env fun k S3 => match w, u, k with
  | .d x, .ref n, .d (.int j) => (match S3[n]? with
    | some (.lst xs) => (match ixN xs.length j with
      | some m => .next env (S3.set n (.lst (xs.set m x)))
      | none => .stuck)
    | _ => .stuck)
  | _, _, _ => .stuck := rfl
end
theorem callQ_succ {T : Tab} {x : String} {d : FD} {k : Nat} {ws : List W} {S : Sto} (h : T x = some d) (hl : ws.length = d.n) (hp : W.plains ws = true) : callQ T (k + 1) x ws S = fin (d.body (callQ T k) (startQ d.slots ws) S) := by
  show (match T x with | none => R.stuck | some d => if ws.length = d.n ∧ W.plains ws = true then fin (d.body (callQ T k) (startQ d.slots ws) S) else .stuck) = _
  rw [h]
  exact if_pos ⟨hl, hp⟩
theorem sm_lt {i : Int} (h : 0 ≤ i) (h2 : i < 18446744073709551616) : sm i = true := by
  exact Nat.ble_eq_true_of_le (by omega)

theorem atI_nat {α : Type} (xs : List α) (i : Nat) : atI xs (i : Int) = xs[i]? := by
  simp [atI, ixN]
  by_cases h : i < xs.length
  · simp [h]
  · rw [List.getElem?_eq_none (by omega)]
    simp [h]
theorem inR_of {i : Int} (h : -4611686018427387904 < i) (h2 : i < 4611686018427387904) : inR i = true := by
  exact Nat.ble_eq_true_of_le (by omega)
theorem lim_of {n : Nat} (h : n ≤ 16777216) : n ≤ LIM := h
theorem compL_on {α : Type} {i : Nat} {f : EnvQ → Sto → R W} {env : EnvQ} {S : Sto} {c : EnvQ → Sto → R Bool} (q g : α → D) : ∀ {xs : List α}, (∀ x ∈ xs, c (env.set i (some (.d (q x)))) S = .ok true S) → (∀ x ∈ xs, f (env.set i (some (.d (q x)))) S = .ok (.d (g x)) S) → compL (.name i) c f env (xs.map q) S = .ok (xs.map g) S
  | [], _, _ => rfl
  | x :: xs, hc, h => by
    have e := compL_on q g (xs := xs) (fun d hd => hc d (by simp [hd])) fun d hd => h d (by simp [hd])
    simp only [compL, z_name, List.map_cons]
    rw [hc x (by simp)]
    simp [e, h x (by simp)]
theorem compL_onf {α : Type} {i : Nat} {f : EnvQ → Sto → R W} {env : EnvQ} {S : Sto} {c : EnvQ → Sto → R Bool} (q g : α → D) (p : α → Bool) : ∀ {xs : List α}, (∀ x ∈ xs, c (env.set i (some (.d (q x)))) S = .ok (p x) S) → (∀ x ∈ xs, p x = true → f (env.set i (some (.d (q x)))) S = .ok (.d (g x)) S) → compL (.name i) c f env (xs.map q) S = .ok ((xs.filter p).map g) S
  | [], _, _ => rfl
  | x :: xs, hc, h => by
    have e := compL_onf q g p (xs := xs) (fun d hd => hc d (by simp [hd])) fun d hd => h d (by simp [hd])
    simp only [compL, z_name, List.map_cons]
    rw [hc x (by simp)]
    cases hp : p x with
    | true =>
      rw [List.filter_cons_of_pos hp]
      simp [h x (by simp) hp, e]
    | false =>
      rw [List.filter_cons_of_neg (by simp [hp])]
      simp [e]
theorem rangeD_map (lo : Int) (n : Nat) : rangeD lo n = (List.range n).map fun k : Nat => PyData.int (lo + k) := rfl
/-- with a store that changes -/
theorem compL_st {i : Nat} {f : EnvQ → Sto → R W} {env : EnvQ} {c : EnvQ → Sto → R Bool} (I : Sto → Prop) (P : D → Prop) (hc : ∀ d S, I S → c (env.set i (some (.d d))) S = .ok true S) : ∀ {ds : List D} {S : Sto}, I S → (∀ d ∈ ds, ∀ S, I S → ∃ x S', f (env.set i (some (.d d))) S = .ok (.d x) S' ∧ I S' ∧ P x) → ∃ xs S', compL (.name i) c f env ds S = .ok xs S' ∧ I S' ∧ xs.length = ds.length ∧ ∀ x ∈ xs, P x
  | [], S, hI, _ => ⟨[], S, rfl, hI, rfl, by simp⟩
  | d :: ds, S, hI, h => by
    obtain ⟨x, S1, e1, I1, p1⟩ := h d (by simp) S hI
    obtain ⟨xs, S2, e2, I2, l2, p2⟩ := compL_st I P hc (ds := ds) I1 fun d hd => h d (by simp [hd])
    refine ⟨x :: xs, S2, ?_, I2, by simp [l2], fun y hy => ?_⟩
    · simp only [compL, z_name]
      rw [hc d S hI]
      simp [e1, e2]
    · rcases List.mem_cons.mp hy with rfl | hy
      · exact p1
      · exact p2 y hy

theorem forL_inv {t : Tg} {body : EnvQ → Sto → RS} (I : Nat → EnvQ → Sto → Prop) : ∀ {ds : List D} {n : Nat} {env : EnvQ} {S : Sto}, I n env S → (∀ i d env S, ds[i]? = some d → I (n + i) env S → ∃ env1 env2 S2, t.set d env = some env1 ∧ (body env1 S = .next env2 S2 ∨ body env1 S = .cont env2 S2) ∧ I (n + i + 1) env2 S2) → ∃ env' S', forL t body ds env S = .next env' S' ∧ I (n + ds.length) env' S'
  | [], n, env, S, h, _ => ⟨env, S, rfl, by simpa using h⟩
  | d :: ds, n, env, S, h, st => by
    obtain ⟨env1, env2, S2, e1, e2, i2⟩ := st 0 d env S rfl (by simpa using h)
    obtain ⟨env', S', e3, i3⟩ := forL_inv I (ds := ds) (n := n + 1) (env := env2) (S := S2) (by simpa using i2) fun i d env S hd hi => by
      have := st (i + 1) d env S (by simpa using hd) (by rw [show n + (i + 1) = n + 1 + i by omega]; exact hi)
      rw [show n + (i + 1) + 1 = n + 1 + i + 1 by omega] at this
      exact this
    refine ⟨env', S', ?_, by rw [show n + (d :: ds).length = n + 1 + ds.length by simp; omega]; exact i3⟩
    simp only [forL, e1]
    rcases e2 with e2 | e2 <;> rw [e2] <;> exact e3
theorem forL_inv0 {t : Tg} {body : EnvQ → Sto → RS} (I : Nat → EnvQ → Sto → Prop) {ds : List D} {env : EnvQ} {S : Sto} (h : I 0 env S) (st : ∀ i d env S, ds[i]? = some d → I i env S → ∃ env1 env2 S2, t.set d env = some env1 ∧ (body env1 S = .next env2 S2 ∨ body env1 S = .cont env2 S2) ∧ I (i + 1) env2 S2) : ∃ env' S', forL t body ds env S = .next env' S' ∧ I ds.length env' S' := by
  have := forL_inv I (n := 0) h fun i d env S hd hi => by
    have := st i d env S hd (by simpa using hi)
    simpa using this
  simpa using this
/-- each turn ends well -/
theorem forL_all {t : Tg} {body : EnvQ → Sto → RS} (I : EnvQ → Sto → Prop) {ds : List D} {env : EnvQ} {S : Sto} (h : I env S) (st : ∀ d ∈ ds, ∀ env S, I env S → ∃ env1 env2 S2, t.set d env = some env1 ∧ (body env1 S = .next env2 S2 ∨ body env1 S = .cont env2 S2) ∧ I env2 S2) : ∃ env' S', forL t body ds env S = .next env' S' ∧ I env' S' :=
  forL_inv (fun _ => I) (n := 0) h fun i d env S hd hi => st d (List.mem_of_getElem? hd) env S hi
theorem rangeD_mem {lo : Int} {n : Nat} {d : D} (h : d ∈ rangeD lo n) : ∃ i : Nat, i < n ∧ d = .int (lo + i) := by
  simp only [rangeD, List.mem_map, List.mem_range] at h
  obtain ⟨k, hk, rfl⟩ := h
  exact ⟨k, hk, rfl⟩
@[simp] theorem intsOf_map : ∀ (xs : List Int), intsOf (xs.map PyData.int) = some xs
  | [] => rfl
  | x :: xs => by simp [intsOf, intsOf_map xs]
theorem bools_on {α : Type} {g : α → D} (p : α → Bool) : ∀ {xs : List α}, (∀ x ∈ xs, g x = .bool (p x)) → bools (xs.map g) = some (xs.map p)
  | [], _ => rfl
  | x :: xs, h => by
    have e := bools_on p (xs := xs) fun y hy => h y (by simp [hy])
    simp [bools, h x (by simp), e]
theorem intsOf_on {α : Type} {g : α → D} (p : α → Int) : ∀ {xs : List α}, (∀ x ∈ xs, g x = .int (p x)) → intsOf (xs.map g) = some (xs.map p)
  | [], _ => rfl
  | x :: xs, h => by
    have e := intsOf_on p (xs := xs) fun y hy => h y (by simp [hy])
    simp [intsOf, h x (by simp), e]
@[simp] theorem bools_map : ∀ (xs : List Bool), bools (xs.map PyData.bool) = some xs
  | [] => rfl
  | x :: xs => by simp [bools, bools_map xs]

theorem sOk_iff {x : Str} : PyData.strOk x = true ↔ ∀ c ∈ x.cps.toList, c < 0x110000 := by
  unfold PyData.strOk
  rw [Array.all_eq_true_iff_forall_mem]
  simp
theorem sOk_of (s : String) : PyData.strOk (Str.ofString s) = true := by
  rw [sOk_iff, Str.ofString_eq_toList]
  intro c hc
  obtain ⟨z, _, rfl⟩ := List.mem_map.mp (by simpa using hc)
  have := z.valid
  unfold Nat.isValidChar at this
  have e : z.toNat = z.val.toNat := rfl
  rcases this with h | h <;> omega
structure Sh (n k : Nat) (d : D) : Prop where
  ok' : PyData.strOk d.shown = true
  sw : d.showable = true
  nd : d.hasDict = false
  dp : d.depth ≤ k
  ln : d.shown.length ≤ n
theorem Sh.mono {n k m l : Nat} {d : D} (h : Sh n k d) (h1 : n ≤ m) (h2 : k ≤ l) : Sh m l d := ⟨h.ok', h.sw, h.nd, Nat.le_trans h.dp h2, Nat.le_trans h.ln h1⟩
theorem Sh.ok {n k : Nat} {d : D} (h : Sh n k d) (hk : k ≤ 60) (hn : n ≤ 16777216) : okShow d = true := by
  have h1 := h.dp
  have h2 := h.ln
  simp [okShow, h.sw, h.nd]
  exact ⟨by omega, by show _ ≤ 16777216; omega⟩
def PenOk (S : Sto) (n : Nat) : Prop := ∃ a b c : Int, S[n]? = some (.lst [.int a, .int b, .int c]) ∧ 0 ≤ a ∧ 0 ≤ b ∧ b < 2147483648
def FDraw : SS := (sSeq (sIf (cVal (fBin gGt (fAt (fVar 0) (fInt 0)) (fInt 0)))
  (sSeq (sSet 2 (fBin gMod (fAt (fVar 0) (fInt 0)) (fVar 1)))
  (sSeq (sSetIx (fVar 0) (fInt 0) (fBin gDiv (fAt (fVar 0) (fInt 0)) (fVar 1)))
  (sRetP (fVar 2))))
  sNext)
  (sSeq (sSetIx (fVar 0) (fInt 2) (fBin gAdd (fAt (fVar 0) (fInt 2)) (fInt 1)))
  (sSeq (sSetIx (fVar 0) (fInt 1) (fBin gMod (fBin gAdd (fBin gAdd (fBin gMul2 (fAt (fVar 0) (fInt 1)) (fInt 48271)) (fBin gMul2 (fInt 1013) (fAt (fVar 0) (fInt 2)))) (fInt 11)) (fInt 2147483647)))
  (sSeq (sSet 3 (fBin gMod (fBin gAdd (fBin gAdd (fBin gMul2 (fAt (fVar 0) (fInt 1)) (fAt (fVar 0) (fInt 1))) (fBin gMul2 (fInt 40692) (fAt (fVar 0) (fInt 1)))) (fInt 7)) (fInt 2147483629)))
  (sRetP (fBin gMod (fBin gDiv (fBin gMod (fBin gMul2 (fVar 3) (fInt 69621)) (fInt 2147483647)) (fInt 16)) (fVar 1)))))))
theorem draw_spec {T : Tab} {k n : Nat} {m : Int} {S : Sto} (hT : T "_law_draw" = some ⟨2, 4, FDraw⟩) (h : PenOk S n) (h0 : 0 < m) (hm : m < 18446744073709551616) : ∃ r S', callQ T (k + 1) "_law_draw" [.ref n, .d (.int m)] S = .ok (.d (.int r)) S' ∧ 0 ≤ r ∧ r < m ∧ PenOk S' n ∧ ∃ o, S' = S.set n o := by
  obtain ⟨a, b, c, e, ha, hb, hb2⟩ := h
  have hl : n < S.length := (List.getElem?_eq_some_iff.mp e).1
  rw [callQ_succ hT rfl rfl]
  by_cases h1 : 0 < a
  · refine ⟨a % m, S.set n (.lst [.int (a / m), .int b, .int c]), ?_, Int.emod_nonneg _ (by omega), Int.emod_lt_of_pos _ h0, ⟨a / m, b, c, by simp [hl], Int.ediv_nonneg ha (by omega), hb, hb2⟩, _, rfl⟩
    have hm' : Nat.ble m.natAbs 18446744073709551615 = true := Nat.ble_eq_true_of_le (by omega)
    simp [FDraw, startQ, y_setIx, e, h1, h0, hm', atI, ixN, -Nat.ble_eq]
  · have hb' : 0 ≤ (b * 48271 + 1013 * (c + 1) + 11) % 2147483647 ∧ (b * 48271 + 1013 * (c + 1) + 11) % 2147483647 < 2147483647 := ⟨Int.emod_nonneg _ (by omega), Int.emod_lt_of_pos _ (by omega)⟩
    generalize hB : (b * 48271 + 1013 * (c + 1) + 11) % 2147483647 = B at hb'
    have hs : sm B = true := sm_lt hb'.1 (by omega)
    refine ⟨(B * B + 40692 * B + 7) % 2147483629 * 69621 % 2147483647 / 16 % m, S.set n (.lst [.int a, .int B, .int (c + 1)]), ?_, Int.emod_nonneg _ (by omega), Int.emod_lt_of_pos _ h0, ⟨a, B, c + 1, by simp [hl], ha, hb'.1, by omega⟩, _, rfl⟩
    have s1 : sm 48271 = true := by decide
    have s2 : sm 1013 = true := by decide
    have s3 : sm 40692 = true := by decide
    have s4 : sm 69621 = true := by decide
    have hg : ∀ o : O, (S.set n o)[n]? = some o := fun o => by simp [hl]
    simp [FDraw, startQ, y_setIx, e, h1, h0, hm, hg, atI, ixN, hB, hs, s1, s2, s3, s4]
end Q
namespace Q
open PySem PySem.Spec PyProof.Rows L2
end Q

namespace Q
open PySem PySem.Spec PyProof.Rows L2
section
variable {cf : CF} {env : EnvQ} {S : Sto}
@[simp] theorem y_setCompO (i : Nat) (vs : List Nat) (t : Tg) (it : SI) (c : ST) (f : SE) : sSetCompO i vs t it c f cf env S = if vs.all (notOwn env) then (it cf env S).then env fun ds S1 => (compL t (c cf) (f cf) (wipeE env vs) ds S1).calm.then env fun xs S2 => if xs.length ≤ LIM then .next (env.set i (some (.own xs))) S2 else .stuck else .stuck := rfl
@[simp] theorem y_setIxO (i : Nat) (fk fe : SE) : sSetIxO i fk fe cf env S = (match env[i]? with
  | some (some (.own xs)) => (fe cf env S).then env fun w S1 => (match w with
    | .d x => (fk cf env S1).then env fun u S2 => (match u with
      | .d (.int j) => (match ixN xs.length j with
        | some m => .next (env.set i (some (.own (xs.set m x)))) S2
        | none => .stuck)
      | _ => .stuck)
    | _ => .stuck)
  | _ => .stuck) := rfl
@[simp] theorem y_newD (i : Nat) : sNewD i cf env S = .next (env.set i (some (.ownd []))) S := rfl
@[simp] theorem y_putD (i : Nat) (fk fe : SE) : sPutD i fk fe cf env S = (match env[i]? with
  | some (some (.ownd kvs)) => (fe cf env S).then env fun w S1 => (match w with
    | .d x => (fk cf env S1).then env fun u S2 => (match u with
      | .d y => (match keyOfD y with
        | some k => if kvs.length < LIM then .next (env.set i (some (.ownd (putD kvs k x)))) S2 else .stuck
        | none => .stuck)
      | _ => .stuck)
    | _ => .stuck)
  | _ => .stuck) := rfl
@[simp] theorem x_comp2 (vs : List Nat) (t : Tg) (it : SI) (c : ST) (g : SI) : fComp2 vs t it c g cf env S = if vs.all (notOwn env) then (it cf env S).bind fun ds S1 => (compL2 t (c cf) (g cf) (wipeE env vs) ds S1).calm.bind fun xs S2 => if xs.length ≤ LIM then .ok (.d (.list xs)) S2 else .stuck else .stuck := rfl
@[simp] theorem g_sortP (ps : List (Int × Int)) : gSortedP [.d (.list (ps.map pairD))] S = .ok (.d (.list ((sortP ps).map pairD))) S := by
  simp only [gSortedP, pairsOf_map]
@[simp] theorem g_sortDK (kvs : List (Key × D)) : gSortedDK [.ownd kvs] S = (match intKeys kvs with | some ks => if ks.length < 64 then .ok (.d (.list ((sortI ks).map PyData.int))) S else .stuck | none => .stuck) := rfl
end
end Q

namespace Q
open PySem PySem.Spec PyProof.Rows L2
@[simp] theorem intsOf_map' {α : Type} (p : α → Int) (xs : List α) : intsOf (xs.map fun x => PyData.int (p x)) = some (xs.map p) := intsOf_on p fun _ _ => rfl
@[simp] theorem bools_map' {α : Type} (p : α → Bool) (xs : List α) : bools (xs.map fun x => PyData.bool (p x)) = some (xs.map p) := bools_on p fun _ _ => rfl
theorem cutD_from {α : Type} (xs : List α) (k : Nat) : cutD xs (some (k : Int)) none = xs.drop k := by
  unfold cutD
  rw [HT.sIx_none, HT.sIx_nat]
  by_cases h : k ≤ xs.length
  · rw [Nat.min_eq_left h]
    exact List.take_of_length_le (by simp)
  · rw [Nat.min_eq_right (by omega)]
    simp
    omega
theorem cutD_to {α : Type} (xs : List α) (k : Nat) : cutD xs none (some (k : Int)) = xs.take k := by
  unfold cutD
  rw [HT.sIx_none, HT.sIx_nat]
  by_cases h : k ≤ xs.length
  · rw [Nat.min_eq_left h]; simp
  · rw [Nat.min_eq_right (by omega)]
    simp
    rw [List.take_of_length_le (by omega)]
end Q

namespace Q
open PySem PySem.Spec PyProof.Rows L2
section
variable {cf : CF} {env : EnvQ} {S : Sto}
@[simp] theorem x_rev (f : SE) : fRev f cf env S = (f cf env S).bind fun w S1 => match w with
  | .d (.list xs) => .ok (.d (.list xs.reverse)) S1
  | .d (.tuple xs) => .ok (.d (.tuple xs.reverse)) S1
  | _ => .stuck := rfl
@[simp] theorem x_W (w : W) : fW w cf env S = .ok w S := rfl
@[simp] theorem x_range3 (a : SA) : iRange3 a cf env S = (a cf env S).bind fun ws S1 => match ws with
  | [.d (.int i), .d (.int j), .d (.int c)] => (match rng3 i j c with | some ds => .ok ds S1 | none => .stuck)
  | _ => .stuck := rfl
@[simp] theorem x_lstRg (f : SE) : fLstRg f cf env S = (f cf env S).bind fun w S1 => match w with
  | .d (.int n) => if inR n && decide (n ≤ 16777216) then .ok (.d (.list (rangeD 0 n.toNat))) S1 else .stuck
  | _ => .stuck := rfl
@[simp] theorem x_tupRg (f : SE) : fTupRg f cf env S = (f cf env S).bind fun w S1 => match w with
  | .d (.int n) => if inR n && decide (n ≤ 16777216) then .ok (.d (.tuple (rangeD 0 n.toNat))) S1 else .stuck
  | _ => .stuck := rfl
@[simp] theorem x_zipS (a : SA) : iZipS a cf env S = (a cf env S).bind fun ws S1 => match ws with
  | [.d (.tuple xs), .d (.tuple ys)] => if xs.length = ys.length then .ok (zipD xs ys) S1 else .stuck
  | _ => .stuck := rfl
@[simp] theorem g_addT (xs ys : List D) : gAdd (.d (.tuple xs)) (.d (.tuple ys)) S = if xs.length + ys.length ≤ LIM then .ok (.d (.tuple (xs ++ ys))) S else .stuck := rfl
@[simp] theorem g_addL (xs ys : List D) : gAdd (.d (.list xs)) (.d (.list ys)) S = if xs.length + ys.length ≤ LIM then .ok (.d (.list (xs ++ ys))) S else .stuck := rfl
end
@[simp] theorem at0 {α : Type} (x : α) (xs : List α) : atI (x :: xs) 0 = some x := atI_nat _ 0
@[simp] theorem at1 {α : Type} (x y : α) (xs : List α) : atI (x :: y :: xs) 1 = some y := atI_nat _ 1
@[simp] theorem at2 {α : Type} (x y z : α) (xs : List α) : atI (x :: y :: z :: xs) 2 = some z := atI_nat _ 2
@[simp] theorem at3 {α : Type} (x y z w : α) (xs : List α) : atI (x :: y :: z :: w :: xs) 3 = some w := atI_nat _ 3
@[simp] theorem cut1 {α : Type} (x : α) (xs : List α) : cutD (x :: xs) (some 1) none = xs := cutD_from (x :: xs) 1
@[simp] theorem cut2 {α : Type} (x y : α) (xs : List α) : cutD (x :: y :: xs) (some 2) none = xs := cutD_from (x :: y :: xs) 2
@[simp] theorem cutTo1 {α : Type} (x : α) (xs : List α) : cutD (x :: xs) none (some 1) = [x] := cutD_to (x :: xs) 1
@[simp] theorem cutTo2 {α : Type} (x y : α) (xs : List α) : cutD (x :: y :: xs) none (some 2) = [x, y] := cutD_to (x :: y :: xs) 2
@[simp] theorem cutTo3 {α : Type} (x y z : α) (xs : List α) : cutD (x :: y :: z :: xs) none (some 3) = [x, y, z] := cutD_to (x :: y :: z :: xs) 3
structure Ly (k : Nat) (d : D) : Prop where
  lay : PyData.canLay0 d = true
  dp : PyData.depth d ≤ k
theorem Ly.mono {k l : Nat} {d : D} (h : Ly k d) (q : k ≤ l) : Ly l d := ⟨h.lay, Nat.le_trans h.dp q⟩
theorem Ly.ok {k : Nat} {d : D} (h : Ly k d) (q : k ≤ 64) : okEq d = true := by
  unfold okEq
  rw [h.lay, Bool.true_and]
  exact decide_eq_true (Nat.le_trans h.dp q)
theorem ly_int (i : Int) : Ly 0 (.int i) := ⟨by simp [PyData.canLay0], by simp [PyData.depth]⟩
theorem ly_str (s : String) : Ly 0 (.str s) := ⟨by simp [PyData.canLay0, sOk_of], by simp [PyData.depth]⟩
theorem ly_all {k : Nat} : ∀ {xs : List D}, (∀ x ∈ xs, Ly k x) → PyData.canLayAll0 xs = true ∧ PyData.depthAll xs ≤ k
  | [], _ => by simp [PyData.canLayAll0, PyData.depthAll]
  | x :: xs, h => by
    obtain ⟨h1, h2⟩ := ly_all (xs := xs) fun y hy => h y (by simp [hy])
    have hx := h x (by simp)
    refine ⟨by simp [PyData.canLayAll0, hx.lay, h1], ?_⟩
    have := hx.dp
    simp only [PyData.depthAll]
    omega
theorem ly_tup {k : Nat} {xs : List D} (h : ∀ x ∈ xs, Ly k x) : Ly (k + 1) (.tuple xs) := by
  obtain ⟨h1, h2⟩ := ly_all h
  exact ⟨by simp [PyData.canLay0, h1], by simp only [PyData.depth]; omega⟩
theorem ly_lst {k : Nat} {xs : List D} (h : ∀ x ∈ xs, Ly k x) : Ly (k + 1) (.list xs) := by
  obtain ⟨h1, h2⟩ := ly_all h
  exact ⟨by simp [PyData.canLay0, h1], by simp only [PyData.depth]; omega⟩
theorem ly_ints (xs : List Int) : Ly 1 (.tuple (xs.map PyData.int)) := ly_tup fun x hx => by
  obtain ⟨i, _, rfl⟩ := List.mem_map.mp hx
  exact ly_int i
theorem g_eqL {k l : Nat} {a b : D} (S : Sto) (ha : Ly k a) (hb : Ly l b) (hk : k ≤ 64) (hl : l ≤ 64) (hs : ∀ s, a ≠ .str s) : gEq (.d a) (.d b) S = .ok (.d (.bool (PyData.eqv a b))) S := by
  have h1 := ha.ok hk
  have h2 := hb.ok hl
  cases a with
  | str s => exact absurd rfl (hs s)
  | _ => simp only [gEq, h1, h2, Bool.and_self, if_true]
theorem g_neL {k l : Nat} {a b : D} (S : Sto) (ha : Ly k a) (hb : Ly l b) (hk : k ≤ 64) (hl : l ≤ 64) (hs : ∀ s, a ≠ .str s) : gNe (.d a) (.d b) S = .ok (.d (.bool (!PyData.eqv a b))) S := by
  have h1 := ha.ok hk
  have h2 := hb.ok hl
  cases a with
  | str s => exact absurd rfl (hs s)
  | _ => simp only [gNe, h1, h2, Bool.and_self, if_true]
end Q

namespace Q
open PySem PySem.Spec PyProof.Rows L2
section
variable {prog : Program} {w : World}
end
end Q

namespace Q
open PySem PySem.Spec PyProof.Rows L2
section
variable {h h' : Heap}
end
section
variable {prog : Program} {w : World} {A : Around} {h : Heap}
end
end Q

namespace Q
open PySem PySem.Spec PyProof.Rows L2
section
variable {X : Cx} {cf : CF} {EX : WX} {F : Addr → Prop} {σ : L2.St} {env : EnvQ} {S S' : Sto} {H H' : Hp} {μ μ' : List Addr} {K : PySem.W.Frag} {mg : Str → Option Value} {e a b c tg : Expr} {es : List Expr} {fa fb : SE} {ha hb : SA} {pos p : Pos} {x : Str}
end
end Q

namespace Q
open PySem PySem.Spec PyProof.Rows L2
def F_is_whole : SS := (sRetP (fAnd (fIsI "int" (fVar 0)) (fNot (fIsI "bool" (fVar 0)))))
def F_is_among : SS := (sRetP (fAnd (fCallN "is_whole" 1 (aCons (fVar 0) aNil)) (fChain gLe gLe (fVar 1) (fVar 0) (fVar 2))))
def F_is_row : SS := (sRetP (fAnd (fIsI "tuple" (fVar 0)) (fChain gLe gLe (fVar 1) (fB gLen (aCons (fVar 0) aNil)) (fVar 2))))
def C_is_light_of_1 : SE := (fCallN "is_among" 3 (aCons (fVar 3) (aCons (fInt 0) (aCons (fBin gSub (fVar 2) (fInt 1)) aNil))))
def F_is_light_of : SS := (sSeq (sIf (cOr (cNot (cVal (fCallN "is_row" 3 (aCons (fVar 0) (aCons (fInt 3) (aCons (fInt 3) aNil)))))) (cNot (cVal (fCallN "is_among" 3 (aCons (fAt (fVar 0) (fInt 0)) (aCons (fInt 0) (aCons (fBin gSub (fVar 1) (fInt 1)) aNil)))))))
  (sRetP (fBl false))
  sNext)
  (sSeq (sIf (cOr (cNot (cVal (fCallN "is_among" 3 (aCons (fAt (fVar 0) (fInt 1)) (aCons (fNeg (fInt 9)) (aCons (fInt 9) aNil)))))) (cNot (cVal (fCallN "is_row" 3 (aCons (fAt (fVar 0) (fInt 2)) (aCons (fInt 1) (aCons (fInt 4) aNil)))))))
  (sRetP (fBl false))
  sNext)
  (sRetP (fB gAll (aCons (fComp [3] (.name 3) (iSeq (fAt (fVar 0) (fInt 2))) cYes C_is_light_of_1) aNil)))))
def C_is_sky_1 : SE := (fCallN "is_light_of" 3 (aCons (fVar 1) (aCons (fAt (fVar 0) (fInt 0)) (aCons (fAt (fVar 0) (fInt 1)) aNil))))
def F_is_sky : SS := (sSeq (sIf (cOr (cNot (cVal (fCallN "is_row" 3 (aCons (fVar 0) (aCons (fInt 3) (aCons (fInt 3) aNil)))))) (cNot (cVal (fCallN "is_among" 3 (aCons (fAt (fVar 0) (fInt 0)) (aCons (fInt 4) (aCons (fInt 12) aNil)))))))
  (sRetP (fBl false))
  sNext)
  (sSeq (sIf (cOr (cNot (cVal (fCallN "is_among" 3 (aCons (fAt (fVar 0) (fInt 1)) (aCons (fInt 1) (aCons (fInt 5) aNil)))))) (cNot (cVal (fCallN "is_row" 3 (aCons (fAt (fVar 0) (fInt 2)) (aCons (fInt 1) (aCons (fInt 6) aNil)))))))
  (sRetP (fBl false))
  sNext)
  (sRetP (fB gAll (aCons (fComp [1] (.name 1) (iSeq (fAt (fVar 0) (fInt 2))) cYes C_is_sky_1) aNil)))))
def F_need_sky : SS := (sIf (cNot (cVal (fCallN "is_sky" 1 (aCons (fVar 0) aNil))))
  sNever
  sNext)
def C_is_item_1 : SE := (fCallN "is_among" 3 (aCons (fVar 3) (aCons (fBin gSub (fInt 0) (fInt 99)) (aCons (fInt 99) aNil))))
def F_is_item : SS := (sSeq (sIf (cOr (cNot (cVal (fIsI "tuple" (fVar 1)))) (cOr (cVal (fBin gEq (fVar 1) (fTup aNil))) (cNot (cVal (fIsI "str" (fAt (fVar 1) (fInt 0)))))))
  (sRetP (fBl false))
  sNext)
  (sSeq (sIf (cVal (fBin gEq (fAt (fVar 1) (fInt 0)) (fStr "go")))
  (sRetP (fAnd (fBin gEq (fB gLen (aCons (fVar 1) aNil)) (fInt 4)) (fB gAll (aCons (fComp [3] (.name 3) (iSeq (fSl (fVar 1) (oSome (fInt 1)) oNone)) cYes C_is_item_1) aNil))))
  sNext)
  (sSeq (sIf (cVal (fBin gEq (fAt (fVar 1) (fInt 0)) (fStr "flip")))
  (sRetP (fAnd (fBin gEq (fB gLen (aCons (fVar 1) aNil)) (fInt 2)) (fCallN "is_among" 3 (aCons (fAt (fVar 1) (fInt 1)) (aCons (fInt 0) (aCons (fBin gSub (fB gLen (aCons (fAt (fVar 0) (fInt 2)) aNil)) (fInt 1)) aNil))))))
  sNext)
  (sSeq (sIf (cVal (fBin gEq (fAt (fVar 1) (fInt 0)) (fStr "again")))
  (sRetP (fAnd (fBin gEq (fB gLen (aCons (fVar 1) aNil)) (fInt 3)) (fAnd (fBin gGt (fVar 2) (fInt 0)) (fAnd (fCallN "is_among" 3 (aCons (fAt (fVar 1) (fInt 1)) (aCons (fInt 0) (aCons (fInt 1000000) aNil)))) (fCallN "are_items" 3 (aCons (fVar 0) (aCons (fAt (fVar 1) (fInt 2)) (aCons (fBin gSub (fVar 2) (fInt 1)) aNil))))))))
  sNext)
  (sRetP (fBin gEq (fVar 1) (fTup (aCons (fStr "mark") aNil))))))))
def C_are_items_1 : SE := (fCallN "is_item" 3 (aCons (fVar 0) (aCons (fVar 3) (aCons (fVar 2) aNil))))
def F_are_items : SS := (sRetP (fAnd (fCallN "is_row" 3 (aCons (fVar 1) (aCons (fInt 0) (aCons (fInt 8) aNil)))) (fB gAll (aCons (fComp [3] (.name 3) (iSeq (fVar 1)) cYes C_are_items_1) aNil))))
def B_size_of_1 : SS := (sIf (cVal (fBin gEq (fAt (fVar 2) (fInt 0)) (fStr "again")))
  (sAug 1 gAddI (fBin gMul2 (fAt (fVar 2) (fInt 1)) (fCallN "size_of" 1 (aCons (fAt (fVar 2) (fInt 2)) aNil))))
  (sAug 1 gAddI (fB gInt (aCons (fBin gNe (fAt (fVar 2) (fInt 0)) (fStr "mark")) aNil))))
def F_size_of : SS := (sSeq (sSet 1 (fInt 0))
  (sSeq (sFor (.name 2) (iSeq (fVar 0))
  B_size_of_1)
  (sRetP (fVar 1))))
def F_is_scene_by : SS := (sRetP (fAnd (fCallN "are_items" 3 (aCons (fVar 0) (aCons (fVar 1) (aCons (fInt 3) aNil)))) (fBin gLe (fCallN "size_of" 1 (aCons (fVar 1) aNil)) (fInt 100000000000))))
def F_need_scene : SS := (sIf (cNot (cVal (fCallN "is_scene_by" 2 (aCons (fVar 0) (aCons (fVar 1) aNil)))))
  sNever
  sNext)
def F_need_both_scenes : SS := (sSeq (sExpr (fCallN "need_sky" 1 (aCons (fVar 0) aNil)))
  (sExpr (fCallN "need_scene" 2 (aCons (fVar 0) (aCons (fVar 1) aNil)))))
def F_beats_of : SS := (sSeq (sExpr (fCallN "need_both_scenes" 2 (aCons (fVar 0) (aCons (fVar 1) aNil))))
  (sRetP (fCallN "size_of" 1 (aCons (fVar 1) aNil))))
def B_marks_in_1 : SS := (sIf (cVal (fBin gEq (fAt (fVar 2) (fInt 0)) (fStr "again")))
  (sAug 1 gAddI (fBin gMul2 (fAt (fVar 2) (fInt 1)) (fCallN "marks_in" 1 (aCons (fAt (fVar 2) (fInt 2)) aNil))))
  (sAug 1 gAddI (fB gInt (aCons (fBin gEq (fAt (fVar 2) (fInt 0)) (fStr "mark")) aNil))))
def F_marks_in : SS := (sSeq (sSet 1 (fInt 0))
  (sSeq (sFor (.name 2) (iSeq (fVar 0))
  B_marks_in_1)
  (sRetP (fVar 1))))
def F_marks_of : SS := (sSeq (sExpr (fCallN "need_both_scenes" 2 (aCons (fVar 0) (aCons (fVar 1) aNil))))
  (sRetP (fCallN "marks_in" 1 (aCons (fVar 1) aNil))))
def C_about_1 : SE := (fBin gSub (fInt 0) (fVar 3))
def B_about_2 : SS := (sSeq (sIf (cVal (fBin gEq (fAt (fVar 2) (fInt 0)) (fStr "go")))
  (sSet 2 (fBin gAdd (fTup (aCons (fStr "go") aNil)) (fB gTuple (aCons (fComp [3] (.name 3) (iSeq (fSl (fVar 2) (oSome (fInt 1)) oNone)) cYes C_about_1) aNil))))
  (sIf (cVal (fBin gEq (fAt (fVar 2) (fInt 0)) (fStr "again")))
  (sSet 2 (fBin gAdd (fSl (fVar 2) oNone (oSome (fInt 2))) (fTup (aCons (fCallN "about" 1 (aCons (fAt (fVar 2) (fInt 2)) aNil)) aNil))))
  sNext))
  (sApp 1 (fVar 2)))
def F_about : SS := (sSeq (sNew 1 aNil)
  (sSeq (sFor (.name 2) (iSeq (fRev (fVar 0)))
  B_about_2)
  (sRetP (fB gTuple (aOne (fOwn 1))))))
def F_turned_about : SS := (sSeq (sExpr (fCallN "need_both_scenes" 2 (aCons (fVar 0) (aCons (fVar 1) aNil))))
  (sRetP (fCallN "about" 1 (aCons (fVar 1) aNil))))
def C_is_tune_1 : SE := (fCallN "is_among" 3 (aCons (fVar 1) (aCons (fInt 1) (aCons (fInt 12) aNil))))
def F_is_tune : SS := (sRetP (fAnd (fCallN "is_row" 3 (aCons (fVar 0) (aCons (fInt 1) (aCons (fInt 8) aNil)))) (fB gAll (aCons (fComp [1] (.name 1) (iSeq (fVar 0)) cYes C_is_tune_1) aNil))))
def F_need_tune : SS := (sIf (cNot (cVal (fCallN "is_tune" 1 (aCons (fVar 0) aNil))))
  sNever
  sNext)
def C_begins_of_1 : SE := (fB gSum (aCons (fSl (fVar 0) oNone (oSome (fVar 1))) aNil))
def F_begins_of : SS := (sRetP (fComp [1] (.name 1) (iRange1 (aCons (fB gLen (aCons (fVar 0) aNil)) aNil)) cYes C_begins_of_1))
def C_marks_by_1 : SE := (fBin gMod (fBin gAdd (fBin gAdd (fVar 3) (fBin gMul2 (fVar 7) (fVar 6))) (fVar 8)) (fVar 1))
def B_marks_by_2 : SS := (sUpd 2 (fDComp [8] (.name 8) (iSeqD (fVar 5)) cYes C_marks_by_1))
def B_marks_by_3 : SS := (sIf (cVal (fBin gEq (fAt (fVar 4) (fInt 0)) (fStr "mark")))
  (sPutD 2 (fVar 3) (fBl true))
  (sIf (cVal (fBin gEq (fAt (fVar 4) (fInt 0)) (fStr "again")))
  (sSeq (sUnp [5, 6] (fCallN "marks_by" 2 (aCons (fAt (fVar 4) (fInt 2)) (aCons (fVar 1) aNil))))
  (sSeq (sFor (.name 7) (iRange1 (aCons (fB gMin2 (aCons (fAt (fVar 4) (fInt 1)) (aCons (fVar 1) aNil))) aNil))
  B_marks_by_2)
  (sSet 3 (fBin gMod (fBin gAdd (fVar 3) (fBin gMul2 (fAt (fVar 4) (fInt 1)) (fVar 6))) (fVar 1)))))
  (sSet 3 (fBin gMod (fBin gAdd (fVar 3) (fInt 1)) (fVar 1)))))
def F_marks_by : SS := (sSeq (sParX [2, 3] [.od, .p (fInt 0)])
  (sSeq (sFor (.name 4) (iSeq (fVar 0))
  B_marks_by_3)
  (sSeq (sFreezeD 2) (sRetP (fTup (aCons (fVar 2) (aCons (fVar 3) aNil)))))))
def F_need_both_tunes : SS := (sSeq (sExpr (fCallN "need_sky" 1 (aCons (fVar 0) aNil)))
  (sSeq (sExpr (fCallN "need_scene" 2 (aCons (fVar 0) (aCons (fVar 1) aNil))))
  (sExpr (fCallN "need_tune" 1 (aCons (fVar 2) aNil)))))
def F_lefts_by : SS := (sRetP (fB gSortedDA (aCons (fAt (fCallN "marks_by" 2 (aCons (fVar 0) (aCons (fB gSum (aCons (fVar 1) aNil)) aNil))) (fInt 0)) aNil)))
def F_marks_left : SS := (sSeq (sExpr (fCallN "need_both_tunes" 3 (aCons (fVar 0) (aCons (fVar 1) (aCons (fVar 2) aNil)))))
  (sRetP (fB gTuple (aCons (fCallN "lefts_by" 2 (aCons (fVar 1) (aCons (fVar 2) aNil))) aNil))))
def F_is_tied : SS := (sRetP (fBin gIn (fBin gMod (fBin gAdd (fVar 1) (fVar 2)) (fB gSum (aCons (fVar 0) aNil))) (fCallN "begins_of" 1 (aCons (fVar 0) aNil))))
def D_loose_by_1 : ST := (cNot (cVal (fCallN "is_tied" 3 (aCons (fVar 0) (aCons (fVar 3) (aCons (fVar 2) aNil))))))
def C_loose_by_2 : SE := (fVar 3)
def F_loose_by : SS := (sRetP (fComp [3] (.name 3) (iSeq (fVar 1)) D_loose_by_1 C_loose_by_2))
def C_tied_1 : SE := (fCallN "loose_by" 3 (aCons (fVar 2) (aCons (fVar 3) (aCons (fVar 5) aNil))))
def C_tied_2 : SE := (fAt (fVar 6) (fInt 0))
def F_tied : SS := (sSeq (sExpr (fCallN "need_both_tunes" 3 (aCons (fVar 0) (aCons (fVar 1) (aCons (fVar 2) aNil)))))
  (sSeq (sSet 3 (fCallN "lefts_by" 2 (aCons (fVar 1) (aCons (fVar 2) aNil))))
  (sSeq (sSet 4 (fComp [5] (.name 5) (iRange1 (aCons (fB gSum (aCons (fVar 2) aNil)) aNil)) cYes C_tied_1))
  (sSeq (sIf (cVal (fBin gIn (fLst aNil) (fVar 4)))
  (sRetP (fTup (aCons (fStr "tied") (aCons (fIdx (fVar 4) (fLst aNil)) aNil))))
  sNext)
  (sRetP (fTup (aCons (fStr "never") (aCons (fB gTuple (aCons (fComp [6] (.name 6) (iSeq (fVar 4)) cYes C_tied_2) aNil)) aNil))))))))
def C_shows_tied_1 : SE := (fAnd (fCallN "is_whole" 1 (aCons (fVar 7) aNil)) (fBin gIn (fVar 7) (fCallN "loose_by" 3 (aCons (fVar 2) (aCons (fVar 4) (aCons (fVar 6) aNil))))))
def F_shows_tied : SS := (sSeq (sExpr (fCallN "need_both_tunes" 3 (aCons (fVar 0) (aCons (fVar 1) (aCons (fVar 2) aNil)))))
  (sSeq (sUnp [4, 5] (fTup (aCons (fCallN "lefts_by" 2 (aCons (fVar 1) (aCons (fVar 2) aNil))) (aCons (fB gSum (aCons (fVar 2) aNil)) aNil))))
  (sSeq (sIf (cOr (cNot (cVal (fCallN "is_row" 3 (aCons (fVar 3) (aCons (fInt 2) (aCons (fInt 2) aNil)))))) (cNot (cVal (fIsI "str" (fAt (fVar 3) (fInt 0))))))
  (sRetP (fBl false))
  sNext)
  (sSeq (sIf (cVal (fBin gEq (fAt (fVar 3) (fInt 0)) (fStr "tied")))
  (sRetP (fAnd (fCallN "is_among" 3 (aCons (fAt (fVar 3) (fInt 1)) (aCons (fInt 0) (aCons (fBin gSub (fVar 5) (fInt 1)) aNil)))) (fBin gEq (fCallN "loose_by" 3 (aCons (fVar 2) (aCons (fVar 4) (aCons (fAt (fVar 3) (fInt 1)) aNil)))) (fLst aNil))))
  sNext)
  (sSeq (sIf (cOr (cVal (fBin gNe (fAt (fVar 3) (fInt 0)) (fStr "never"))) (cNot (cVal (fCallN "is_row" 3 (aCons (fAt (fVar 3) (fInt 1)) (aCons (fVar 5) (aCons (fVar 5) aNil)))))))
  (sRetP (fBl false))
  sNext)
  (sRetP (fB gAll (aCons (fComp [6, 7] (.names [6, 7]) (iEnumQ (aCons (fAt (fVar 3) (fInt 1)) aNil)) cYes C_shows_tied_1) aNil))))))))
def F__law_cell_at : SS := (sSeq (sIf (cVal (fBin gLt (fVar 1) (fB gLen (aCons (fVar 0) aNil))))
  (sRetP (fAt (fVar 0) (fVar 1)))
  sNext)
  (sRetP (fInt 0)))
def F__law_pen : SS := (sRetP (fNewL (aCons (fB gMax2 (aCons (fInt 0) (aCons (fBin gSub (fVar 0) (fBin gPow (fInt 10) (fInt 18))) aNil))) (aCons (fBin gAdd (fBin gMod (fVar 0) (fInt 2147483629)) (fInt 1)) (aCons (fInt 0) aNil)))))
def F__law_draw : SS := (sSeq (sIf (cVal (fBin gGt (fAt (fVar 0) (fInt 0)) (fInt 0)))
  (sSeq (sSet 2 (fBin gMod (fAt (fVar 0) (fInt 0)) (fVar 1)))
  (sSeq (sSetIx (fVar 0) (fInt 0) (fBin gDiv (fAt (fVar 0) (fInt 0)) (fVar 1)))
  (sRetP (fVar 2))))
  sNext)
  (sSeq (sSetIx (fVar 0) (fInt 2) (fBin gAdd (fAt (fVar 0) (fInt 2)) (fInt 1)))
  (sSeq (sSetIx (fVar 0) (fInt 1) (fBin gMod (fBin gAdd (fBin gAdd (fBin gMul2 (fAt (fVar 0) (fInt 1)) (fInt 48271)) (fBin gMul2 (fInt 1013) (fAt (fVar 0) (fInt 2)))) (fInt 11)) (fInt 2147483647)))
  (sSeq (sSet 3 (fBin gMod (fBin gAdd (fBin gAdd (fBin gMul2 (fAt (fVar 0) (fInt 1)) (fAt (fVar 0) (fInt 1))) (fBin gMul2 (fInt 40692) (fAt (fVar 0) (fInt 1)))) (fInt 7)) (fInt 2147483629)))
  (sRetP (fBin gMod (fBin gDiv (fBin gMod (fBin gMul2 (fVar 3) (fInt 69621)) (fInt 2147483647)) (fInt 16)) (fVar 1)))))))
def F__law_pick : SS := (sRetP (fAt (fVar 1) (fCallN "_law_draw" 2 (aCons (fVar 0) (aCons (fB gLen (aCons (fVar 1) aNil)) aNil)))))
def C__law_sky_1 : SE := (fCallN "_law_draw" 2 (aCons (fVar 0) (aCons (fVar 3) aNil)))
def B__law_sky_2 : SS := (sSeq (sSet 7 (fIf (cVal (fBin gGt (fCallN "_law_draw" 2 (aCons (fVar 0) (aCons (fInt 4) aNil))) (fInt 0))) (fBin gSub (fCallN "_law_draw" 2 (aCons (fVar 0) (aCons (fInt 5) aNil))) (fInt 2)) (fBin gSub (fCallN "_law_draw" 2 (aCons (fVar 0) (aCons (fInt 19) aNil))) (fInt 9))))
  (sSeq (sSet 8 (fB gTuple (aCons (fComp [9] (.name 9) (iRange1 (aCons (fCallN "_law_pick" 2 (aCons (fVar 0) (aCons (fVar 5) aNil))) aNil)) cYes C__law_sky_1) aNil)))
  (sApp 4 (fTup (aCons (fCallN "_law_draw" 2 (aCons (fVar 0) (aCons (fVar 2) aNil))) (aCons (fVar 7) (aCons (fVar 8) aNil)))))))
def F__law_sky : SS := (sSeq (sParX [2, 3, 4] [.p (fCallN "_law_pick" 2 (aCons (fVar 0) (aCons (fLst (aCons (fInt 4) (aCons (fInt 4) (aCons (fInt 5) (aCons (fInt 6) (aCons (fInt 6) (aCons (fInt 8) (aCons (fInt 12) aNil)))))))) aNil))), .p (fBin gAdd (fInt 1) (fCallN "_law_draw" 2 (aCons (fVar 0) (aCons (fInt 5) aNil)))), .o aNil])
  (sSeq (sSet 5 (fCallN "_law_pick" 2 (aCons (fVar 0) (aCons (fLst (aCons (fLst (aCons (fInt 1) (aCons (fInt 2) aNil))) (aCons (fLst (aCons (fInt 1) (aCons (fInt 2) (aCons (fInt 4) aNil)))) (aCons (fLst (aCons (fInt 1) (aCons (fInt 3) aNil))) (aCons (fLst (aCons (fInt 1) (aCons (fInt 1) (aCons (fInt 2) aNil)))) aNil))))) aNil))))
  (sSeq (sFor (.name 6) (iRange1 (aCons (fBin gAdd (fInt 1) (fCallN "_law_draw" 2 (aCons (fVar 0) (aCons (fVar 1) aNil)))) aNil))
  B__law_sky_2)
  (sRetP (fTup (aCons (fVar 2) (aCons (fVar 3) (aCons (fB gTuple (aOne (fOwn 4))) aNil))))))))
def C__law_item_1 : SE := (fBin gSub (fCallN "_law_draw" 2 (aCons (fVar 0) (aCons (fBin gAdd (fBin gMul2 (fInt 2) (fVar 3)) (fInt 1)) aNil))) (fVar 3))
def F__law_item : SS := (sSeq (sSet 4 (fCallN "_law_draw" 2 (aCons (fVar 0) (aCons (fIf (cVal (fBin gGt (fVar 2) (fInt 0))) (fInt 8) (fInt 6)) aNil))))
  (sSeq (sIf (cVal (fBin gLt (fVar 4) (fInt 2)))
  (sRetP (fBin gAdd (fTup (aCons (fStr "go") aNil)) (fB gTuple (aCons (fComp [5] (.name 5) (iRange1 (aCons (fInt 3) aNil)) cYes C__law_item_1) aNil))))
  sNext)
  (sSeq (sIf (cVal (fBin gLt (fVar 4) (fInt 5)))
  (sRetP (fAt (fLst (aCons (fTup (aCons (fStr "flip") (aCons (fCallN "_law_draw" 2 (aCons (fVar 0) (aCons (fB gLen (aCons (fAt (fVar 1) (fInt 2)) aNil)) aNil))) aNil))) (aCons (fTup (aCons (fStr "mark") aNil)) (aCons (fTup (aCons (fStr "mark") aNil)) aNil)))) (fBin gSub (fVar 4) (fInt 2))))
  sNext)
  (sSeq (sIf (cVal (fBin gEq (fVar 4) (fInt 5)))
  (sRetP (fTup (aCons (fStr "go") (aCons (fInt 1) (aCons (fInt 0) (aCons (fInt 0) aNil))))))
  sNext)
  (sRetP (fTup (aCons (fStr "again") (aCons (fCallN "_law_pick" 2 (aCons (fVar 0) (aCons (fLst (aCons (fInt 0) (aCons (fInt 1) (aCons (fInt 2) (aCons (fInt 3) (aCons (fCallN "_law_draw" 2 (aCons (fVar 0) (aCons (fInt 40) aNil))) aNil)))))) aNil))) (aCons (fCallN "_law_scene" 5 (aCons (fVar 0) (aCons (fVar 1) (aCons (fBin gSub (fVar 2) (fInt 1)) (aCons (fInt 3) (aCons (fVar 3) aNil)))))) aNil)))))))))
def C__law_scene_1 : SE := (fCallN "_law_item" 4 (aCons (fVar 0) (aCons (fVar 1) (aCons (fVar 2) (aCons (fVar 4) aNil)))))
def F__law_scene : SS := (sRetP (fB gTuple (aCons (fComp [5] (.name 5) (iRange1 (aCons (fCallN "_law_draw" 2 (aCons (fVar 0) (aCons (fBin gAdd (fVar 3) (fInt 1)) aNil))) aNil)) cYes C__law_scene_1) aNil)))
def C__law_tune_1 : SE := (fBin gAdd (fInt 1) (fCallN "_law_draw" 2 (aCons (fVar 0) (aCons (fVar 1) aNil))))
def F__law_tune : SS := (sSeq (sSet 1 (fCallN "_law_pick" 2 (aCons (fVar 0) (aCons (fLst (aCons (fInt 3) (aCons (fInt 5) (aCons (fInt 12) aNil)))) aNil))))
  (sRetP (fB gTuple (aCons (fComp [2] (.name 2) (iRange1 (aCons (fBin gAdd (fInt 1) (fCallN "_law_draw" 2 (aCons (fVar 0) (aCons (fCallN "_law_pick" 2 (aCons (fVar 0) (aCons (fLst (aCons (fInt 2) (aCons (fInt 4) (aCons (fInt 8) aNil)))) aNil))) aNil)))) aNil)) cYes C__law_tune_1) aNil))))
def F__law_small_scene : SS := (sSeq (sSet 2 (fBin gAdd (fCallN "_law_scene" 5 (aCons (fVar 0) (aCons (fVar 1) (aCons (fInt 2) (aCons (fInt 5) (aCons (fInt 3) aNil)))))) (fBin gMulA (fTup (aCons (fTup (aCons (fStr "mark") aNil)) aNil)) (fCallN "_law_draw" 2 (aCons (fVar 0) (aCons (fInt 2) aNil))))))
  (sSeq (sSet 3 (fTup (aCons (fTup (aCons (fStr "go") (aCons (fInt 1) (aCons (fInt 2) (aCons (fInt 3) aNil))))) (aCons (fTup (aCons (fStr "mark") aNil)) (aCons (fTup (aCons (fStr "again") (aCons (fInt 7) (aCons (fTup (aCons (fTup (aCons (fStr "mark") aNil)) (aCons (fTup (aCons (fStr "flip") (aCons (fInt 0) aNil))) aNil))) aNil)))) aNil)))))
  (sRetP (fIf (cVal (fBin gLt (fCallN "_law_many" 1 (aCons (fVar 2) aNil)) (fInt 600))) (fVar 2) (fVar 3)))))
def B__law_many_1 : SS := (sSet 1 (fBin gAdd (fVar 1) (fIf (cVal (fBin gEq (fAt (fVar 2) (fInt 0)) (fStr "again"))) (fBin gMul2 (fAt (fVar 2) (fInt 1)) (fCallN "_law_many" 1 (aCons (fAt (fVar 2) (fInt 2)) aNil))) (fInt 1))))
def F__law_many : SS := (sSeq (sSet 1 (fInt 0))
  (sSeq (sFor (.name 2) (iSeq (fVar 0))
  B__law_many_1)
  (sRetP (fVar 1))))
def D__law_all_leads_1 : ST := (cVal (fCallN "shows_tied" 4 (aCons (fVar 0) (aCons (fVar 1) (aCons (fVar 2) (aCons (fTup (aCons (fStr "tied") (aCons (fVar 3) aNil))) aNil))))))
def C__law_all_leads_2 : SE := (fVar 3)
def F__law_all_leads : SS := (sRetP (fComp [3] (.name 3) (iRange1 (aCons (fB gSum (aCons (fVar 2) aNil)) aNil)) D__law_all_leads_1 C__law_all_leads_2))
def C__law_marks_right_1 : SE := (fBin gMod (fBin gSub (fVar 6) (fVar 9)) (fVar 4))
def C__law_marks_right_2 : SE := (fBin gMod (fBin gAdd (fVar 9) (fVar 3)) (fVar 4))
def C__law_marks_right_3 : SE := (fBin gMod (fBin gAdd (fVar 9) (fVar 6)) (fVar 4))
def F__law_marks_right : SS := (sSeq (sUnp [4, 5, 6] (fTup (aCons (fB gSum (aCons (fVar 2) aNil)) (aCons (fCallN "marks_left" 3 (aCons (fVar 0) (aCons (fVar 1) (aCons (fVar 2) aNil)))) (aCons (fCallN "beats_of" 2 (aCons (fVar 0) (aCons (fVar 1) aNil))) aNil)))))
  (sSeq (sIf (cVal (fBin gNe (fCallN "marks_left" 3 (aCons (fVar 0) (aCons (fCallN "turned_about" 2 (aCons (fVar 0) (aCons (fVar 1) aNil))) (aCons (fVar 2) aNil)))) (fB gTuple (aCons (fB gSorted (aCons (fComp [9] (.name 9) (iSeq (fVar 5)) cYes C__law_marks_right_1) aNil)) aNil))))
  (sRetP (fBl false))
  sNext)
  (sSeq (sSet 7 (fTup (aCons (fTup (aCons (fStr "again") (aCons (fVar 3) (aCons (fTup (aCons (fTup (aCons (fStr "flip") (aCons (fInt 0) aNil))) aNil)) aNil)))) (aCons (fTup (aCons (fStr "again") (aCons (fInt 1) (aCons (fVar 1) aNil)))) aNil))))
  (sSeq (sIf (cVal (fBin gNe (fCallN "marks_left" 3 (aCons (fVar 0) (aCons (fVar 7) (aCons (fVar 2) aNil)))) (fB gTuple (aCons (fB gSorted (aCons (fComp [9] (.name 9) (iSeq (fVar 5)) cYes C__law_marks_right_2) aNil)) aNil))))
  (sRetP (fBl false))
  sNext)
  (sSeq (sSet 8 (fSortSetA (fBin gAdd (fB gList (aCons (fVar 5) aNil)) (fComp [9] (.name 9) (iSeq (fVar 5)) cYes C__law_marks_right_3))))
  (sSeq (sIf (cVal (fBin gNe (fB gList (aCons (fCallN "marks_left" 3 (aCons (fVar 0) (aCons (fTup (aCons (fTup (aCons (fStr "again") (aCons (fInt 2) (aCons (fVar 1) aNil)))) aNil)) (aCons (fVar 2) aNil)))) aNil)) (fVar 8)))
  (sRetP (fBl false))
  sNext)
  (sRetP (fBin gEq (fBin gEq (fCallN "marks_of" 2 (aCons (fVar 0) (aCons (fVar 1) aNil))) (fInt 0)) (fBin gEq (fVar 5) (fTup aNil))))))))))
def C__law_leads_right_1 : SE := (fBin gMod (fBin gSub (fVar 10) (fVar 3)) (fVar 4))
def C__law_leads_right_2 : SE := (fBin gMod (fBin gSub (fVar 10) (fAt (fVar 2) (fInt 0))) (fVar 4))
def C__law_leads_right_3 : SE := (fBin gAdd (fVar 10) (fVar 4))
def F__law_leads_right : SS := (sSeq (sUnp [4, 5] (fTup (aCons (fB gSum (aCons (fVar 2) aNil)) (aCons (fCallN "_law_all_leads" 3 (aCons (fVar 0) (aCons (fVar 1) (aCons (fVar 2) aNil)))) aNil))))
  (sSeq (sUnp [6, 7] (fCallN "tied" 3 (aCons (fVar 0) (aCons (fVar 1) (aCons (fVar 2) aNil)))))
  (sSeq (sIf (cOr (cVal (fBin gNe (fBin gEq (fVar 6) (fStr "tied")) (fBin gNe (fVar 5) (fLst aNil)))) (cAnd (cVal (fBin gEq (fVar 6) (fStr "tied"))) (cVal (fBin gNe (fAt (fVar 5) (fInt 0)) (fVar 7)))))
  (sRetP (fBl false))
  sNext)
  (sSeq (sSet 8 (fTup (aCons (fTup (aCons (fStr "again") (aCons (fVar 3) (aCons (fTup (aCons (fTup (aCons (fStr "flip") (aCons (fInt 0) aNil))) aNil)) aNil)))) (aCons (fTup (aCons (fStr "again") (aCons (fInt 1) (aCons (fVar 1) aNil)))) aNil))))
  (sSeq (sIf (cVal (fBin gNe (fCallN "_law_all_leads" 3 (aCons (fVar 0) (aCons (fVar 8) (aCons (fVar 2) aNil)))) (fB gSorted (aCons (fComp [10] (.name 10) (iSeq (fVar 5)) cYes C__law_leads_right_1) aNil))))
  (sRetP (fBl false))
  sNext)
  (sSeq (sIf (cVal (fBin gNe (fCallN "_law_all_leads" 3 (aCons (fVar 0) (aCons (fVar 1) (aCons (fBin gAdd (fSl (fVar 2) (oSome (fInt 1)) oNone) (fSl (fVar 2) oNone (oSome (fInt 1)))) aNil)))) (fB gSorted (aCons (fComp [10] (.name 10) (iSeq (fVar 5)) cYes C__law_leads_right_2) aNil))))
  (sRetP (fBl false))
  sNext)
  (sSeq (sSet 9 (fBin gAdd (fVar 5) (fComp [10] (.name 10) (iSeq (fVar 5)) cYes C__law_leads_right_3)))
  (sSeq (sIf (cAnd (cVal (fBin gLt (fB gLen (aCons (fVar 2) aNil)) (fInt 5))) (cVal (fBin gNe (fCallN "_law_all_leads" 3 (aCons (fVar 0) (aCons (fVar 1) (aCons (fBin gMul2 (fVar 2) (fInt 2)) aNil)))) (fVar 9))))
  (sRetP (fBl false))
  sNext)
  (sRetP (fOr (fBin gEq (fVar 6) (fStr "tied")) (fBin gNe (fCallN "marks_left" 3 (aCons (fVar 0) (aCons (fVar 1) (aCons (fVar 2) aNil)))) (fTup aNil))))))))))))
def F__law_flat : SS := (sRetP (fIf (cVal (fBin gLt (fCallN "_law_deep" 1 (aCons (fVar 0) aNil)) (fInt 3))) (fVar 0) (fTup (aCons (fTup (aCons (fStr "mark") aNil)) (aCons (fTup (aCons (fStr "go") (aCons (fInt 1) (aCons (fInt 0) (aCons (fInt 0) aNil))))) aNil)))))
def D__law_deep_1 : ST := (cVal (fBin gEq (fAt (fVar 1) (fInt 0)) (fStr "again")))
def C__law_deep_2 : SE := (fBin gAdd (fInt 1) (fCallN "_law_deep" 1 (aCons (fAt (fVar 1) (fInt 2)) aNil)))
def F__law_deep : SS := (sRetP (fB gMaxL (aCons (fBin gAdd (fLst (aCons (fInt 0) aNil)) (fComp [1] (.name 1) (iSeq (fVar 0)) D__law_deep_1 C__law_deep_2)) aNil)))
def B_law_1 : SS := (sSeq (sPar [6, 7] (aCons (fCallN "_law_tune" 1 (aCons (fVar 2) aNil)) (aCons (fCallN "_law_draw" 2 (aCons (fVar 2) (aCons (fInt 30) aNil))) aNil)))
  (sIf (cOr (cNot (cVal (fCallN "_law_marks_right" 4 (aCons (fVar 3) (aCons (fVar 5) (aCons (fVar 6) (aCons (fVar 7) aNil))))))) (cNot (cVal (fCallN "_law_leads_right" 4 (aCons (fVar 3) (aCons (fVar 5) (aCons (fVar 6) (aCons (fVar 7) aNil))))))))
  (sRetP (fBl false))
  sNext))
def B_law_2 : SS := (sSeq (sSet 2 (fCallN "_law_pen" 1 (aCons (fCallN "_law_cell_at" 2 (aCons (fVar 0) (aCons (fVar 1) aNil))) aNil)))
  (sSeq (sSet 3 (fCallN "_law_sky" 2 (aCons (fVar 2) (aCons (fInt 3) aNil))))
  (sSeq (sSet 4 (fBin gAdd (fBin gMulA (fTup (aCons (fTup (aCons (fStr "go") (aCons (fInt 1) (aCons (fInt 0) (aCons (fInt 0) aNil))))) aNil)) (fCallN "_law_draw" 2 (aCons (fVar 2) (aCons (fInt 6) aNil)))) (fTup (aCons (fTup (aCons (fStr "mark") aNil)) aNil))))
  (sFor (.name 5) (iSeq (fLst (aCons (fCallN "_law_flat" 1 (aCons (fCallN "_law_small_scene" 2 (aCons (fVar 2) (aCons (fVar 3) aNil))) aNil)) (aCons (fVar 4) (aCons (fTup (aCons (fTup (aCons (fStr "again") (aCons (fInt 3) (aCons (fVar 4) aNil)))) aNil)) aNil)))))
  B_law_1))))
def F_law : SS := (sSeq (sFor (.name 1) (iRange1 (aCons (fB gMax2 (aCons (fInt 1) (aCons (fB gMin2 (aCons (fB gLen (aCons (fVar 0) aNil)) (aCons (fInt 3) aNil))) aNil))) aNil))
  B_law_2)
  (sRetP (fBl true)))
def T : Tab := fun x => ([("is_whole", ⟨1, 1, F_is_whole⟩),
  ("is_among", ⟨3, 3, F_is_among⟩),
  ("is_row", ⟨3, 3, F_is_row⟩),
  ("is_light_of", ⟨3, 4, F_is_light_of⟩),
  ("is_sky", ⟨1, 2, F_is_sky⟩),
  ("need_sky", ⟨1, 1, F_need_sky⟩),
  ("is_item", ⟨3, 4, F_is_item⟩),
  ("are_items", ⟨3, 4, F_are_items⟩),
  ("size_of", ⟨1, 3, F_size_of⟩),
  ("is_scene_by", ⟨2, 2, F_is_scene_by⟩),
  ("need_scene", ⟨2, 2, F_need_scene⟩),
  ("need_both_scenes", ⟨2, 2, F_need_both_scenes⟩),
  ("beats_of", ⟨2, 2, F_beats_of⟩),
  ("marks_in", ⟨1, 3, F_marks_in⟩),
  ("marks_of", ⟨2, 2, F_marks_of⟩),
  ("about", ⟨1, 4, F_about⟩),
  ("turned_about", ⟨2, 2, F_turned_about⟩),
  ("is_tune", ⟨1, 2, F_is_tune⟩),
  ("need_tune", ⟨1, 1, F_need_tune⟩),
  ("begins_of", ⟨1, 2, F_begins_of⟩),
  ("marks_by", ⟨2, 9, F_marks_by⟩),
  ("need_both_tunes", ⟨3, 3, F_need_both_tunes⟩),
  ("lefts_by", ⟨2, 2, F_lefts_by⟩),
  ("marks_left", ⟨3, 3, F_marks_left⟩),
  ("is_tied", ⟨3, 3, F_is_tied⟩),
  ("loose_by", ⟨3, 4, F_loose_by⟩),
  ("tied", ⟨3, 7, F_tied⟩),
  ("shows_tied", ⟨4, 8, F_shows_tied⟩),
  ("_law_cell_at", ⟨2, 2, F__law_cell_at⟩),
  ("_law_pen", ⟨1, 1, F__law_pen⟩),
  ("_law_draw", ⟨2, 4, F__law_draw⟩),
  ("_law_pick", ⟨2, 2, F__law_pick⟩),
  ("_law_sky", ⟨2, 10, F__law_sky⟩),
  ("_law_item", ⟨4, 6, F__law_item⟩),
  ("_law_scene", ⟨5, 6, F__law_scene⟩),
  ("_law_tune", ⟨1, 3, F__law_tune⟩),
  ("_law_small_scene", ⟨2, 4, F__law_small_scene⟩),
  ("_law_many", ⟨1, 3, F__law_many⟩),
  ("_law_all_leads", ⟨3, 4, F__law_all_leads⟩),
  ("_law_marks_right", ⟨4, 10, F__law_marks_right⟩),
  ("_law_leads_right", ⟨4, 11, F__law_leads_right⟩),
  ("_law_flat", ⟨1, 1, F__law_flat⟩),
  ("_law_deep", ⟨1, 2, F__law_deep⟩),
  ("law", ⟨1, 8, F_law⟩)] : List (String × FD)).lookup x
theorem T_is_whole : T "is_whole" = some ⟨1, 1, F_is_whole⟩ := by simp [T, List.lookup]
theorem T_is_among : T "is_among" = some ⟨3, 3, F_is_among⟩ := by simp [T, List.lookup]
theorem T_is_row : T "is_row" = some ⟨3, 3, F_is_row⟩ := by simp [T, List.lookup]
theorem T_is_light_of : T "is_light_of" = some ⟨3, 4, F_is_light_of⟩ := by simp [T, List.lookup]
theorem T_is_sky : T "is_sky" = some ⟨1, 2, F_is_sky⟩ := by simp [T, List.lookup]
theorem T_need_sky : T "need_sky" = some ⟨1, 1, F_need_sky⟩ := by simp [T, List.lookup]
theorem T_is_item : T "is_item" = some ⟨3, 4, F_is_item⟩ := by simp [T, List.lookup]
theorem T_are_items : T "are_items" = some ⟨3, 4, F_are_items⟩ := by simp [T, List.lookup]
theorem T_size_of : T "size_of" = some ⟨1, 3, F_size_of⟩ := by simp [T, List.lookup]
theorem T_is_scene_by : T "is_scene_by" = some ⟨2, 2, F_is_scene_by⟩ := by simp [T, List.lookup]
theorem T_need_scene : T "need_scene" = some ⟨2, 2, F_need_scene⟩ := by simp [T, List.lookup]
theorem T_need_both_scenes : T "need_both_scenes" = some ⟨2, 2, F_need_both_scenes⟩ := by simp [T, List.lookup]
theorem T_beats_of : T "beats_of" = some ⟨2, 2, F_beats_of⟩ := by simp [T, List.lookup]
theorem T_marks_in : T "marks_in" = some ⟨1, 3, F_marks_in⟩ := by simp [T, List.lookup]
theorem T_marks_of : T "marks_of" = some ⟨2, 2, F_marks_of⟩ := by simp [T, List.lookup]
theorem T_about : T "about" = some ⟨1, 4, F_about⟩ := by simp [T, List.lookup]
theorem T_turned_about : T "turned_about" = some ⟨2, 2, F_turned_about⟩ := by simp [T, List.lookup]
theorem T_is_tune : T "is_tune" = some ⟨1, 2, F_is_tune⟩ := by simp [T, List.lookup]
theorem T_need_tune : T "need_tune" = some ⟨1, 1, F_need_tune⟩ := by simp [T, List.lookup]
theorem T_begins_of : T "begins_of" = some ⟨1, 2, F_begins_of⟩ := by simp [T, List.lookup]
theorem T_marks_by : T "marks_by" = some ⟨2, 9, F_marks_by⟩ := by simp [T, List.lookup]
theorem T_need_both_tunes : T "need_both_tunes" = some ⟨3, 3, F_need_both_tunes⟩ := by simp [T, List.lookup]
theorem T_lefts_by : T "lefts_by" = some ⟨2, 2, F_lefts_by⟩ := by simp [T, List.lookup]
theorem T_marks_left : T "marks_left" = some ⟨3, 3, F_marks_left⟩ := by simp [T, List.lookup]
theorem T_is_tied : T "is_tied" = some ⟨3, 3, F_is_tied⟩ := by simp [T, List.lookup]
theorem T_loose_by : T "loose_by" = some ⟨3, 4, F_loose_by⟩ := by simp [T, List.lookup]
theorem T_tied : T "tied" = some ⟨3, 7, F_tied⟩ := by simp [T, List.lookup]
theorem T_shows_tied : T "shows_tied" = some ⟨4, 8, F_shows_tied⟩ := by simp [T, List.lookup]
theorem T__law_cell_at : T "_law_cell_at" = some ⟨2, 2, F__law_cell_at⟩ := by simp [T, List.lookup]
theorem T__law_pen : T "_law_pen" = some ⟨1, 1, F__law_pen⟩ := by simp [T, List.lookup]
theorem T__law_draw : T "_law_draw" = some ⟨2, 4, F__law_draw⟩ := by simp [T, List.lookup]
theorem T__law_pick : T "_law_pick" = some ⟨2, 2, F__law_pick⟩ := by simp [T, List.lookup]
theorem T__law_sky : T "_law_sky" = some ⟨2, 10, F__law_sky⟩ := by simp [T, List.lookup]
theorem T__law_item : T "_law_item" = some ⟨4, 6, F__law_item⟩ := by simp [T, List.lookup]
theorem T__law_scene : T "_law_scene" = some ⟨5, 6, F__law_scene⟩ := by simp [T, List.lookup]
theorem T__law_tune : T "_law_tune" = some ⟨1, 3, F__law_tune⟩ := by simp [T, List.lookup]
theorem T__law_small_scene : T "_law_small_scene" = some ⟨2, 4, F__law_small_scene⟩ := by simp [T, List.lookup]
theorem T__law_many : T "_law_many" = some ⟨1, 3, F__law_many⟩ := by simp [T, List.lookup]
theorem T__law_all_leads : T "_law_all_leads" = some ⟨3, 4, F__law_all_leads⟩ := by simp [T, List.lookup]
theorem T__law_marks_right : T "_law_marks_right" = some ⟨4, 10, F__law_marks_right⟩ := by simp [T, List.lookup]
theorem T__law_leads_right : T "_law_leads_right" = some ⟨4, 11, F__law_leads_right⟩ := by simp [T, List.lookup]
theorem T__law_flat : T "_law_flat" = some ⟨1, 1, F__law_flat⟩ := by simp [T, List.lookup]
theorem T__law_deep : T "_law_deep" = some ⟨1, 2, F__law_deep⟩ := by simp [T, List.lookup]
theorem T_law : T "law" = some ⟨1, 8, F_law⟩ := by simp [T, List.lookup]
end Q

namespace Q
open PySem PySem.Spec PyProof.Rows L2
def P_is_whole : SS := (sRetP (fAnd (fIsI "int" (fVar 0)) (fNot (fIsI "bool" (fVar 0)))))
abbrev Has_is_whole (T : Tab) : Prop := T "is_whole" = some ⟨1, 1, P_is_whole⟩
def P_is_among : SS := (sRetP (fAnd (fCallN "is_whole" 1 (aCons (fVar 0) aNil)) (fChain gLe gLe (fVar 1) (fVar 0) (fVar 2))))
abbrev Has_is_among (T : Tab) : Prop := T "is_among" = some ⟨3, 3, P_is_among⟩
def P_is_row : SS := (sRetP (fAnd (fIsI "tuple" (fVar 0)) (fChain gLe gLe (fVar 1) (fB gLen (aCons (fVar 0) aNil)) (fVar 2))))
abbrev Has_is_row (T : Tab) : Prop := T "is_row" = some ⟨3, 3, P_is_row⟩
def PC_is_light_of_1 : SE := (fCallN "is_among" 3 (aCons (fVar 3) (aCons (fInt 0) (aCons (fBin gSub (fVar 2) (fInt 1)) aNil))))
def P_is_light_of : SS := (sSeq (sIf (cOr (cNot (cVal (fCallN "is_row" 3 (aCons (fVar 0) (aCons (fInt 3) (aCons (fInt 3) aNil)))))) (cNot (cVal (fCallN "is_among" 3 (aCons (fAt (fVar 0) (fInt 0)) (aCons (fInt 0) (aCons (fBin gSub (fVar 1) (fInt 1)) aNil)))))))
  (sRetP (fBl false))
  sNext)
  (sSeq (sIf (cOr (cNot (cVal (fCallN "is_among" 3 (aCons (fAt (fVar 0) (fInt 1)) (aCons (fNeg (fInt 9)) (aCons (fInt 9) aNil)))))) (cNot (cVal (fCallN "is_row" 3 (aCons (fAt (fVar 0) (fInt 2)) (aCons (fInt 1) (aCons (fInt 4) aNil)))))))
  (sRetP (fBl false))
  sNext)
  (sRetP (fB gAll (aCons (fComp [3] (.name 3) (iSeq (fAt (fVar 0) (fInt 2))) cYes PC_is_light_of_1) aNil)))))
abbrev Has_is_light_of (T : Tab) : Prop := T "is_light_of" = some ⟨3, 4, P_is_light_of⟩
def PC_is_sky_1 : SE := (fCallN "is_light_of" 3 (aCons (fVar 1) (aCons (fAt (fVar 0) (fInt 0)) (aCons (fAt (fVar 0) (fInt 1)) aNil))))
def P_is_sky : SS := (sSeq (sIf (cOr (cNot (cVal (fCallN "is_row" 3 (aCons (fVar 0) (aCons (fInt 3) (aCons (fInt 3) aNil)))))) (cNot (cVal (fCallN "is_among" 3 (aCons (fAt (fVar 0) (fInt 0)) (aCons (fInt 4) (aCons (fInt 12) aNil)))))))
  (sRetP (fBl false))
  sNext)
  (sSeq (sIf (cOr (cNot (cVal (fCallN "is_among" 3 (aCons (fAt (fVar 0) (fInt 1)) (aCons (fInt 1) (aCons (fInt 5) aNil)))))) (cNot (cVal (fCallN "is_row" 3 (aCons (fAt (fVar 0) (fInt 2)) (aCons (fInt 1) (aCons (fInt 6) aNil)))))))
  (sRetP (fBl false))
  sNext)
  (sRetP (fB gAll (aCons (fComp [1] (.name 1) (iSeq (fAt (fVar 0) (fInt 2))) cYes PC_is_sky_1) aNil)))))
abbrev Has_is_sky (T : Tab) : Prop := T "is_sky" = some ⟨1, 2, P_is_sky⟩
def P_need_sky : SS := (sIf (cNot (cVal (fCallN "is_sky" 1 (aCons (fVar 0) aNil))))
  sNever
  sNext)
abbrev Has_need_sky (T : Tab) : Prop := T "need_sky" = some ⟨1, 1, P_need_sky⟩
def PC_is_item_1 : SE := (fCallN "is_among" 3 (aCons (fVar 3) (aCons (fBin gSub (fInt 0) (fInt 99)) (aCons (fInt 99) aNil))))
def P_is_item : SS := (sSeq (sIf (cOr (cNot (cVal (fIsI "tuple" (fVar 1)))) (cOr (cVal (fBin gEq (fVar 1) (fTup aNil))) (cNot (cVal (fIsI "str" (fAt (fVar 1) (fInt 0)))))))
  (sRetP (fBl false))
  sNext)
  (sSeq (sIf (cVal (fBin gEq (fAt (fVar 1) (fInt 0)) (fStr "go")))
  (sRetP (fAnd (fBin gEq (fB gLen (aCons (fVar 1) aNil)) (fInt 4)) (fB gAll (aCons (fComp [3] (.name 3) (iSeq (fSl (fVar 1) (oSome (fInt 1)) oNone)) cYes PC_is_item_1) aNil))))
  sNext)
  (sSeq (sIf (cVal (fBin gEq (fAt (fVar 1) (fInt 0)) (fStr "flip")))
  (sRetP (fAnd (fBin gEq (fB gLen (aCons (fVar 1) aNil)) (fInt 2)) (fCallN "is_among" 3 (aCons (fAt (fVar 1) (fInt 1)) (aCons (fInt 0) (aCons (fBin gSub (fB gLen (aCons (fAt (fVar 0) (fInt 2)) aNil)) (fInt 1)) aNil))))))
  sNext)
  (sSeq (sIf (cVal (fBin gEq (fAt (fVar 1) (fInt 0)) (fStr "again")))
  (sRetP (fAnd (fBin gEq (fB gLen (aCons (fVar 1) aNil)) (fInt 3)) (fAnd (fBin gGt (fVar 2) (fInt 0)) (fAnd (fCallN "is_among" 3 (aCons (fAt (fVar 1) (fInt 1)) (aCons (fInt 0) (aCons (fInt 1000000) aNil)))) (fCallN "are_items" 3 (aCons (fVar 0) (aCons (fAt (fVar 1) (fInt 2)) (aCons (fBin gSub (fVar 2) (fInt 1)) aNil))))))))
  sNext)
  (sRetP (fBin gEq (fVar 1) (fTup (aCons (fStr "mark") aNil))))))))
abbrev Has_is_item (T : Tab) : Prop := T "is_item" = some ⟨3, 4, P_is_item⟩
def PC_are_items_1 : SE := (fCallN "is_item" 3 (aCons (fVar 0) (aCons (fVar 3) (aCons (fVar 2) aNil))))
def P_are_items : SS := (sRetP (fAnd (fCallN "is_row" 3 (aCons (fVar 1) (aCons (fInt 0) (aCons (fInt 8) aNil)))) (fB gAll (aCons (fComp [3] (.name 3) (iSeq (fVar 1)) cYes PC_are_items_1) aNil))))
abbrev Has_are_items (T : Tab) : Prop := T "are_items" = some ⟨3, 4, P_are_items⟩
def PB_size_of_1 : SS := (sIf (cVal (fBin gEq (fAt (fVar 2) (fInt 0)) (fStr "again")))
  (sAug 1 gAddI (fBin gMul2 (fAt (fVar 2) (fInt 1)) (fCallN "size_of" 1 (aCons (fAt (fVar 2) (fInt 2)) aNil))))
  (sAug 1 gAddI (fB gInt (aCons (fBin gNe (fAt (fVar 2) (fInt 0)) (fStr "mark")) aNil))))
def P_size_of : SS := (sSeq (sSet 1 (fInt 0))
  (sSeq (sFor (.name 2) (iSeq (fVar 0))
  PB_size_of_1)
  (sRetP (fVar 1))))
abbrev Has_size_of (T : Tab) : Prop := T "size_of" = some ⟨1, 3, P_size_of⟩
def P_is_scene_by : SS := (sRetP (fAnd (fCallN "are_items" 3 (aCons (fVar 0) (aCons (fVar 1) (aCons (fInt 3) aNil)))) (fBin gLe (fCallN "size_of" 1 (aCons (fVar 1) aNil)) (fInt 100000000000))))
abbrev Has_is_scene_by (T : Tab) : Prop := T "is_scene_by" = some ⟨2, 2, P_is_scene_by⟩
def P_need_scene : SS := (sIf (cNot (cVal (fCallN "is_scene_by" 2 (aCons (fVar 0) (aCons (fVar 1) aNil)))))
  sNever
  sNext)
abbrev Has_need_scene (T : Tab) : Prop := T "need_scene" = some ⟨2, 2, P_need_scene⟩
def PC_about_1 : SE := (fBin gSub (fInt 0) (fVar 3))
def PB_about_2 : SS := (sSeq (sIf (cVal (fBin gEq (fAt (fVar 2) (fInt 0)) (fStr "go")))
  (sSet 2 (fBin gAdd (fTup (aCons (fStr "go") aNil)) (fB gTuple (aCons (fComp [3] (.name 3) (iSeq (fSl (fVar 2) (oSome (fInt 1)) oNone)) cYes PC_about_1) aNil))))
  (sIf (cVal (fBin gEq (fAt (fVar 2) (fInt 0)) (fStr "again")))
  (sSet 2 (fBin gAdd (fSl (fVar 2) oNone (oSome (fInt 2))) (fTup (aCons (fCallN "about" 1 (aCons (fAt (fVar 2) (fInt 2)) aNil)) aNil))))
  sNext))
  (sApp 1 (fVar 2)))
def P_about : SS := (sSeq (sNew 1 aNil)
  (sSeq (sFor (.name 2) (iSeq (fRev (fVar 0)))
  PB_about_2)
  (sRetP (fB gTuple (aOne (fOwn 1))))))
abbrev Has_about (T : Tab) : Prop := T "about" = some ⟨1, 4, P_about⟩
def PC_is_tune_1 : SE := (fCallN "is_among" 3 (aCons (fVar 1) (aCons (fInt 1) (aCons (fInt 12) aNil))))
def P_is_tune : SS := (sRetP (fAnd (fCallN "is_row" 3 (aCons (fVar 0) (aCons (fInt 1) (aCons (fInt 8) aNil)))) (fB gAll (aCons (fComp [1] (.name 1) (iSeq (fVar 0)) cYes PC_is_tune_1) aNil))))
abbrev Has_is_tune (T : Tab) : Prop := T "is_tune" = some ⟨1, 2, P_is_tune⟩
def P_need_tune : SS := (sIf (cNot (cVal (fCallN "is_tune" 1 (aCons (fVar 0) aNil))))
  sNever
  sNext)
abbrev Has_need_tune (T : Tab) : Prop := T "need_tune" = some ⟨1, 1, P_need_tune⟩
def PC_begins_of_1 : SE := (fB gSum (aCons (fSl (fVar 0) oNone (oSome (fVar 1))) aNil))
def P_begins_of : SS := (sRetP (fComp [1] (.name 1) (iRange1 (aCons (fB gLen (aCons (fVar 0) aNil)) aNil)) cYes PC_begins_of_1))
abbrev Has_begins_of (T : Tab) : Prop := T "begins_of" = some ⟨1, 2, P_begins_of⟩
def PB_marks_in_1 : SS := (sIf (cVal (fBin gEq (fAt (fVar 2) (fInt 0)) (fStr "again")))
  (sAug 1 gAddI (fBin gMul2 (fAt (fVar 2) (fInt 1)) (fCallN "marks_in" 1 (aCons (fAt (fVar 2) (fInt 2)) aNil))))
  (sAug 1 gAddI (fB gInt (aCons (fBin gEq (fAt (fVar 2) (fInt 0)) (fStr "mark")) aNil))))
def P_marks_in : SS := (sSeq (sSet 1 (fInt 0))
  (sSeq (sFor (.name 2) (iSeq (fVar 0))
  PB_marks_in_1)
  (sRetP (fVar 1))))
abbrev Has_marks_in (T : Tab) : Prop := T "marks_in" = some ⟨1, 3, P_marks_in⟩
end Q

namespace Q
open PySem PySem.Spec PyProof.Rows L2
def U_needB : SS := (sSeq (sExpr (fCallN "need_sky" 1 (aCons (fVar 0) aNil)))
  (sSeq (sExpr (fCallN "need_scene" 2 (aCons (fVar 0) (aCons (fVar 1) aNil))))
  (sExpr (fCallN "need_tune" 1 (aCons (fVar 2) aNil)))))
def UC_marks_by_1 : SE := (fBin gMod (fBin gAdd (fBin gAdd (fVar 3) (fBin gMul2 (fVar 7) (fVar 6))) (fVar 8)) (fVar 1))
def UB_marks_by_2 : SS := (sUpd 2 (fDComp [8] (.name 8) (iSeqD (fVar 5)) cYes UC_marks_by_1))
def UB_marks_by_3 : SS := (sIf (cVal (fBin gEq (fAt (fVar 4) (fInt 0)) (fStr "mark")))
  (sPutD 2 (fVar 3) (fBl true))
  (sIf (cVal (fBin gEq (fAt (fVar 4) (fInt 0)) (fStr "again")))
  (sSeq (sUnp [5, 6] (fCallN "marks_by" 2 (aCons (fAt (fVar 4) (fInt 2)) (aCons (fVar 1) aNil))))
  (sSeq (sFor (.name 7) (iRange1 (aCons (fB gMin2 (aCons (fAt (fVar 4) (fInt 1)) (aCons (fVar 1) aNil))) aNil))
  UB_marks_by_2)
  (sSet 3 (fBin gMod (fBin gAdd (fVar 3) (fBin gMul2 (fAt (fVar 4) (fInt 1)) (fVar 6))) (fVar 1)))))
  (sSet 3 (fBin gMod (fBin gAdd (fVar 3) (fInt 1)) (fVar 1)))))
def U_marks_by : SS := (sSeq (sParX [2, 3] [.od, .p (fInt 0)])
  (sSeq (sFor (.name 4) (iSeq (fVar 0))
  UB_marks_by_3)
  (sSeq (sFreezeD 2) (sRetP (fTup (aCons (fVar 2) (aCons (fVar 3) aNil)))))))
abbrev HasU_marks_by (T : Tab) : Prop := T "marks_by" = some ⟨2, 9, U_marks_by⟩
def U_lefts_by : SS := (sRetP (fB gSortedDA (aCons (fAt (fCallN "marks_by" 2 (aCons (fVar 0) (aCons (fB gSum (aCons (fVar 1) aNil)) aNil))) (fInt 0)) aNil)))
abbrev HasU_lefts_by (T : Tab) : Prop := T "lefts_by" = some ⟨2, 2, U_lefts_by⟩
def U_marks_left (nb : String) : SS := (sSeq (sExpr (fCallN nb 3 (aCons (fVar 0) (aCons (fVar 1) (aCons (fVar 2) aNil)))))
  (sRetP (fB gTuple (aCons (fCallN "lefts_by" 2 (aCons (fVar 1) (aCons (fVar 2) aNil))) aNil))))
abbrev HasU_marks_left (nb : String) (T : Tab) : Prop := T "marks_left" = some ⟨3, 3, U_marks_left nb⟩
def U_is_tied : SS := (sRetP (fBin gIn (fBin gMod (fBin gAdd (fVar 1) (fVar 2)) (fB gSum (aCons (fVar 0) aNil))) (fCallN "begins_of" 1 (aCons (fVar 0) aNil))))
abbrev HasU_is_tied (T : Tab) : Prop := T "is_tied" = some ⟨3, 3, U_is_tied⟩
def UD_loose_by_1 : ST := (cNot (cVal (fCallN "is_tied" 3 (aCons (fVar 0) (aCons (fVar 3) (aCons (fVar 2) aNil))))))
def UC_loose_by_2 : SE := (fVar 3)
def U_loose_by : SS := (sRetP (fComp [3] (.name 3) (iSeq (fVar 1)) UD_loose_by_1 UC_loose_by_2))
abbrev HasU_loose_by (T : Tab) : Prop := T "loose_by" = some ⟨3, 4, U_loose_by⟩
def UC_tied_1 : SE := (fCallN "loose_by" 3 (aCons (fVar 2) (aCons (fVar 3) (aCons (fVar 5) aNil))))
def UC_tied_2 : SE := (fAt (fVar 6) (fInt 0))
def U_tied (nb : String) : SS := (sSeq (sExpr (fCallN nb 3 (aCons (fVar 0) (aCons (fVar 1) (aCons (fVar 2) aNil)))))
  (sSeq (sSet 3 (fCallN "lefts_by" 2 (aCons (fVar 1) (aCons (fVar 2) aNil))))
  (sSeq (sSet 4 (fComp [5] (.name 5) (iRange1 (aCons (fB gSum (aCons (fVar 2) aNil)) aNil)) cYes UC_tied_1))
  (sSeq (sIf (cVal (fBin gIn (fLst aNil) (fVar 4)))
  (sRetP (fTup (aCons (fStr "tied") (aCons (fIdx (fVar 4) (fLst aNil)) aNil))))
  sNext)
  (sRetP (fTup (aCons (fStr "never") (aCons (fB gTuple (aCons (fComp [6] (.name 6) (iSeq (fVar 4)) cYes UC_tied_2) aNil)) aNil))))))))
abbrev HasU_tied (nb : String) (T : Tab) : Prop := T "tied" = some ⟨3, 7, U_tied nb⟩
def UC_shows_tied_1 : SE := (fAnd (fCallN "is_whole" 1 (aCons (fVar 7) aNil)) (fBin gIn (fVar 7) (fCallN "loose_by" 3 (aCons (fVar 2) (aCons (fVar 4) (aCons (fVar 6) aNil))))))
def U_shows_tied (nb : String) : SS := (sSeq (sExpr (fCallN nb 3 (aCons (fVar 0) (aCons (fVar 1) (aCons (fVar 2) aNil)))))
  (sSeq (sUnp [4, 5] (fTup (aCons (fCallN "lefts_by" 2 (aCons (fVar 1) (aCons (fVar 2) aNil))) (aCons (fB gSum (aCons (fVar 2) aNil)) aNil))))
  (sSeq (sIf (cOr (cNot (cVal (fCallN "is_row" 3 (aCons (fVar 3) (aCons (fInt 2) (aCons (fInt 2) aNil)))))) (cNot (cVal (fIsI "str" (fAt (fVar 3) (fInt 0))))))
  (sRetP (fBl false))
  sNext)
  (sSeq (sIf (cVal (fBin gEq (fAt (fVar 3) (fInt 0)) (fStr "tied")))
  (sRetP (fAnd (fCallN "is_among" 3 (aCons (fAt (fVar 3) (fInt 1)) (aCons (fInt 0) (aCons (fBin gSub (fVar 5) (fInt 1)) aNil)))) (fBin gEq (fCallN "loose_by" 3 (aCons (fVar 2) (aCons (fVar 4) (aCons (fAt (fVar 3) (fInt 1)) aNil)))) (fLst aNil))))
  sNext)
  (sSeq (sIf (cOr (cVal (fBin gNe (fAt (fVar 3) (fInt 0)) (fStr "never"))) (cNot (cVal (fCallN "is_row" 3 (aCons (fAt (fVar 3) (fInt 1)) (aCons (fVar 5) (aCons (fVar 5) aNil)))))))
  (sRetP (fBl false))
  sNext)
  (sRetP (fB gAll (aCons (fComp [6, 7] (.names [6, 7]) (iEnumQ (aCons (fAt (fVar 3) (fInt 1)) aNil)) cYes UC_shows_tied_1) aNil))))))))
abbrev HasU_shows_tied (nb : String) (T : Tab) : Prop := T "shows_tied" = some ⟨4, 8, U_shows_tied nb⟩
end Q

namespace Q
open PySem PySem.Spec PyProof.Rows L2
@[simp] theorem x_enumQ {cf : CF} {env : EnvQ} {S : Sto} (a : SA) : iEnumQ a cf env S = (a cf env S).bind fun ws S1 => match ws with | [.d (.list xs)] => .ok (enumD 0 xs) S1 | [.d (.tuple xs)] => .ok (enumD 0 xs) S1 | _ => .stuck := rfl
@[simp] theorem x_zipQ {cf : CF} {env : EnvQ} {S : Sto} (a : SA) : iZipQ a cf env S = (a cf env S).bind fun ws S1 => match ws with | [.d (.list xs), .d (.list ys)] => .ok (zipD xs ys) S1 | [.d (.tuple xs), .d (.tuple ys)] => .ok (zipD xs ys) S1 | _ => .stuck := rfl
@[simp] theorem y_parX {cf : CF} {env : EnvQ} {S : Sto} (is : List Nat) (es : List EL) : sParX is es cf env S = (elsE es cf env S).then env fun ws S' => if ws.length ≤ LIM then (match setW is ws env with | some env' => .next env' S' | none => .stuck) else .stuck := rfl
@[simp] theorem z_els0 {cf : CF} {env : EnvQ} {S : Sto} : elsE [] cf env S = .ok [] S := rfl
@[simp] theorem z_elsP {cf : CF} {env : EnvQ} {S : Sto} (f : SE) (r : List EL) : elsE (.p f :: r) cf env S = (f cf env S).bind fun w S1 => if w.plain then (elsE r cf env S1).bind fun ws S2 => .ok (w :: ws) S2 else .stuck := rfl
@[simp] theorem z_elsO {cf : CF} {env : EnvQ} {S : Sto} (a : SA) (r : List EL) : elsE (.o a :: r) cf env S = (a cf env S).bind fun ws S1 => if ws.length ≤ LIM then (match datas ws with | some ds => (elsE r cf env S1).bind fun us S2 => .ok (.own ds :: us) S2 | none => .stuck) else .stuck := rfl
structure BaseT (T : Tab) : Prop where
  whole : Has_is_whole T
  among : Has_is_among T
  row : Has_is_row T
structure SkyT (T : Tab) : Prop extends BaseT T where
  light_of : Has_is_light_of T
  sky : Has_is_sky T
  need_sky : Has_need_sky T
section
variable {T : Tab}
theorem p_whole (b : BaseT T) (k : Nat) (S : Sto) (z : Int) : callQ T (k + 1) "is_whole" [.d (.int z)] S = .ok (.d (.bool true)) S := by
  rw [callQ_succ b.whole rfl rfl]; simp [P_is_whole, startQ]
theorem p_among (b : BaseT T) (k : Nat) (S : Sto) (z l h : Int) : callQ T (k + 2) "is_among" [.d (.int z), .d (.int l), .d (.int h)] S = .ok (.d (.bool (decide (l ≤ z ∧ z ≤ h)))) S := by
  rw [callQ_succ b.among rfl rfl]; simp [P_is_among, startQ, p_whole b]
  by_cases h1 : l ≤ z <;> simp [h1]
theorem p_row (b : BaseT T) (k : Nat) (S : Sto) (xs : List D) (l h : Int) : callQ T (k + 1) "is_row" [.d (.tuple xs), .d (.int l), .d (.int h)] S = .ok (.d (.bool (decide (l ≤ xs.length ∧ (xs.length : Int) ≤ h)))) S := by
  rw [callQ_succ b.row rfl rfl]; simp [P_is_row, startQ]
  by_cases h1 : l ≤ xs.length <;> simp [h1]
structure Light where
  c : Int
  s : Int
  rows : List Int
structure Sky where
  w : Int
  h : Int
  ls : List Light
def Light.D (l : Light) : D := .tuple [.int l.c, .int l.s, .tuple (l.rows.map .int)]
def Sky.D (s : Sky) : D := .tuple [.int s.w, .int s.h, .tuple (s.ls.map Light.D)]
structure Light.Ok (l : Light) (w h : Int) : Prop where
  c0 : 0 ≤ l.c
  c1 : l.c < w
  s0 : -9 ≤ l.s
  s1 : l.s ≤ 9
  r0 : 1 ≤ l.rows.length
  r1 : l.rows.length ≤ 4
  r : ∀ r ∈ l.rows, 0 ≤ r ∧ r < h
structure Sky.Ok (s : Sky) : Prop where
  w0 : 4 ≤ s.w
  w1 : s.w ≤ 12
  h0 : 1 ≤ s.h
  h1 : s.h ≤ 5
  l0 : 1 ≤ s.ls.length
  l1 : s.ls.length ≤ 6
  l : ∀ l ∈ s.ls, l.Ok s.w s.h
theorem p_light_of (b : SkyT T) (k : Nat) (S : Sto) {l : Light} {w h : Int} (o : l.Ok w h) : callQ T (k + 3) "is_light_of" [.d l.D, .d (.int w), .d (.int h)] S = .ok (.d (.bool true)) S := by
  rw [callQ_succ b.light_of rfl rfl]
  have e : ∀ n, compL (.name 3) (cYes (callQ T (k + 2))) (PC_is_light_of_1 (callQ T (k + 2))) [some (.d l.D), some (.d (.int w)), some (.d (.int h)), n] (l.rows.map PyData.int) S = .ok (l.rows.map fun _ => PyData.bool true) S := by
    intro n
    refine compL_on _ _ (fun d hd => by simp) fun t ht => ?_
    obtain ⟨h4, h5⟩ := o.r t ht
    have h6 : t ≤ h - 1 := by omega
    simp [PC_is_light_of_1, p_among b.toBaseT, h4, h6]
  have hb : bools (l.rows.map fun _ => PyData.bool true) = some (l.rows.map fun _ => true) := bools_on _ fun _ _ => rfl
  have c0 := o.c0
  have c1 : l.c ≤ w - 1 := by have := o.c1; omega
  have s0 := o.s0
  have s1 := o.s1
  have r0 : (1 : Int) ≤ l.rows.length := by have := o.r0; omega
  have r1 : (l.rows.length : Int) ≤ 4 := by have := o.r1; omega
  have hl : l.rows.length ≤ 16777216 := by omega
  simp only [Light.D] at e ⊢
  simp [P_is_light_of, startQ, p_row b.toBaseT, p_among b.toBaseT, atI, ixN, c0, c1, s0, s1, r0, r1, notOwn, e, LIM, hl, hb]
theorem p_sky (b : SkyT T) (k : Nat) (S : Sto) {s : Sky} (o : s.Ok) : callQ T (k + 4) "is_sky" [.d s.D] S = .ok (.d (.bool true)) S := by
  rw [callQ_succ b.sky rfl rfl]
  have e : ∀ n, compL (.name 1) (cYes (callQ T (k + 3))) (PC_is_sky_1 (callQ T (k + 3))) [some (.d s.D), n] (s.ls.map Light.D) S = .ok (s.ls.map fun _ => PyData.bool true) S := by
    intro n
    refine compL_on _ _ (fun d hd => by simp) fun t ht => ?_
    simp [PC_is_sky_1, Sky.D, atI, ixN, p_light_of b k S (o.l t ht)]
  have hb : bools (s.ls.map fun _ => PyData.bool true) = some (s.ls.map fun _ => true) := bools_on _ fun _ _ => rfl
  have w0 := o.w0
  have w1 := o.w1
  have h0 := o.h0
  have h1 := o.h1
  have r0 : (1 : Int) ≤ s.ls.length := by have := o.l0; omega
  have r1 : (s.ls.length : Int) ≤ 6 := by have := o.l1; omega
  have hl : s.ls.length ≤ 16777216 := by omega
  simp only [Sky.D] at e ⊢
  simp [P_is_sky, startQ, p_row b.toBaseT, p_among b.toBaseT, atI, ixN, w0, w1, h0, h1, r0, r1, notOwn, e, LIM, hl, hb]
theorem p_need_sky (b : SkyT T) (k : Nat) (S : Sto) {s : Sky} (o : s.Ok) : callQ T (k + 5) "need_sky" [.d s.D] S = .ok (.d .none) S := by
  rw [callQ_succ b.need_sky rfl rfl]; simp [P_need_sky, startQ, p_sky b k S o]
/-- the row of a light at a moment -/
def Light.row (l : Light) (m : Int) : Int := l.rows.getD (m % l.rows.length).toNat 0
def Light.at (l : Light) (w m : Int) : PyData := .tuple [.int ((l.c + l.s * m) % w), .int (l.row m)]
theorem Light.Ok.at {l : Light} {w h : Int} (o : l.Ok w h) (m : Int) : atI (l.rows.map PyData.int) (m % (l.rows.length : Int)) = some (.int (l.row m)) := by
  have h0 := o.r0
  have a0 := Int.emod_nonneg m (b := (l.rows.length : Int)) (by omega)
  have a1 := Int.emod_lt_of_pos m (b := (l.rows.length : Int)) (by omega)
  obtain ⟨j, hj⟩ := Int.eq_ofNat_of_zero_le a0
  have hl : j < l.rows.length := by omega
  rw [hj, atI_nat]
  simp [Light.row, hj, hl]
end
end Q

namespace Q
open PySem PySem.Spec PyProof.Rows L2
def Sky.cell (s : Sky) (x y : Int) : Bool := decide (0 ≤ x ∧ x < s.w / 2 ∧ 0 ≤ y ∧ y < s.h)
def Sky.at (s : Sky) (i : Nat) : Light := s.ls.getD i ⟨0, 0, []⟩
/-- where light i is seen from (e, n) at m -/
def Sky.up (s : Sky) (i : Nat) (e n m : Int) : Option (Int × Int) :=
  let l := s.at i
  let x := (l.c + l.s * m + e) % s.w
  let y := l.row m + n
  if s.cell x y = true then some (x, y) else none
section
variable {T : Tab}
theorem Sky.at_eq {s : Sky} {i : Nat} (hi : i < s.ls.length) : s.at i = s.ls[i] := by
  simp [Sky.at, hi]
theorem Sky.Ok.at {s : Sky} (o : s.Ok) {i : Nat} (hi : i < s.ls.length) : (s.at i).Ok s.w s.h := by
  rw [Sky.at_eq hi]
  exact o.l _ (List.getElem_mem hi)
end
end Q

namespace Q
open PySem PySem.Spec PyProof.Rows L2
structure Lamp where
  a : Int
  b : Int
  c : Int
  d : Int
structure Show where
  lamps : List Lamp
  offs : List Int
  slack : Int
structure State where
  m : Int
  e : Int
  n : Int
  hid : List Int
def Lamp.D (l : Lamp) : D := .tuple [.int l.a, .int l.b, .int l.c, .int l.d]
def Show.D (s : Show) : D := .tuple [.tuple (s.lamps.map Lamp.D), .tuple (s.offs.map PyData.int), .int s.slack]
def State.D (s : State) : D := .tuple [.int s.m, .int s.e, .int s.n, .tuple (s.hid.map PyData.int)]
structure Lamp.Ok (l : Lamp) (s : Sky) : Prop where
  a0 : 0 ≤ l.a
  ab : l.a ≤ l.b
  b1 : l.b < s.w / 2
  c0 : 0 ≤ l.c
  cd : l.c ≤ l.d
  d1 : l.d < s.h
structure Show.Ok (h : Show) (s : Sky) : Prop where
  l0 : 1 ≤ h.lamps.length
  l1 : h.lamps.length ≤ 6
  l : ∀ l ∈ h.lamps, l.Ok s
  o : h.offs.length = h.lamps.length
  o1 : ∀ o ∈ h.offs, -9 ≤ o ∧ o ≤ 9
  s0 : 0 ≤ h.slack
  s1 : h.slack ≤ 9
structure State.Ok (t : State) (s : Sky) : Prop where
  h : ∀ h ∈ t.hid, 0 ≤ h ∧ h < s.ls.length
  pw : t.hid.Pairwise (· < ·)
  l : t.hid.length ≤ 6
  m1 : t.m.natAbs < 10 ^ 12
  e1 : t.e.natAbs < 10 ^ 12
  n1 : t.n.natAbs < 10 ^ 12
def Lamp.covers (l : Lamp) (p : Int × Int) : Bool := decide (l.a ≤ p.1 ∧ p.1 ≤ l.b) && decide (l.c ≤ p.2 ∧ p.2 ≤ l.d)
def lamp0 : Lamp := ⟨0, 0, 0, 0⟩
def Show.over (h : Show) (p : Int × Int) : List Nat := (List.range h.lamps.length).filter fun i => (h.lamps.getD i lamp0).covers p
def Show.own (h : Show) (p : Int × Int) : List Int := (h.over p).map fun i => h.offs.getD i 0
def Sky.seen (s : Sky) (t : State) (i : Nat) : Option (Int × Int) := if ((i : Nat) : Int) ∈ t.hid then none else s.up i t.e t.n t.m
def Show.at (h : Show) (p : Int × Int) : List (Int × Int) := (h.over p).map fun i => (p.1 + h.offs.getD i 0, (i : Int))
def atD (h : Show) : Option (Int × Int) → D
  | none => .tuple []
  | some p => .tuple ((sortP (h.at p)).map pairD)
section
variable {T : Tab}
end
end Q

namespace Q
open PySem PySem.Spec PyProof.Rows L2

structure HidOk (n : Nat) (h : List Int) : Prop where
  pw : h.Pairwise (· < ·)
  b : ∀ i ∈ h, 0 ≤ i ∧ i < n
/-- what is in just one of two -/
def unl (a b : List Int) : List Int := sortI ((a ++ b).filter fun i => decide (i ∈ a) != decide (i ∈ b))
theorem rising_le {n : Nat} : ∀ {h : List Int} {lo : Int}, h.Pairwise (· < ·) → (∀ i ∈ h, lo ≤ i ∧ i < lo + n) → h.length ≤ n := by
  induction n with
  | zero =>
    intro h lo pw b
    cases h with
    | nil => simp
    | cons x xs => have := b x (by simp); omega
  | succ n ih =>
    intro h lo pw b
    cases h with
    | nil => simp
    | cons x xs =>
      rw [List.pairwise_cons] at pw
      have hx := b x (by simp)
      have := ih (h := xs) (lo := lo + 1) pw.2 fun i hi => by
        have h1 := pw.1 i hi
        have h2 := b i (by simp [hi])
        omega
      simp only [List.length_cons]
      omega
theorem HidOk.len {n : Nat} {h : List Int} (o : HidOk n h) : h.length ≤ n := rising_le (lo := 0) o.pw fun i hi => by have := o.b i hi; omega
def State.zero : State := ⟨0, 0, 0, []⟩
def State.put (a b : State) : State := ⟨a.m + b.m, a.e + b.e, a.n + b.n, unl a.hid b.hid⟩
/-- so often, below 0 too -/
def State.oft (a : State) (t : Int) : State := ⟨a.m * t, a.e * t, a.n * t, if t % 2 = 1 then a.hid else []⟩
def State.Pw (a : State) : Prop := a.hid.Pairwise (· < ·)
inductive Item where
  | go (m e n : Int)
  | flip (i : Nat)
  | mark
  | again (t : Nat) (xs : List Item)
mutual
def Item.D : Item → D
  | .go m e n => .tuple [.str "go", .int m, .int e, .int n]
  | .flip i => .tuple [.str "flip", .int (i : Int)]
  | .mark => .tuple [.str "mark"]
  | .again t xs => .tuple [.str "again", .int (t : Int), .tuple (itemsL xs)]
def itemsL : List Item → List D
  | [] => []
  | x :: xs => x.D :: itemsL xs
end
theorem itemsL_map : ∀ xs : List Item, itemsL xs = xs.map Item.D
  | [] => rfl
  | x :: xs => by simp [itemsL, itemsL_map xs]
def itemsD (xs : List Item) : D := .tuple (xs.map Item.D)
theorem again_D (t : Nat) (xs : List Item) : (Item.again t xs).D = .tuple [.str "again", .int (t : Int), itemsD xs] := by simp [Item.D, itemsL_map, itemsD]
mutual
def Item.beats : Item → List State
  | .go m e n => [⟨m, e, n, []⟩]
  | .flip i => [⟨0, 0, 0, [(i : Int)]⟩]
  | .mark => []
  | .again t xs => (List.replicate t (beatsOf xs)).flatten
def beatsOf : List Item → List State
  | [] => []
  | x :: xs => x.beats ++ beatsOf xs
end
mutual
def Item.size : Item → Nat
  | .go _ _ _ => 1
  | .flip _ => 1
  | .mark => 0
  | .again t xs => t * sizeOf' xs
def sizeOf' : List Item → Nat
  | [] => 0
  | x :: xs => x.size + sizeOf' xs
end
mutual
def Item.marks : Item → Nat
  | .go _ _ _ => 0
  | .flip _ => 0
  | .mark => 1
  | .again t xs => t * marksOf xs
def marksOf : List Item → Nat
  | [] => 0
  | x :: xs => x.marks + marksOf xs
end
mutual
theorem Item.size_beats : ∀ x : Item, x.size = x.beats.length
  | .go m e n => by simp [Item.size, Item.beats]
  | .flip i => by simp [Item.size, Item.beats]
  | .mark => by simp [Item.size, Item.beats]
  | .again t xs => by simp [Item.size, Item.beats, sizeOf_beats xs]
theorem sizeOf_beats : ∀ xs : List Item, sizeOf' xs = (beatsOf xs).length
  | [] => by simp [sizeOf', beatsOf]
  | x :: xs => by simp [sizeOf', beatsOf, Item.size_beats x, sizeOf_beats xs]
end
theorem beatsOf_append : ∀ xs ys : List Item, beatsOf (xs ++ ys) = beatsOf xs ++ beatsOf ys
  | [], ys => by simp [beatsOf]
  | x :: xs, ys => by simp [beatsOf, beatsOf_append xs ys]
inductive Item.Ok (n : Nat) : Nat → Item → Prop
  | go {d : Nat} {a b c : Int} : -99 ≤ a ∧ a ≤ 99 → -99 ≤ b ∧ b ≤ 99 → -99 ≤ c ∧ c ≤ 99 → Item.Ok n d (.go a b c)
  | flip {d i : Nat} : i < n → Item.Ok n d (.flip i)
  | mark {d : Nat} : Item.Ok n d .mark
  | again {d t : Nat} {xs : List Item} : t ≤ 1000000 → xs.length ≤ 8 → (∀ x ∈ xs, Item.Ok n d x) → Item.Ok n (d + 1) (.again t xs)
structure ItemsOk (n d : Nat) (xs : List Item) : Prop where
  l : xs.length ≤ 8
  o : ∀ x ∈ xs, Item.Ok n d x
structure SceneOk (s : Sky) (xs : List Item) : Prop where
  o : ItemsOk s.ls.length 3 xs
  z : sizeOf' xs ≤ 100000000000
theorem ItemsOk.again {n d t : Nat} {xs : List Item} (h : Item.Ok n (d + 1) (.again t xs)) : ItemsOk n d xs ∧ t ≤ 1000000 := by
  cases h with | again h1 h2 h3 => exact ⟨⟨h2, h3⟩, h1⟩
theorem ItemsOk.cons {n d : Nat} {x : Item} {xs : List Item} (h : ItemsOk n d (x :: xs)) : Item.Ok n d x ∧ ItemsOk n d xs := ⟨h.o x (by simp), by have := h.l; simp at this; omega, fun y hy => h.o y (by simp [hy])⟩
def State.H (n : Nat) (a : State) : Prop := HidOk n a.hid
theorem State.H.pw {n : Nat} {a : State} (h : a.H n) : a.Pw := HidOk.pw h
end Q

namespace Q
open PySem PySem.Spec PyProof.Rows L2
@[simp] theorem tg_go_flip : (Str.ofString "go" = Str.ofString "flip") = False := eq_false (by decide)
@[simp] theorem tg_go_again : (Str.ofString "go" = Str.ofString "again") = False := eq_false (by decide)
@[simp] theorem tg_go_mark : (Str.ofString "go" = Str.ofString "mark") = False := eq_false (by decide)
@[simp] theorem tg_flip_go : (Str.ofString "flip" = Str.ofString "go") = False := eq_false (by decide)
@[simp] theorem tg_flip_again : (Str.ofString "flip" = Str.ofString "again") = False := eq_false (by decide)
@[simp] theorem tg_flip_mark : (Str.ofString "flip" = Str.ofString "mark") = False := eq_false (by decide)
@[simp] theorem tg_again_go : (Str.ofString "again" = Str.ofString "go") = False := eq_false (by decide)
@[simp] theorem tg_again_flip : (Str.ofString "again" = Str.ofString "flip") = False := eq_false (by decide)
@[simp] theorem tg_again_mark : (Str.ofString "again" = Str.ofString "mark") = False := eq_false (by decide)
@[simp] theorem tg_mark_go : (Str.ofString "mark" = Str.ofString "go") = False := eq_false (by decide)
@[simp] theorem tg_mark_flip : (Str.ofString "mark" = Str.ofString "flip") = False := eq_false (by decide)
@[simp] theorem tg_mark_again : (Str.ofString "mark" = Str.ofString "again") = False := eq_false (by decide)
/-- a loop that folds, the store as it was -/
theorem forL_fold {α β γ : Type} {t : Tg} {body : EnvQ → Sto → RS} {S : Sto} (q : α → D) (E : β → γ → EnvQ) (step : β → α → β) (P : β → Prop) : ∀ (xs : List α) (a : β) (w : γ), P a → (∀ x ∈ xs, ∀ a w, P a → (∃ env1 w', t.set (q x) (E a w) = some env1 ∧ body env1 S = .next (E (step a x) w') S) ∧ P (step a x)) →
    ∃ w', forL t body (xs.map q) (E a w) S = .next (E (xs.foldl step a) w') S ∧ P (xs.foldl step a)
  | [], a, w, h, _ => ⟨w, rfl, h⟩
  | x :: xs, a, w, h, st => by
    obtain ⟨⟨env1, w1, e1, e2⟩, h1⟩ := st x (by simp) a w h
    obtain ⟨w2, e3, h2⟩ := forL_fold q E step P xs (step a x) w1 h1 fun y hy => st y (by simp [hy])
    exact ⟨w2, by simp only [List.map_cons, forL, e1, e2, e3, List.foldl_cons], h2⟩
structure ItemT (T : Tab) : Prop extends SkyT T where
  is_item : Has_is_item T
  are_items : Has_are_items T
  size_of : Has_size_of T
  is_scene_by : Has_is_scene_by T
  need_scene : Has_need_scene T
section
variable {T : Tab}
theorem sizes_fold : ∀ (xs : List Item) (a : Int), xs.foldl (fun (b : Int) x => b + (x.size : Int)) a = a + (sizeOf' xs : Int)
  | [], a => by simp [sizeOf']
  | x :: xs, a => by simp only [List.foldl_cons, sizes_fold xs, sizeOf']; omega
theorem marks_fold : ∀ (xs : List Item) (a : Int), xs.foldl (fun (b : Int) x => b + (x.marks : Int)) a = a + (marksOf xs : Int)
  | [], a => by simp [marksOf]
  | x :: xs, a => by simp only [List.foldl_cons, marks_fold xs, marksOf]; omega
theorem p_size_of (h : Has_size_of T) {n : Nat} (S : Sto) : ∀ (d k : Nat) {xs : List Item}, ItemsOk n d xs → callQ T (k + d + 1) "size_of" [.d (itemsD xs)] S = .ok (.d (.int (sizeOf' xs : Nat))) S := by
  intro d
  induction d with
  | zero =>
    intro k xs o
    rw [callQ_succ h rfl rfl]
    have loop := forL_fold (t := .name 2) (body := PB_size_of_1 (callQ T k)) (S := S) Item.D (fun (a : Int) (w : Option W) => [some (.d (itemsD xs)), some (.d (.int a)), w]) (fun a x => a + (x.size : Int)) (fun _ => True) xs 0 none trivial fun x hx a w _ => ⟨⟨_, some (.d x.D), rfl, by
      cases x with
      | again t ys => exact nomatch o.o _ hx
      | go m e n => simp [PB_size_of_1, Item.D, Item.size, gNe, gInt, gAddI, gAdd]
      | flip i => simp [PB_size_of_1, Item.D, Item.size, gNe, gInt, gAddI, gAdd]
      | mark => simp [PB_size_of_1, Item.D, Item.size, gNe, gInt, gAddI, gAdd]⟩, trivial⟩
    obtain ⟨w', e, _⟩ := loop
    rw [sizes_fold, Int.zero_add] at e
    have e0 : (itemsD xs) = .tuple (xs.map Item.D) := rfl
    simp [P_size_of, startQ]
    rw [e0] at e ⊢
    simp [e]
  | succ d ih =>
    intro k xs o
    rw [callQ_succ h rfl rfl]
    have loop := forL_fold (t := .name 2) (body := PB_size_of_1 (callQ T (k + (d + 1)))) (S := S) Item.D (fun (a : Int) (w : Option W) => [some (.d (itemsD xs)), some (.d (.int a)), w]) (fun a x => a + (x.size : Int)) (fun _ => True) xs 0 none trivial fun x hx a w _ => ⟨⟨_, some (.d x.D), rfl, by
      cases x with
      | again t ys =>
        obtain ⟨oy, ht⟩ := ItemsOk.again (o.o _ hx)
        have e := ih k oy
        have hs : sm (t : Int) = true := Nat.ble_eq_true_of_le (by omega)
        have ea : k + (d + 1) = k + d + 1 := rfl
        rw [again_D, ea]
        simp [PB_size_of_1, Item.size, gNe, gInt, gAddI, gAdd, e, hs]
      | go m e n => simp [PB_size_of_1, Item.D, Item.size, gNe, gInt, gAddI, gAdd]
      | flip i => simp [PB_size_of_1, Item.D, Item.size, gNe, gInt, gAddI, gAdd]
      | mark => simp [PB_size_of_1, Item.D, Item.size, gNe, gInt, gAddI, gAdd]⟩, trivial⟩
    obtain ⟨w', e, _⟩ := loop
    rw [sizes_fold, Int.zero_add] at e
    have e0 : (itemsD xs) = .tuple (xs.map Item.D) := rfl
    simp [P_size_of, startQ]
    rw [e0] at e ⊢
    simp [e]
theorem p_marks_in (h : Has_marks_in T) {n : Nat} (S : Sto) : ∀ (d k : Nat) {xs : List Item}, ItemsOk n d xs → callQ T (k + d + 1) "marks_in" [.d (itemsD xs)] S = .ok (.d (.int (marksOf xs : Nat))) S := by
  intro d
  induction d with
  | zero =>
    intro k xs o
    rw [callQ_succ h rfl rfl]
    have loop := forL_fold (t := .name 2) (body := PB_marks_in_1 (callQ T k)) (S := S) Item.D (fun (a : Int) (w : Option W) => [some (.d (itemsD xs)), some (.d (.int a)), w]) (fun a x => a + (x.marks : Int)) (fun _ => True) xs 0 none trivial fun x hx a w _ => ⟨⟨_, some (.d x.D), rfl, by
      cases x with
      | again t ys => exact nomatch o.o _ hx
      | go m e n => simp [PB_marks_in_1, Item.D, Item.marks, gEq, gInt, gAddI, gAdd]
      | flip i => simp [PB_marks_in_1, Item.D, Item.marks, gEq, gInt, gAddI, gAdd]
      | mark => simp [PB_marks_in_1, Item.D, Item.marks, gEq, gInt, gAddI, gAdd]⟩, trivial⟩
    obtain ⟨w', e, _⟩ := loop
    rw [marks_fold, Int.zero_add] at e
    have e0 : (itemsD xs) = .tuple (xs.map Item.D) := rfl
    simp [P_marks_in, startQ]
    rw [e0] at e ⊢
    simp [e]
  | succ d ih =>
    intro k xs o
    rw [callQ_succ h rfl rfl]
    have loop := forL_fold (t := .name 2) (body := PB_marks_in_1 (callQ T (k + (d + 1)))) (S := S) Item.D (fun (a : Int) (w : Option W) => [some (.d (itemsD xs)), some (.d (.int a)), w]) (fun a x => a + (x.marks : Int)) (fun _ => True) xs 0 none trivial fun x hx a w _ => ⟨⟨_, some (.d x.D), rfl, by
      cases x with
      | again t ys =>
        obtain ⟨oy, ht⟩ := ItemsOk.again (o.o _ hx)
        have e := ih k oy
        have hs : sm (t : Int) = true := Nat.ble_eq_true_of_le (by omega)
        have ea : k + (d + 1) = k + d + 1 := rfl
        rw [again_D, ea]
        simp [PB_marks_in_1, Item.marks, gEq, gInt, gAddI, gAdd, e, hs]
      | go m e n => simp [PB_marks_in_1, Item.D, Item.marks, gEq, gInt, gAddI, gAdd]
      | flip i => simp [PB_marks_in_1, Item.D, Item.marks, gEq, gInt, gAddI, gAdd]
      | mark => simp [PB_marks_in_1, Item.D, Item.marks, gEq, gInt, gAddI, gAdd]⟩, trivial⟩
    obtain ⟨w', e, _⟩ := loop
    rw [marks_fold, Int.zero_add] at e
    have e0 : (itemsD xs) = .tuple (xs.map Item.D) := rfl
    simp [P_marks_in, startQ]
    rw [e0] at e ⊢
    simp [e]
theorem seq_cons_next {t : Tg} {body : EnvQ → Sto → RS} {d : D} {ds : List D} {env env1 env2 : EnvQ} {S S2 : Sto} (h1 : t.set d env = some env1) (h2 : body env1 S = .next env2 S2) : forL t body (d :: ds) env S = forL t body ds env2 S2 := by
  simp only [forL, h1, h2]
theorem item_ly {n : Nat} : ∀ (d : Nat), (∀ {x : Item}, Item.Ok n d x → Ly (2 * d + 1) x.D) ∧ ∀ {xs : List Item}, (∀ x ∈ xs, Item.Ok n d x) → Ly (2 * d + 2) (itemsD xs) := by
  have one : ∀ (d : Nat), (∀ {x : Item}, Item.Ok n d x → Ly (2 * d + 1) x.D) → ∀ {xs : List Item}, (∀ x ∈ xs, Item.Ok n d x) → Ly (2 * d + 2) (itemsD xs) := fun d h xs o => ly_tup fun x hx => by
    obtain ⟨y, hy, rfl⟩ := List.mem_map.mp hx
    exact h (o y hy)
  have lone : ∀ (d : Nat) {x : Item}, (∀ t ys, x ≠ .again t ys) → Ly (2 * d + 1) x.D := fun d x h => by
    cases x with
    | again t ys => exact absurd rfl (h t ys)
    | go a b c => exact (ly_tup (k := 0) (by simp [ly_int, ly_str])).mono (by omega)
    | flip i => exact (ly_tup (k := 0) (by simp [ly_int, ly_str])).mono (by omega)
    | mark => exact (ly_tup (k := 0) (by simp [ly_int, ly_str])).mono (by omega)
  intro d
  induction d with
  | zero =>
    have h : ∀ {x : Item}, Item.Ok n 0 x → Ly (2 * 0 + 1) x.D := fun {x} o => lone 0 fun t ys e => by subst e; exact nomatch o
    exact ⟨h, one 0 h⟩
  | succ d ih =>
    have h : ∀ {x : Item}, Item.Ok n (d + 1) x → Ly (2 * (d + 1) + 1) x.D := fun {x} o => by
      cases o with
      | again h1 h2 h3 =>
        have := ih.2 h3
        rw [again_D]
        exact (ly_tup (k := 2 * d + 2) fun x hx => by
          simp at hx
          rcases hx with rfl | rfl | rfl
          · exact (ly_str _).mono (by omega)
          · exact (ly_int _).mono (by omega)
          · exact this).mono (by omega)
      | go _ _ _ => exact lone (d + 1) (by simp)
      | flip _ => exact lone (d + 1) (by simp)
      | mark => exact lone (d + 1) (by simp)
    exact ⟨h, one (d + 1) h⟩
theorem p_items (b : ItemT T) (S : Sto) {s : Sky} : ∀ (d k : Nat), d ≤ 3 → ∀ {xs : List Item}, ItemsOk s.ls.length d xs → callQ T (k + 2 * d + 4) "are_items" [.d s.D, .d (itemsD xs), .d (.int (d : Nat))] S = .ok (.d (.bool true)) S := by
  have q2 : gAt (.d s.D) (.d (.int 2)) S = .ok (.d (.tuple (s.ls.map Light.D))) S := rfl
  have lone : ∀ (k d : Nat) {x : Item}, Item.Ok s.ls.length d x → (∀ t ys, x ≠ .again t ys) → callQ T (k + 3) "is_item" [.d s.D, .d x.D, .d (.int (d : Nat))] S = .ok (.d (.bool true)) S := by
    intro k d x o h
    rw [callQ_succ b.is_item rfl rfl]
    cases o with
    | again _ _ _ => exact absurd rfl (h _ _)
    | @go _ m e n h1 h2 h3 =>
      simp [P_is_item, startQ, Item.D, gEq, okEq, PyData.canLay0, PyData.canLayAll0, PyData.depth, PyData.depthAll, PyData.eqv, PyData.eqvAll, sOk_of, isTy, tyName, notOwn, compL, PC_is_item_1, p_among b.toBaseT, h1, h2, h3, LIM, bools, W.plain]
    | @flip _ i hi =>
      have hi' : (i : Int) ≤ s.ls.length - 1 := by omega
      generalize hG : s.D = G at *
      simp [P_is_item, startQ, Item.D, gEq, okEq, PyData.canLay0, PyData.canLayAll0, PyData.depth, PyData.depthAll, PyData.eqv, PyData.eqvAll, sOk_of, isTy, tyName, notOwn, q2, p_among b.toBaseT, hi', LIM]
    | mark =>
      simp [P_is_item, startQ, Item.D, gEq, okEq, PyData.canLay0, PyData.canLayAll0, PyData.depth, PyData.depthAll, PyData.eqv, PyData.eqvAll, sOk_of, isTy, tyName, notOwn, LIM]
  have row : ∀ (d k : Nat), (∀ {x : Item}, Item.Ok s.ls.length d x → callQ T (k + 2 * d + 3) "is_item" [.d s.D, .d x.D, .d (.int (d : Nat))] S = .ok (.d (.bool true)) S) → ∀ {xs : List Item}, ItemsOk s.ls.length d xs → callQ T (k + 2 * d + 4) "are_items" [.d s.D, .d (itemsD xs), .d (.int (d : Nat))] S = .ok (.d (.bool true)) S := by
    intro d k h xs o
    rw [callQ_succ b.are_items rfl rfl]
    have e : ∀ n, compL (.name 3) (cYes (callQ T (k + 2 * d + 3))) (PC_are_items_1 (callQ T (k + 2 * d + 3))) [some (.d s.D), some (.d (itemsD xs)), some (.d (.int (d : Nat))), n] (xs.map Item.D) S = .ok (xs.map fun _ => PyData.bool true) S := by
      intro n
      refine compL_on _ _ (fun d hd => by simp) fun x hx => ?_
      simp [PC_are_items_1, h (o.o x hx)]
    have hb : bools (xs.map fun _ => PyData.bool true) = some (xs.map fun _ => true) := bools_on _ fun _ _ => rfl
    have hl := o.l
    have h3 : xs.length ≤ 16777216 := by omega
    have h4 : (xs.length : Int) ≤ 8 := by omega
    have e0 : itemsD xs = .tuple (xs.map Item.D) := rfl
    rw [e0] at e ⊢
    simp [P_are_items, startQ, p_row b.toBaseT, h4, notOwn, e, LIM, h3, hb]
  intro d
  induction d with
  | zero =>
    intro k _
    exact row 0 k fun {x} o => lone k 0 o fun t ys e => by subst e; exact nomatch o
  | succ d ih =>
    intro k hd3
    refine row (d + 1) k fun {x} o => ?_
    cases x with
    | again t ys =>
      have ly := (item_ly (d + 1)).1 o
      rw [again_D] at ly
      obtain ⟨oy, ht⟩ := ItemsOk.again o
      have e1 := ih k (by omega) oy
      have ea : k + 2 * (d + 1) + 3 = k + 2 * d + 4 + 1 := by omega
      have ht' : (t : Int) ≤ 1000000 := by omega
      have e2 := p_among b.toBaseT (k + 2 * d + 2) S (t : Int) 0 1000000
      have hsub : ((d + 1 : Nat) : Int) - 1 = (d : Int) := by omega
      have hd : (0 : Int) < ((d + 1 : Nat) : Int) := by omega
      rw [ea, callQ_succ b.is_item rfl rfl, again_D]
      have hne : gEq (.d (.tuple [.str "again", .int (t : Int), itemsD ys])) (.d (.tuple [])) S = .ok (.d (.bool false)) S := by
        rw [g_eqL S ly (ly_tup (k := 0) (by simp)) (by omega) (by omega) (by simp)]
        simp [PyData.eqv, PyData.eqvAll]
      generalize ((d + 1 : Nat) : Int) = D1 at *
      generalize itemsD ys = Y at *
      simp [P_is_item, startQ, hne, isTy, tyName, e1, e2, ht', hsub, hd, LIM]
    | go m e n => exact lone (k + 2 * (d + 1)) (d + 1) o (by simp)
    | flip i => exact lone (k + 2 * (d + 1)) (d + 1) o (by simp)
    | mark => exact lone (k + 2 * (d + 1)) (d + 1) o (by simp)
theorem p_scene_by (b : ItemT T) (k : Nat) (S : Sto) {s : Sky} {xs : List Item} (o : SceneOk s xs) : callQ T (k + 11) "is_scene_by" [.d s.D, .d (itemsD xs)] S = .ok (.d (.bool true)) S := by
  rw [callQ_succ b.is_scene_by rfl rfl]
  have e1 := p_items b S 3 k (by omega) o.o
  have e2 := p_size_of b.size_of S 3 (k + 6) o.o
  have hz := o.z
  have hz' : ((sizeOf' xs : Nat) : Int) ≤ 100000000000 := by omega
  generalize itemsD xs = X at *
  generalize s.D = G at *
  generalize ((sizeOf' xs : Nat) : Int) = Z at *
  simp at e1
  simp [P_is_scene_by, startQ, e1, e2, hz']
theorem p_need_scene (b : ItemT T) (k : Nat) (S : Sto) {s : Sky} {xs : List Item} (o : SceneOk s xs) : callQ T (k + 12) "need_scene" [.d s.D, .d (itemsD xs)] S = .ok (.d .none) S := by
  rw [callQ_succ b.need_scene rfl rfl]; simp [P_need_scene, startQ, p_scene_by b k S o]
end
end Q

namespace Q
open PySem PySem.Spec PyProof.Rows L2
mutual
def Item.about : Item → Item
  | .go m e n => .go (0 - m) (0 - e) (0 - n)
  | .flip i => .flip i
  | .mark => .mark
  | .again t xs => .again t (aboutOf xs)
def aboutOf : List Item → List Item
  | [] => []
  | x :: xs => aboutOf xs ++ [x.about]
end
theorem aboutOf_map : ∀ xs : List Item, aboutOf xs = (xs.map Item.about).reverse
  | [] => rfl
  | x :: xs => by simp only [aboutOf, List.map_cons, List.reverse_cons, aboutOf_map xs]
theorem aboutOf_len (xs : List Item) : (aboutOf xs).length = xs.length := by rw [aboutOf_map]; simp
theorem sizeOf_app : ∀ xs ys : List Item, sizeOf' (xs ++ ys) = sizeOf' xs + sizeOf' ys
  | [], ys => by simp [sizeOf']
  | x :: xs, ys => by simp only [List.cons_append, sizeOf', sizeOf_app xs ys]; omega
def State.neg (a : State) : State := a.oft (-1)
theorem rep_rev {α : Type} (l : List α) : ∀ t : Nat, (List.replicate t l).flatten.reverse = (List.replicate t l.reverse).flatten
  | 0 => rfl
  | t + 1 => by
    have h : ∀ t : Nat, (List.replicate t l.reverse).flatten ++ l.reverse = l.reverse ++ (List.replicate t l.reverse).flatten := fun t => by
      induction t with
      | zero => simp
      | succ t ih => rw [List.replicate_succ, List.flatten_cons, List.append_assoc, ih]
    rw [List.replicate_succ, List.flatten_cons, List.reverse_append, rep_rev l t, List.replicate_succ, List.flatten_cons, h]
mutual
theorem about_beats : ∀ x : Item, x.about.beats = x.beats.reverse.map State.neg
  | .go m e n => by simp [Item.about, Item.beats, State.neg, State.oft]
  | .flip i => by simp [Item.about, Item.beats, State.neg, State.oft]
  | .mark => rfl
  | .again t xs => by simp only [Item.about, Item.beats, rep_rev, List.map_flatten, List.map_replicate, abouts_beats xs]
theorem abouts_beats : ∀ xs : List Item, beatsOf (aboutOf xs) = (beatsOf xs).reverse.map State.neg
  | [] => rfl
  | x :: xs => by
    have h1 : beatsOf [x.about] = x.about.beats := by simp [beatsOf]
    simp only [aboutOf, beatsOf_append, h1, abouts_beats xs, about_beats x, beatsOf, List.reverse_append, List.map_append, List.append_nil]
end
theorem about_size (xs : List Item) : sizeOf' (aboutOf xs) = sizeOf' xs := by rw [sizeOf_beats, abouts_beats, sizeOf_beats]; simp
theorem about_ok {n : Nat} : ∀ (d : Nat), (∀ {x : Item}, Item.Ok n d x → Item.Ok n d x.about) ∧ ∀ {xs : List Item}, ItemsOk n d xs → ItemsOk n d (aboutOf xs) := by
  have one : ∀ (d : Nat), (∀ {x : Item}, Item.Ok n d x → Item.Ok n d x.about) → ∀ {xs : List Item}, ItemsOk n d xs → ItemsOk n d (aboutOf xs) := fun d h xs o => ⟨by rw [aboutOf_len]; exact o.l, fun x hx => by
    rw [aboutOf_map, List.mem_reverse] at hx
    obtain ⟨y, hy, rfl⟩ := List.mem_map.mp hx
    exact h (o.o y hy)⟩
  intro d
  induction d with
  | zero =>
    have h : ∀ {x : Item}, Item.Ok n 0 x → Item.Ok n 0 x.about := fun {x} o => by
      cases o with
      | go h1 h2 h3 => exact .go (by omega) (by omega) (by omega)
      | flip h => exact .flip h
      | mark => exact .mark
    exact ⟨h, one 0 h⟩
  | succ d ih =>
    have h : ∀ {x : Item}, Item.Ok n (d + 1) x → Item.Ok n (d + 1) x.about := fun {x} o => by
      cases o with
      | go h1 h2 h3 => exact .go (by omega) (by omega) (by omega)
      | flip h => exact .flip h
      | mark => exact .mark
      | again h1 h2 h3 =>
        have := ih.2 ⟨h2, h3⟩
        exact .again h1 this.l this.o
    exact ⟨h, one (d + 1) h⟩
theorem SceneOk.about {s : Sky} {xs : List Item} (o : SceneOk s xs) : SceneOk s (aboutOf xs) := ⟨(about_ok 3).2 o.o, by rw [about_size]; exact o.z⟩
def Light.stays (l : Light) (w m e : Int) : Bool := decide ((l.s * m + e) % w = 0) && decide (l.rows.drop (m % l.rows.length).toNat ++ l.rows.take (m % l.rows.length).toNat = l.rows)
section
variable {T : Tab}
theorem p_about (h : Has_about T) {n : Nat} (S : Sto) : ∀ (d k : Nat) {xs : List Item}, ItemsOk n d xs → callQ T (k + d + 1) "about" [.d (itemsD xs)] S = .ok (.d (itemsD (aboutOf xs))) S := by
  have step : ∀ (d k : Nat), (∀ {t : Nat} {ys : List Item}, Item.Ok n d (.again t ys) → callQ T (k + d) "about" [.d (itemsD ys)] S = .ok (.d (itemsD (aboutOf ys))) S) → ∀ {xs : List Item}, ItemsOk n d xs → callQ T (k + d + 1) "about" [.d (itemsD xs)] S = .ok (.d (itemsD (aboutOf xs))) S := by
    intro d k hrec xs o
    rw [callQ_succ h rfl rfl]
    have l8 := o.l
    have main : ∀ (ys pre : List Item) (w3 w4 : Option W), (∀ y ∈ ys, Item.Ok n d y) → pre.length + ys.length ≤ 8 → ∃ w3' w4', forL (.name 2) (PB_about_2 (callQ T (k + d))) (ys.map Item.D) [some (.d (itemsD xs)), some (.own (pre.map Item.D)), w3, none] S = .next [some (.d (itemsD xs)), some (.own ((pre ++ ys.map Item.about).map Item.D)), w3', w4'] S ∧ w4' = none := by
      intro ys
      induction ys with
      | nil => intro pre w3 w4 _ _; exact ⟨w3, none, by simp [forL], rfl⟩
      | cons y ys ih =>
        intro pre w3 w4 o hb
        simp only [List.length_cons] at hb
        have oy := o y (by simp)
        obtain ⟨w3', w4', e, e4⟩ := ih (pre ++ [y.about]) (some (.d y.about.D)) none (fun z hz => o z (by simp [hz])) (by simp; omega)
        refine ⟨w3', w4', ?_, e4⟩
        rw [List.map_cons, seq_cons_next (env1 := [some (.d (itemsD xs)), some (.own (pre.map Item.D)), some (.d y.D), none]) (env2 := [some (.d (itemsD xs)), some (.own ((pre ++ [y.about]).map Item.D)), some (.d y.about.D), none]) (S2 := S) rfl ?_, e]
        · simp
        · have hl : pre.length < 16777216 := by omega
          generalize itemsD xs = G
          cases y with
          | go a b c => simp [PB_about_2, Item.D, Item.about, notOwn, compL, PC_about_1, LIM, hl]
          | flip i => simp [PB_about_2, Item.D, Item.about, LIM, hl]
          | mark => simp [PB_about_2, Item.D, Item.about, LIM, hl]
          | again t zs =>
            have e1 := hrec oy
            have hab : (Item.again t zs).about = .again t (aboutOf zs) := by simp [Item.about]
            rw [hab, List.map_append, List.map_cons, List.map_nil, again_D, again_D]
            generalize itemsD zs = Z at *
            generalize itemsD (aboutOf zs) = Z2 at *
            simp [PB_about_2, e1, LIM, hl]
    obtain ⟨w3, w4, e, rfl⟩ := main xs.reverse [] none none (fun y hy => o.o y (by simpa using hy)) (by simp; omega)
    have e0 : itemsD xs = .tuple (xs.map Item.D) := rfl
    have e1 : itemsD (aboutOf xs) = .tuple ((xs.reverse.map Item.about).map Item.D) := by rw [aboutOf_map, ← List.map_reverse]; rfl
    rw [e1]
    rw [e0] at e ⊢
    simp at e
    simp [P_about, startQ, LIM, x_rev, e]
  intro d
  induction d with
  | zero => intro k xs o; exact step 0 k (fun o => nomatch o) o
  | succ d ih =>
    intro k xs o
    refine step (d + 1) k (fun {t ys} ox => ?_) o
    exact ih k (ItemsOk.again ox).1
end
end Q

namespace Q
open PySem PySem.Spec PyProof.Rows L2
def Light.back (l : Light) (w : Int) (many : Nat) : Bool := decide (l.s * many % w = 0) && (List.range l.rows.length).all fun n => decide (l.row (n + many) = l.rows.getD n 0)
section
variable {T : Tab}
def Sky.back (s : Sky) (many : Nat) : Bool := s.ls.all fun l => l.back s.w many
end
end Q

namespace Q
open PySem PySem.Spec PyProof.Rows L2
section
variable {T : Tab}
def Pen (S : Sto) (n B : Nat) : Prop := ∃ a b c : Int, S[n]? = some (.lst [.int a, .int b, .int c]) ∧ 0 ≤ a ∧ 0 ≤ b ∧ b < 1000000007 ∧ 0 ≤ c ∧ c ≤ B
theorem Pen.mono {S : Sto} {n B C : Nat} (h : Pen S n B) (q : B ≤ C) : Pen S n C := by
  obtain ⟨a, b, c, e, h1, h2, h3, h4, h5⟩ := h
  exact ⟨a, b, c, e, h1, h2, h3, h4, by omega⟩
end
end Q

namespace Q
open PySem PySem.Spec PyProof.Rows L2
section
variable {T : Tab}
theorem Item.Ok.up {n d : Nat} {x : Item} (o : Item.Ok n 0 x) : Item.Ok n d x := by
  cases o with
  | go h1 h2 h3 => exact .go h1 h2 h3
  | flip h => exact .flip h
  | mark => exact .mark
mutual
def Item.line : Item → List Item
  | .again t xs => (List.replicate t (lineOf xs)).flatten
  | .go a b c => [.go a b c]
  | .flip i => [.flip i]
  | .mark => [.mark]
def lineOf : List Item → List Item
  | [] => []
  | x :: xs => x.line ++ lineOf xs
end
/-- what a single item does -/
def Item.one : Item → State
  | .go m e n => ⟨m, e, n, []⟩
  | .flip i => ⟨0, 0, 0, [(i : Int)]⟩
  | _ => .zero
end
end Q

namespace Q
open PySem PySem.Spec PyProof.Rows L2
def Tune (ts : List Int) : Prop := 1 ≤ ts.length ∧ ts.length ≤ 8 ∧ ∀ t ∈ ts, 1 ≤ t ∧ t ≤ 12
def tpre (ts : List Int) (j : Nat) : Int := (ts.take j).sum
theorem tpre_succ {ts : List Int} {j : Nat} (h : j < ts.length) : tpre ts (j + 1) = tpre ts j + ts[j] := by
  unfold tpre
  rw [List.take_add_one, List.getElem?_eq_getElem h]
  simp only [Option.toList_some, List.sum_append, List.sum_cons, List.sum_nil, Int.add_zero]
theorem tpre_mono {ts : List Int} (hp : ∀ t ∈ ts, 1 ≤ t) : ∀ {i j : Nat}, i ≤ j → j ≤ ts.length → tpre ts i ≤ tpre ts j
  | i, 0, h, _ => by have : i = 0 := by omega
                     subst this; exact Int.le_refl _
  | i, j + 1, h, hl => by
    rcases Nat.lt_or_ge i (j + 1) with q | q
    · have := tpre_mono hp (i := i) (j := j) (by omega) (by omega)
      rw [tpre_succ (by omega)]
      have := hp ts[j] (List.getElem_mem _)
      omega
    · have : i = j + 1 := by omega
      subst this; exact Int.le_refl _
theorem tpre_len (ts : List Int) : tpre ts ts.length = ts.sum := by simp [tpre]
theorem tpre_zero (ts : List Int) : tpre ts 0 = 0 := by simp [tpre]
theorem tsum_pos {ts : List Int} (h : Tune ts) : 0 < ts.sum := by
  have h1 := tpre_mono (fun t ht => (h.2.2 t ht).1) (i := 1) (j := ts.length) h.1 (Nat.le_refl _)
  rw [tpre_len, tpre_succ (by have := h.1; omega), tpre_zero] at h1
  have := h.2.2 (ts[0]'(by have := h.1; omega)) (List.getElem_mem _)
  omega
theorem tsum_le : ∀ {ts : List Int}, (∀ t ∈ ts, 1 ≤ t ∧ t ≤ 12) → ts.sum ≤ 12 * (ts.length : Int)
  | [], _ => by simp
  | t :: ts, h => by
    have := tsum_le (ts := ts) fun x hx => h x (by simp [hx])
    have := (h t (by simp)).2
    simp only [List.sum_cons, List.length_cons]
    omega
section
variable {cf : CF} {env : EnvQ} {S : Sto}
@[simp] theorem y_freezeD (i : Nat) : sFreezeD i cf env S = (match env[i]? with | some (some (.ownd kvs)) => if kvs.all (fun kv => flD kv.2) then .next (env.set i (some (.d (.dict (datK kvs))))) S else .stuck | _ => .stuck) := rfl
@[simp] theorem y_upd (i : Nat) (f : SE) : sUpd i f cf env S = (match env[i]? with
  | some (some (.ownd kvs)) => (f cf env S).then env fun w S' => (match w with
    | .d (.dict ds) => (match updD kvs ds with
      | some r => if kvs.length + ds.length ≤ LIM then .next (env.set i (some (.ownd r))) S' else .stuck
      | none => .stuck)
    | _ => .stuck)
  | _ => .stuck) := rfl
@[simp] theorem x_dcomp (vs : List Nat) (t : Tg) (it : SI) (c : ST) (f : SE) : fDComp vs t it c f cf env S = if vs.all (notOwn env) then (it cf env S).bind fun ds S1 => (compL t (c cf) (f cf) (wipeE env vs) ds S1).bind fun xs S2 => if xs.length ≤ LIM then (match keysOfD xs with
  | some ks => .ok (.d (.dict (trueD (onceK ks)))) S2
  | none => .stuck) else .stuck else .stuck := rfl
@[simp] theorem x_seqD (f : SE) : iSeqD f cf env S = (f cf env S).bind fun w S1 => (match w with
  | .d (.list xs) => .ok xs S1
  | .d (.tuple xs) => .ok xs S1
  | .d (.dict ds) => .ok (ds.map (·.1)) S1
  | _ => .stuck) := rfl
@[simp] theorem x_idx (fo fx : SE) : fIdx fo fx cf env S = (fo cf env S).bind fun w S1 => (match w with
  | .d (.list xs) => (fx cf env S1).bind fun u S2 => (match u with
    | .d x => if okEq x && okEq (.list xs) then (match idxD x xs with
      | some j => .ok (.d (.int (j : Nat))) S2
      | none => .stuck) else .stuck
    | _ => .stuck)
  | _ => .stuck) := rfl
@[simp] theorem x_sortSetA (f : SE) : fSortSetA f cf env S = (f cf env S).bind fun w S1 => (match w with
  | .d (.list xs) => (match intsOf xs with | some is => if is.length ≤ 4000 then .ok (.d (.list ((sortS is).map PyData.int))) S1 else .stuck | none => .stuck)
  | .d (.tuple xs) => (match intsOf xs with | some is => if is.length ≤ 4000 then .ok (.d (.list ((sortS is).map PyData.int))) S1 else .stuck | none => .stuck)
  | _ => .stuck) := rfl
@[simp] theorem x_elOd (r : List EL) : elsE (.od :: r) cf env S = (elsE r cf env S).bind fun us S2 => .ok (.ownd [] :: us) S2 := rfl
end
theorem flat_ints : ∀ (is : List Int), (is.map PyData.int).all flatD = true
  | [] => rfl
  | i :: is => by simp [flatD, flat_ints is]
theorem inD_ints (x : Int) (is : List Int) : inD (.int x) (is.map .int) = decide (x ∈ is) := by
  unfold inD
  induction is with
  | nil => rfl
  | cons i is ih =>
    simp only [List.map_cons, List.any_cons, ih, List.mem_cons, PyData.eqv]
    by_cases h : x = i
    · subst h; simp
    · have h' : ¬ i = x := fun z => h z.symm
      simp [h, h']
theorem g_inI (x : Int) (is : List Int) (S : Sto) : gIn (.d (.int x)) (.d (.list (is.map .int))) S = .ok (.d (.bool (decide (x ∈ is)))) S := by
  simp only [gIn, flat_ints, inD_ints]
  rfl
def rowsD (Ls : List (List Int)) : List D := Ls.map fun L => .list (L.map .int)
theorem canLay_ints : ∀ (is : List Int), PyData.canLayAll0 (is.map .int) = true
  | [] => rfl
  | i :: is => by simp [PyData.canLayAll0, PyData.canLay0, canLay_ints is]
theorem depth_ints : ∀ (is : List Int), PyData.depthAll (is.map .int) = 0
  | [] => rfl
  | i :: is => by simp [PyData.depthAll, PyData.depth, depth_ints is]
theorem rows_lay : ∀ (Ls : List (List Int)), PyData.canLayAll0 (rowsD Ls) = true ∧ PyData.depthAll (rowsD Ls) ≤ 1
  | [] => by simp [rowsD, PyData.canLayAll0, PyData.depthAll]
  | L :: Ls => by
    obtain ⟨h1, h2⟩ := rows_lay Ls
    simp only [rowsD, List.map_cons] at *
    simp [PyData.canLayAll0, PyData.canLay0, canLay_ints, h1, PyData.depthAll, PyData.depth, depth_ints]
    omega
theorem rows_ok (Ls : List (List Int)) : okEq (.list (rowsD Ls)) = true := by
  obtain ⟨h1, h2⟩ := rows_lay Ls
  simp [okEq, PyData.canLay0, PyData.depth, h1]
  omega
theorem eqv_nil (L : List Int) : PyData.eqv (.list (L.map .int)) (.list []) = L.isEmpty := by
  cases L <;> simp [PyData.eqv, PyData.eqvAll]
theorem okEq_nil : okEq (.list []) = true := rfl
theorem g_inE (Ls : List (List Int)) (S : Sto) : gIn (.d (.list [])) (.d (.list (rowsD Ls))) S = .ok (.d (.bool (Ls.any List.isEmpty))) S := by
  have e : inD (.list []) (rowsD Ls) = Ls.any List.isEmpty := by
    unfold inD rowsD
    rw [List.any_map]
    congr 1
    funext L
    exact eqv_nil L
  simp only [gIn, rows_ok, okEq_nil, e]
  simp [flatD]
theorem idx_rows (Ls : List (List Int)) : idxD (.list []) (rowsD Ls) = Ls.findIdx? List.isEmpty := by
  unfold idxD rowsD
  rw [List.findIdx?_map]
  congr 1
  funext L
  exact eqv_nil L
def addI (ks : List Int) (a : Int) : List Int := if a ∈ ks then ks else ks ++ [a]
def onceL (is : List Int) : List Int := is.foldl addI []
def tr (ks : List Int) : List (D × D) := ks.map fun i => (.int i, .bool true)
def ow (ks : List Int) : List (Key × D) := ks.map fun i => (.inl i, .bool true)
theorem mem_addI {ks : List Int} {a r : Int} : r ∈ addI ks a ↔ r ∈ ks ∨ r = a := by
  unfold addI
  split
  · constructor
    · exact .inl
    · rintro (h | rfl)
      · exact h
      · assumption
  · simp
theorem nd_addI {ks : List Int} {a : Int} (h : ks.Nodup) : (addI ks a).Nodup := by
  unfold addI
  split
  · exact h
  · rename_i n
    rw [List.nodup_append]
    exact ⟨h, by simp, fun x hx y hy e => by simp at hy; subst hy; subst e; exact n hx⟩
theorem mem_foldI : ∀ (ms ks : List Int) {r : Int}, r ∈ ms.foldl addI ks ↔ r ∈ ks ∨ r ∈ ms
  | [], ks, r => by simp
  | m :: ms, ks, r => by
    rw [List.foldl_cons, mem_foldI ms, mem_addI, List.mem_cons]
    constructor
    · rintro ((h | h) | h)
      · exact .inl h
      · exact .inr (.inl h)
      · exact .inr (.inr h)
    · rintro (h | h | h)
      · exact .inl (.inl h)
      · exact .inl (.inr h)
      · exact .inr h
theorem nd_foldI : ∀ (ms ks : List Int), ks.Nodup → (ms.foldl addI ks).Nodup
  | [], ks, h => h
  | m :: ms, ks, h => nd_foldI ms (addI ks m) (nd_addI h)
theorem put_ow (ks : List Int) (a : Int) : putD (ow ks) (.inl a) (.bool true) = ow (addI ks a) := by
  unfold putD addI ow
  have e : ((ks.map fun i => ((Sum.inl i : Key), PyData.bool true)).any fun kv => decide (kv.1 = (Sum.inl a : Key))) = decide (a ∈ ks) := by
    rw [List.any_map]
    induction ks with
    | nil => rfl
    | cons i ks ih =>
      rw [List.any_cons, ih]
      by_cases h : a = i
      · subst h; simp
      · have h' : ¬ i = a := fun z => h z.symm
        simp [h, h']
  rw [e]
  by_cases h : a ∈ ks
  · rw [if_pos (by simpa using h), if_pos h, List.map_map]
    refine List.map_congr_left fun i hi => ?_
    simp only [Function.comp]
    split <;> simp_all
  · rw [if_neg (by simpa using h), if_neg h, List.map_append]
    rfl
theorem upd_ow : ∀ (ms ks : List Int), updD (ow ks) (tr ms) = some (ow (ms.foldl addI ks))
  | [], ks => rfl
  | m :: ms, ks => by
    show updD (putD (ow ks) (.inl m) (.bool true)) (tr ms) = _
    rw [put_ow, upd_ow ms]
    rfl
theorem keys_ints : ∀ (is : List Int), keysOfD (is.map .int) = some (is.map Sum.inl)
  | [] => rfl
  | i :: is => by simp [keysOfD, keyOfD, keys_ints is]
theorem once_ints (is : List Int) : trueD (onceK (is.map Sum.inl)) = tr (onceL is) := by
  have h : ∀ (is a : List Int), (is.map (Sum.inl : Int → Key)).foldl addK (a.map Sum.inl) = (is.foldl addI a).map Sum.inl := by
    intro is
    induction is with
    | nil => intro a; rfl
    | cons i is ih =>
      intro a
      simp only [List.map_cons, List.foldl_cons]
      rw [← ih]
      congr 1
      unfold addK addI
      have e : ((a.map (Sum.inl : Int → Key)).any fun j => decide (j = Sum.inl i)) = decide (i ∈ a) := by
        rw [List.any_map]
        induction a with
        | nil => rfl
        | cons x a ih2 =>
          rw [List.any_cons, ih2]
          by_cases h : i = x
          · subst h; simp
          · have h' : ¬ x = i := fun z => h z.symm
            simp [h, h']
      rw [e]
      by_cases hm : i ∈ a <;> simp [hm]
  have := h is []
  simp only [List.map_nil] at this
  unfold onceK onceL trueD tr
  rw [this, List.map_map]
  rfl
theorem dat_ow (ks : List Int) : datK (ow ks) = tr ks := by
  unfold datK ow tr
  rw [List.map_map]
  rfl
theorem ow_flat (ks : List Int) : ((ow ks).all fun kv => flD kv.2) = true := by
  unfold ow
  rw [List.all_map]
  simp [flD]
theorem tr_keys (ks : List Int) : (tr ks).map (·.1) = ks.map PyData.int := by
  unfold tr
  rw [List.map_map]
  rfl
theorem keysI_tr : ∀ (ks : List Int), keysI (tr ks) = some ks
  | [] => rfl
  | k :: ks => by
    show (keysI (tr ks)).map (k :: ·) = _
    rw [keysI_tr ks]
    rfl
theorem low_len {ks : List Int} {w : Int} (hn : ks.Nodup) (h : ∀ r ∈ ks, 0 ≤ r ∧ r < w) : (ks.length : Int) ≤ w ∨ ks = [] := by
  by_cases h0 : ks = []
  · exact .inr h0
  · refine .inl ?_
    have hs : ks ⊆ (List.range w.toNat).map fun j : Nat => (j : Int) := fun r hr => by
      have := h r hr
      exact List.mem_map.mpr ⟨r.toNat, List.mem_range.mpr (by omega), by omega⟩
    have := hn.length_le_of_subset hs
    rw [List.length_map, List.length_range] at this
    obtain ⟨x, hx⟩ := List.exists_mem_of_ne_nil ks h0
    have := h x hx
    omega
end Q

namespace Q
open PySem PySem.Spec PyProof.Rows L2
mutual
def Item.mk : Item → List Nat
  | .go _ _ _ => []
  | .flip _ => []
  | .mark => [0]
  | .again t xs => (List.range t).flatMap fun j => (mkOf xs).map fun p => p + j * sizeOf' xs
def mkOf : List Item → List Nat
  | [] => []
  | x :: xs => x.mk ++ (mkOf xs).map fun p => p + x.size
end
theorem mk_mark : Item.mark.mk = [0] := by simp [Item.mk]
theorem mkOf_app : ∀ (xs ys : List Item), mkOf (xs ++ ys) = mkOf xs ++ (mkOf ys).map fun p => p + sizeOf' xs
  | [], ys => by simp [mkOf, sizeOf']
  | x :: xs, ys => by
    simp only [List.cons_append, mkOf, mkOf_app xs ys, List.map_append, List.map_map, sizeOf', List.append_assoc]
    congr 2
    refine List.map_congr_left fun p _ => ?_
    simp only [Function.comp]
    omega
mutual
theorem Item.mk_len : ∀ x : Item, x.mk.length = x.marks
  | .go _ _ _ => by simp [Item.mk, Item.marks]
  | .flip _ => by simp [Item.mk, Item.marks]
  | .mark => by simp [Item.mk, Item.marks]
  | .again t xs => by
    have h := mkOf_len xs
    simp only [Item.mk, Item.marks, List.length_flatMap, List.length_map, h]
    have : ∀ n : Nat, ((List.range n).map fun _ => marksOf xs).sum = n * marksOf xs := by
      intro n
      induction n with
      | zero => simp
      | succ n ih => rw [List.range_succ, List.map_append, List.sum_append, ih]; simp [Nat.succ_mul]
    exact this t
theorem mkOf_len : ∀ xs : List Item, (mkOf xs).length = marksOf xs
  | [] => by simp [mkOf, marksOf]
  | x :: xs => by simp only [mkOf, marksOf, List.length_append, List.length_map, Item.mk_len x, mkOf_len xs]
end
/-- what is left of the marks' beats by w -/
def Lf (w : Int) (xs : List Item) (r : Int) : Prop := ∃ p ∈ mkOf xs, (p : Int) % w = r
theorem lf_low {w : Int} (hw : 0 < w) {xs : List Item} {r : Int} (h : Lf w xs r) : 0 ≤ r ∧ r < w := by
  obtain ⟨p, _, rfl⟩ := h
  exact ⟨Int.emod_nonneg _ (by omega), Int.emod_lt_of_pos _ hw⟩
theorem lf_nil {w r : Int} : ¬ Lf w [] r := by
  rintro ⟨p, h, _⟩
  simp [mkOf] at h
theorem lf_snoc {w : Int} {xs : List Item} {x : Item} {r : Int} : Lf w (xs ++ [x]) r ↔ Lf w xs r ∨ ∃ p ∈ x.mk, ((sizeOf' xs : Int) + p) % w = r := by
  unfold Lf
  rw [mkOf_app]
  simp only [mkOf, List.map_nil, List.append_nil, List.mem_append, List.mem_map]
  constructor
  · rintro ⟨p, h | ⟨q, hq, rfl⟩, e⟩
    · exact .inl ⟨p, h, e⟩
    · exact .inr ⟨q, hq, by rw [← e]; congr 1; omega⟩
  · rintro (⟨p, h, e⟩ | ⟨q, hq, e⟩)
    · exact ⟨p, .inl h, e⟩
    · exact ⟨q + sizeOf' xs, .inr ⟨q, hq, rfl⟩, by rw [← e]; congr 1; omega⟩
/-- an item done again: as many turns as the number has rests are enough -/
theorem mk_again {w : Int} (hw : 0 < w) {t : Nat} {xs : List Item} {a r : Int} : (∃ p ∈ (Item.again t xs).mk, (a + p) % w = r) ↔ ∃ j : Nat, j < min t w.toNat ∧ ∃ l, Lf w xs l ∧ (a % w + (j : Int) * ((sizeOf' xs : Int) % w) + l) % w = r := by
  simp only [Item.mk, List.mem_flatMap, List.mem_range, List.mem_map]
  have key : ∀ (j : Nat) (q : Nat), (a + ((q + j * sizeOf' xs : Nat) : Int)) % w = (a % w + ((j % w.toNat : Nat) : Int) * ((sizeOf' xs : Int) % w) + (q : Int) % w) % w := by
    intro j q
    have e1 : ((j % w.toNat : Nat) : Int) = (j : Int) % w := by rw [Int.natCast_emod, Int.toNat_of_nonneg (by omega)]
    rw [e1]
    have e2 : (((j : Int) % w) * ((sizeOf' xs : Int) % w)) % w = ((j : Int) * (sizeOf' xs : Int)) % w := by rw [← Int.mul_emod]
    have e3 : (a % w + ((j : Int) % w) * ((sizeOf' xs : Int) % w) + (q : Int) % w) % w = (a + (j : Int) * (sizeOf' xs : Int) + q) % w := by
      rw [Int.add_emod_emod, Int.add_assoc, Int.emod_add_emod, ← Int.add_assoc, Int.add_emod (a + _) q, Int.add_emod a, e2, ← Int.add_emod a, ← Int.add_emod]
    rw [e3]
    congr 1
    push_cast
    omega
  constructor
  · rintro ⟨p, ⟨j, hj, q, hq, rfl⟩, e⟩
    refine ⟨j % w.toNat, ?_, _, ⟨q, hq, rfl⟩, by rw [← key]; exact e⟩
    have := Nat.mod_lt j (show 0 < w.toNat by omega)
    have := Nat.mod_le j w.toNat
    omega
  · rintro ⟨j, hj, _, ⟨q, hq, rfl⟩, e⟩
    refine ⟨q + j * sizeOf' xs, ⟨j, by omega, q, hq, rfl⟩, ?_⟩
    rw [key, Nat.mod_eq_of_lt (by omega)]
    exact e
/-- rising -/
def lfL (w : Int) (xs : List Item) : List Int := ((List.range w.toNat).filter fun r => (mkOf xs).any fun p => decide ((p : Int) % w = (r : Nat))).map fun r : Nat => (r : Int)
theorem range_rise (n : Nat) : (List.range n).Pairwise (· < ·) := List.pairwise_lt_range
theorem lfL_pw (w : Int) (xs : List Item) : (lfL w xs).Pairwise (· < ·) := by
  unfold lfL
  rw [List.pairwise_map]
  exact ((range_rise _).filter _).imp fun h => by omega
theorem mem_lfL {w : Int} (hw : 0 < w) {xs : List Item} {r : Int} : r ∈ lfL w xs ↔ Lf w xs r := by
  unfold lfL
  rw [List.mem_map]
  constructor
  · rintro ⟨n, hn, rfl⟩
    obtain ⟨-, h⟩ := List.mem_filter.mp hn
    obtain ⟨p, hp, e⟩ := List.any_eq_true.mp h
    exact ⟨p, hp, of_decide_eq_true e⟩
  · intro h
    have hl := lf_low hw h
    obtain ⟨p, hp, e⟩ := h
    refine ⟨r.toNat, List.mem_filter.mpr ⟨List.mem_range.mpr (by omega), List.any_eq_true.mpr ⟨p, hp, decide_eq_true ?_⟩⟩, by omega⟩
    omega
theorem lfL_eq {w : Int} (hw : 0 < w) {xs : List Item} {l : List Int} (h1 : l.Pairwise (· < ·)) (h2 : ∀ r, r ∈ l ↔ Lf w xs r) : l = lfL w xs := rise_eq h1 (lfL_pw w xs) fun r => (h2 r).trans (mem_lfL hw).symm
theorem lfL_len {w : Int} (xs : List Item) : (lfL w xs).length ≤ w.toNat := by
  unfold lfL
  rw [List.length_map]
  exact Nat.le_trans (List.length_filter_le _ _) (by simp)
theorem sort_lfL {w : Int} (hw : 0 < w) {xs : List Item} {ks : List Int} (hn : ks.Nodup) (h : ∀ r, r ∈ ks ↔ Lf w xs r) : sortI ks = lfL w xs := lfL_eq hw (sort_lt hn) fun r => by rw [(sortI_perm ks).mem_iff, h]
section
variable {T : Tab}
/-- the inner loop: as many turns -/
theorem marks_turns {cf : CF} {S : Sto} {w : Int} (hw : 0 < w) (hw2 : w ≤ 96) (e0 : Option W) (e4 : Option W) {ms : List Int} {a long : Int} (hl0 : 0 ≤ long) (hl : long < w) (hm : ms.Nodup) (hm2 : ∀ r ∈ ms, 0 ≤ r ∧ r < w) : ∀ (n : Nat) {ks : List Int} (e7 : Option W), n ≤ 96 → ks.Nodup → (∀ r ∈ ks, 0 ≤ r ∧ r < w) →
    ∃ ks' e7', forL (.name 7) (UB_marks_by_2 cf) (rangeD 0 n) [e0, some (.d (.int w)), some (.ownd (ow ks)), some (.d (.int a)), e4, some (.d (.dict (tr ms))), some (.d (.int long)), e7, none] S =
      .next [e0, some (.d (.int w)), some (.ownd (ow ks')), some (.d (.int a)), e4, some (.d (.dict (tr ms))), some (.d (.int long)), e7', none] S ∧ ks'.Nodup ∧ (∀ r, r ∈ ks' ↔ r ∈ ks ∨ ∃ j : Nat, j < n ∧ ∃ l ∈ ms, (a + (j : Int) * long + l) % w = r) := by
  intro n ks e7 hn96 hks hks2
  obtain ⟨env', S', e, i⟩ := forL_inv0 (t := .name 7) (body := UB_marks_by_2 cf) (ds := rangeD 0 n) (S := S) (env := [e0, some (.d (.int w)), some (.ownd (ow ks)), some (.d (.int a)), e4, some (.d (.dict (tr ms))), some (.d (.int long)), e7, none])
    (fun i env S' => S' = S ∧ ∃ ks' e7', env = [e0, some (.d (.int w)), some (.ownd (ow ks')), some (.d (.int a)), e4, some (.d (.dict (tr ms))), some (.d (.int long)), e7', none] ∧ ks'.Nodup ∧ (∀ r, r ∈ ks' ↔ r ∈ ks ∨ ∃ j : Nat, j < i ∧ ∃ l ∈ ms, (a + (j : Int) * long + l) % w = r))
    ⟨rfl, ks, e7, rfl, hks, fun r => by simp⟩ (by
      rintro i d env S' hd ⟨rfl, ks', e7', rfl, hn', hm'⟩
      obtain ⟨hi, rfl⟩ := rangeD_get hd
      have ec : compL (.name 8) (cYes cf) (UC_marks_by_1 cf) [e0, some (.d (.int w)), some (.ownd (ow ks')), some (.d (.int a)), e4, some (.d (.dict (tr ms))), some (.d (.int long)), some (.d (.int (0 + (i : Int)))), none] (ms.map PyData.int) S' = .ok ((ms.map fun l => (a + (i : Int) * long + l) % w).map PyData.int) S' := by
        rw [List.map_map]
        refine compL_on _ _ (fun l _ => by simp [cYes]) fun l hl => ?_
        have hsm : (sm (i : Int) || sm long) = true := by
          have : sm long = true := by simp [sm]; omega
          simp [this]
        simp [UC_marks_by_1, hw, hsm]
      have lm := low_len hm hm2
      have hml : ms.length ≤ 96 := by
        rcases lm with h | h
        · omega
        · simp [h]
      have low' : ∀ r ∈ ks', 0 ≤ r ∧ r < w := fun r hr => by
        rcases (hm' r).mp hr with h | ⟨j, _, l, _, rfl⟩
        · exact hks2 r h
        · exact ⟨Int.emod_nonneg _ (by omega), Int.emod_lt_of_pos _ hw⟩
      have hkl : ks'.length ≤ 96 := by
        rcases low_len hn' low' with h | h
        · omega
        · simp [h]
      generalize hv : (ms.map fun l => (a + (i : Int) * long + l) % w) = vs at ec
      have hvl : vs.length ≤ 96 := by rw [← hv, List.length_map]; exact hml
      have hol : (onceL vs).length ≤ 16777216 - ks'.length := by
        have : ∀ (xs b : List Int), (xs.foldl addI b).length ≤ b.length + xs.length := by
          intro xs
          induction xs with
          | nil => intro b; simp
          | cons x xs ih =>
            intro b
            have h1 := ih (addI b x)
            have h2 : (addI b x).length ≤ b.length + 1 := by unfold addI; split <;> simp
            simp only [List.foldl_cons, List.length_cons]
            omega
        have := this vs []
        simp only [List.length_nil] at this
        unfold onceL
        omega
      refine ⟨[e0, some (.d (.int w)), some (.ownd (ow ks')), some (.d (.int a)), e4, some (.d (.dict (tr ms))), some (.d (.int long)), some (.d (.int (0 + (i : Int)))), none], [e0, some (.d (.int w)), some (.ownd (ow ((onceL vs).foldl addI ks'))), some (.d (.int a)), e4, some (.d (.dict (tr ms))), some (.d (.int long)), some (.d (.int (0 + (i : Int)))), none], S', rfl, .inl ?_, rfl, _, _, rfl, nd_foldI _ _ hn', fun r => ?_⟩
      · have h1 : (tr (onceL vs)).length = (onceL vs).length := by simp [tr]
        have h2 : (ow ks').length = ks'.length := by simp [ow]
        have h3 : (ow ks').length + (tr (onceL vs)).length ≤ LIM := by rw [h1, h2]; unfold LIM; omega
        have h4 : vs.length ≤ 16777216 := by omega
        have no : ([8].all (notOwn [e0, some (W.d (.int w)), some (.ownd (ow ks')), some (.d (.int a)), e4, some (.d (.dict (tr ms))), some (.d (.int long)), some (.d (.int (0 + (i : Int)))), none])) = true := rfl
        have wi : wipeE [e0, some (W.d (.int w)), some (.ownd (ow ks')), some (.d (.int a)), e4, some (.d (.dict (tr ms))), some (.d (.int long)), some (.d (.int (0 + (i : Int)))), none] [8] = [e0, some (W.d (.int w)), some (.ownd (ow ks')), some (.d (.int a)), e4, some (.d (.dict (tr ms))), some (.d (.int long)), some (.d (.int (0 + (i : Int)))), none] := rfl
        have h3' : (ow ks').length + (tr (onceL vs)).length ≤ 16777216 := h3
        rw [Int.zero_add] at ec no wi ⊢
        simp only [UB_marks_by_2, y_upd, x_dcomp, no, wi, if_true, x_seqD]
        simp only [x_var]
        simp [tr_keys, ec, keys_ints, once_ints, upd_ow, h3', LIM, h4]
      · rw [mem_foldI, hm' r]
        have mo : r ∈ onceL vs ↔ r ∈ vs := by unfold onceL; rw [mem_foldI]; simp
        rw [mo, ← hv, List.mem_map]
        constructor
        · rintro ((h | ⟨j, hj, h⟩) | ⟨l, hl, e⟩)
          · exact .inl h
          · exact .inr ⟨j, by omega, h⟩
          · exact .inr ⟨i, by omega, l, hl, e⟩
        · rintro (h | ⟨j, hj, l, hl, e⟩)
          · exact .inl (.inl h)
          · by_cases q : j < i
            · exact .inl (.inr ⟨j, q, l, hl, e⟩)
            · have : j = i := by omega
              subst this
              exact .inr ⟨l, hl, e⟩)
  obtain ⟨rfl, ks', e7', rfl, hn', hm'⟩ := i
  rw [rangeD_len] at hm'
  exact ⟨ks', e7', e, hn', hm'⟩
end
end Q

namespace Q
open PySem PySem.Spec PyProof.Rows L2
section
variable {T : Tab}
theorem p_marks_by (h : HasU_marks_by T) {n : Nat} (S : Sto) {w : Int} (hw : 0 < w) (hw2 : w ≤ 96) : ∀ (d k : Nat) {xs : List Item}, ItemsOk n d xs → ∃ ks : List Int, callQ T (k + d + 1) "marks_by" [.d (itemsD xs), .d (.int w)] S = .ok (.d (.tuple [.dict (tr ks), .int ((sizeOf' xs : Int) % w)])) S ∧ ks.Nodup ∧ ∀ r, r ∈ ks ↔ Lf w xs r := by
  have step : ∀ (d k : Nat), (∀ {t : Nat} {ys : List Item}, Item.Ok n d (.again t ys) → ∃ ks : List Int, callQ T (k + d) "marks_by" [.d (itemsD ys), .d (.int w)] S = .ok (.d (.tuple [.dict (tr ks), .int ((sizeOf' ys : Int) % w)])) S ∧ ks.Nodup ∧ ∀ r, r ∈ ks ↔ Lf w ys r) →
      ∀ {xs : List Item}, ItemsOk n d xs → ∃ ks : List Int, callQ T (k + d + 1) "marks_by" [.d (itemsD xs), .d (.int w)] S = .ok (.d (.tuple [.dict (tr ks), .int ((sizeOf' xs : Int) % w)])) S ∧ ks.Nodup ∧ ∀ r, r ∈ ks ↔ Lf w xs r := by
    intro d k hrec xs o
    rw [callQ_succ h rfl rfl]
    have l8 := o.l
    have main : ∀ (ys pre : List Item) (ks : List Int) (e4 e5 e6 e7 : Option W), (∀ y ∈ ys, Item.Ok n d y) → ks.Nodup → (∀ r, r ∈ ks ↔ Lf w pre r) →
        ∃ ks' e4' e5' e6' e7', forL (.name 4) (UB_marks_by_3 (callQ T (k + d))) (ys.map Item.D) [some (.d (itemsD xs)), some (.d (.int w)), some (.ownd (ow ks)), some (.d (.int ((sizeOf' pre : Int) % w))), e4, e5, e6, e7, none] S =
          .next [some (.d (itemsD xs)), some (.d (.int w)), some (.ownd (ow ks')), some (.d (.int ((sizeOf' (pre ++ ys) : Int) % w))), e4', e5', e6', e7', none] S ∧ ks'.Nodup ∧ ∀ r, r ∈ ks' ↔ Lf w (pre ++ ys) r := by
      intro ys
      induction ys with
      | nil => intro pre ks e4 e5 e6 e7 _ hn hm; exact ⟨ks, e4, e5, e6, e7, by simp [forL], hn, by simpa using hm⟩
      | cons y ys ih =>
        intro pre ks e4 e5 e6 e7 oy hn hm
        have o1 := oy y (by simp)
        have os := sizeOf_app pre [y]
        have one : ∃ ks2 e5' e6' e7', UB_marks_by_3 (callQ T (k + d)) [some (.d (itemsD xs)), some (.d (.int w)), some (.ownd (ow ks)), some (.d (.int ((sizeOf' pre : Int) % w))), some (.d y.D), e5, e6, e7, none] S =
            .next [some (.d (itemsD xs)), some (.d (.int w)), some (.ownd (ow ks2)), some (.d (.int ((sizeOf' (pre ++ [y]) : Int) % w))), some (.d y.D), e5', e6', e7', none] S ∧ ks2.Nodup ∧ ∀ r, r ∈ ks2 ↔ Lf w (pre ++ [y]) r := by
          have low : ∀ r ∈ ks, 0 ≤ r ∧ r < w := fun r hr => lf_low hw ((hm r).mp hr)
          have hkl : ks.length ≤ 96 := by
            rcases low_len hn low with q | q
            · omega
            · simp [q]
          have hol : (ow ks).length < 16777216 := by simp [ow]; omega
          have plain : ∀ {z : Item}, z.mk = [] → z.size = 1 → ∀ r, r ∈ ks ↔ Lf w (pre ++ [z]) r := fun {z} hz _ r => by
            rw [lf_snoc, hz, hm r]
            simp
          have e1 : (((sizeOf' pre : Int) % w) + 1) % w = ((sizeOf' pre + 1 : Nat) : Int) % w := by
            rw [Int.emod_add_emod]; simp
          generalize hG : itemsD xs = G
          cases y with
          | go a b c =>
            refine ⟨ks, e5, e6, e7, ?_, hn, plain (by simp [Item.mk]) (by simp [Item.size])⟩
            rw [os]
            simp [UB_marks_by_3, Item.D, sizeOf', Item.size, hw, e1]
          | flip i =>
            refine ⟨ks, e5, e6, e7, ?_, hn, plain (by simp [Item.mk]) (by simp [Item.size])⟩
            rw [os]
            simp [UB_marks_by_3, Item.D, sizeOf', Item.size, hw, e1]
          | mark =>
            refine ⟨addI ks ((sizeOf' pre : Int) % w), e5, e6, e7, ?_, nd_addI hn, fun r => ?_⟩
            · rw [os]
              simp [UB_marks_by_3, Item.D, sizeOf', Item.size, hw, keyOfD, put_ow, hol, LIM]
            · rw [mem_addI, lf_snoc, hm r, mk_mark]
              simp [eq_comm]
          | again t zs =>
            obtain ⟨ms, em, hmn, hmm⟩ := hrec o1
            have ht := (ItemsOk.again (d := d - 1) (n := n) (t := t) (xs := zs) (by
              cases d with
              | zero => cases o1
              | succ d => exact o1)).2
            have l0 := Int.emod_nonneg (sizeOf' zs : Int) (b := w) (by omega)
            have l1 := Int.emod_lt_of_pos (sizeOf' zs : Int) hw
            have hmin : (if w < (t : Int) then w else (t : Int)) = ((min t w.toNat : Nat) : Int) := by
              split <;> omega
            obtain ⟨ks2, e7', et, hn2, hm2⟩ := marks_turns (cf := callQ T (k + d)) (S := S) hw hw2 (some (.d G)) (some (.d (Item.again t zs).D)) (a := (sizeOf' pre : Int) % w) l0 l1 hmn (fun r hr => lf_low hw ((hmm r).mp hr)) (min t w.toNat) e7 (by omega) hn low
            refine ⟨ks2, some (.d (.dict (tr ms))), some (.d (.int ((sizeOf' zs : Int) % w))), e7', ?_, hn2, fun r => ?_⟩
            · have hir : inR ((min t w.toNat : Nat) : Int) = true := inR_of (by omega) (by omega)
              have hsm : (sm (t : Int) || sm ((sizeOf' zs : Int) % w)) = true := by
                have : sm ((sizeOf' zs : Int) % w) = true := by simp [sm]; omega
                simp [this]
              have ea : (((sizeOf' pre : Int) % w) + (t : Int) * ((sizeOf' zs : Int) % w)) % w = ((sizeOf' pre + t * sizeOf' zs : Nat) : Int) % w := by
                rw [Int.emod_add_emod, Int.add_emod, Int.mul_emod, Int.emod_emod, ← Int.mul_emod, ← Int.add_emod]
                push_cast
                rfl
              rw [again_D] at et ⊢
              rw [os]
              generalize itemsD zs = Z at *
              rw [rangeD_map] at et
              simp at et
              simp [UB_marks_by_3, em, setAll, sizeOf', Item.size, hw, hmin, hir, rangeD_map, et, hsm, ea]
            · rw [lf_snoc, hm2 r, hm r, mk_again hw]
              constructor
              · rintro (q | ⟨j, hj, l, hl, e⟩)
                · exact .inl q
                · exact .inr ⟨j, hj, l, (hmm l).mp hl, e⟩
              · rintro (q | ⟨j, hj, l, hl, e⟩)
                · exact .inl q
                · exact .inr ⟨j, hj, l, (hmm l).mpr hl, e⟩
        obtain ⟨ks2, f5, f6, f7, eb, hn2, hm2⟩ := one
        obtain ⟨ks3, g4, g5, g6, g7, e3, hn3, hm3⟩ := ih (pre ++ [y]) ks2 (some (.d y.D)) f5 f6 f7 (fun z hz => oy z (by simp [hz])) hn2 hm2
        rw [List.append_assoc, List.singleton_append] at e3 hm3
        refine ⟨ks3, g4, g5, g6, g7, ?_, hn3, hm3⟩
        rw [List.map_cons, seq_cons_next (env1 := [some (.d (itemsD xs)), some (.d (.int w)), some (.ownd (ow ks)), some (.d (.int ((sizeOf' pre : Int) % w))), some (.d y.D), e5, e6, e7, none]) rfl eb, e3]
    obtain ⟨ks, e4, e5, e6, e7, e, hn, hm⟩ := main xs [] [] none none none none o.o .nil (fun r => by simp [lf_nil])
    refine ⟨ks, ?_, hn, by simpa using hm⟩
    have e0 : itemsD xs = .tuple (xs.map Item.D) := rfl
    rw [e0] at e ⊢
    have o0 : ow [] = [] := rfl
    rw [o0] at e
    simp [sizeOf'] at e
    simp [U_marks_by, startQ, LIM, sParX, elsE, setW, W.plain, e, ow_flat, dat_ow]
  intro d
  induction d with
  | zero => intro k xs o; exact step 0 k (fun o => nomatch o) o
  | succ d ih =>
    intro k xs o
    refine step (d + 1) k (fun {t ys} ox => ?_) o
    exact ih k (ItemsOk.again ox).1
end
end Q

namespace Q
open PySem PySem.Spec PyProof.Rows L2
abbrev tuneD (ts : List Int) : D := .tuple (ts.map .int)
structure TuneT (nb : String) (T : Tab) : Prop extends ItemT T where
  is_tune : Has_is_tune T
  need_tune : Has_need_tune T
  begins_of : Has_begins_of T
  needB : T nb = some ⟨3, 3, U_needB⟩
  marks_by : HasU_marks_by T
  lefts_by : HasU_lefts_by T
structure LeadT (nb : String) (T : Tab) : Prop extends TuneT nb T where
  is_tied : HasU_is_tied T
  loose_by : HasU_loose_by T
theorem cutD_take (ts : List Int) {j : Nat} (h : j ≤ ts.length) : cutD (ts.map PyData.int) none (some (j : Int)) = (ts.take j).map PyData.int := by
  unfold cutD
  rw [HT.sIx_none, HT.sIx_nat]
  simp [List.map_take, Nat.min_eq_left h]
/-- whether a beat is a bar's first one -/
def tie (ts : List Int) (z : Int) : Bool := (List.range ts.length).any fun j => decide (tpre ts j = z % ts.sum)
def begs (ts : List Int) : List Int := (List.range ts.length).map fun j => tpre ts j
theorem mem_begs {ts : List Int} {z : Int} : decide (z % ts.sum ∈ begs ts) = tie ts z := by
  unfold begs tie
  rw [Bool.eq_iff_iff, decide_eq_true_eq, List.mem_map, List.any_eq_true]
  constructor
  · rintro ⟨j, hj, e⟩
    exact ⟨j, hj, decide_eq_true e⟩
  · rintro ⟨j, hj, e⟩
    exact ⟨j, hj, of_decide_eq_true e⟩
theorem tie_congr {ts : List Int} {x y : Int} (h : x % ts.sum = y % ts.sum) : tie ts x = tie ts y := by unfold tie; rw [h]
/-- the marks that a lead does not tie -/
def unTied (ts : List Int) (L : List Int) (lead : Int) : List Int := L.filter fun l => !tie ts (l + lead)
theorem sum_96 {ts : List Int} (h : Tune ts) : ts.sum ≤ 96 := by
  have := tsum_le h.2.2
  have := h.2.1
  omega
section
variable {T : Tab} {nb : String}
theorem p_is_tune (b : BaseT T) (ht : Has_is_tune T) (k : Nat) (S : Sto) {ts : List Int} (h : Tune ts) : callQ T (k + 3) "is_tune" [.d (tuneD ts)] S = .ok (.d (.bool true)) S := by
  rw [callQ_succ ht rfl rfl]
  obtain ⟨h1, h2, h3⟩ := h
  have e : ∀ env, compL (.name 1) (cYes (callQ T (k + 2))) (PC_is_tune_1 (callQ T (k + 2))) [some (.d (tuneD ts)), env] (ts.map PyData.int) S = .ok (ts.map fun _ => PyData.bool true) S := by
    intro env
    refine compL_on _ _ (fun d hd => by simp) fun t ht => ?_
    obtain ⟨h4, h5⟩ := h3 t ht
    simp [PC_is_tune_1, p_among b, h4, h5]
  have h1' : (1 : Int) ≤ ts.length := by omega
  have h2' : (ts.length : Int) ≤ 8 := by omega
  have hl : ts.length ≤ LIM := lim_of (by omega)
  have hb : bools (ts.map fun _ => PyData.bool true) = some (ts.map fun _ => true) := bools_on _ fun _ _ => rfl
  have hall : (ts.map fun _ => true).all id = true := by simp
  simp only [P_is_tune, startQ]
  simp [p_row b, h1', h2', notOwn, e, hl, hb]
theorem p_need_tune (b : BaseT T) (ht : Has_is_tune T) (hn : Has_need_tune T) (k : Nat) (S : Sto) {ts : List Int} (h : Tune ts) : callQ T (k + 4) "need_tune" [.d (tuneD ts)] S = .ok (.d .none) S := by
  rw [callQ_succ hn rfl rfl]; simp [P_need_tune, startQ, p_is_tune b ht k S h]
theorem p_begins (hb : Has_begins_of T) (k : Nat) (S : Sto) {ts : List Int} (h : Tune ts) : callQ T (k + 1) "begins_of" [.d (tuneD ts)] S = .ok (.d (.list ((begs ts).map .int))) S := by
  rw [callQ_succ hb rfl rfl]
  have e : ∀ env, compL (.name 1) (cYes (callQ T k)) (PC_begins_of_1 (callQ T k)) [some (.d (tuneD ts)), env] ((List.range ts.length).map fun k : Nat => PyData.int (0 + k)) S = .ok ((List.range ts.length).map fun j => PyData.int (tpre ts j)) S := by
    intro env
    refine compL_on _ _ (fun d hd => by simp) fun t ht => ?_
    have ht : t < ts.length := by simpa using ht
    simp [PC_begins_of_1, cutD_take ts (Nat.le_of_lt ht), tpre, -List.map_take]
  have h2 := h.2.1
  have hr : inR (ts.length : Int) = true := inR_of (by omega) (by omega)
  simp only [P_begins_of, startQ]
  simp [notOwn, hr, rangeD_map]
  simp at e
  have hl : ts.length ≤ LIM := lim_of (by omega)
  simp [e, hl, begs, Function.comp_def]
theorem p_needB (b : TuneT nb T) (k : Nat) (S : Sto) {s : Sky} (os : s.Ok) {xs : List Item} (o : SceneOk s xs) {ts : List Int} (h : Tune ts) : callQ T (k + 13) nb [.d s.D, .d (itemsD xs), .d (tuneD ts)] S = .ok (.d .none) S := by
  rw [callQ_succ b.needB rfl rfl]
  have e1 := p_need_scene b.toItemT k S o
  have e2 := p_need_sky b.toSkyT (k + 7) S os
  have e3 := p_need_tune b.toBaseT b.is_tune b.need_tune (k + 8) S h
  simp [U_needB, startQ, e1, e2, e3]
theorem p_lefts (b : TuneT nb T) (k : Nat) (S : Sto) {n : Nat} {xs : List Item} (o : ItemsOk n 3 xs) {ts : List Int} (h : Tune ts) : callQ T (k + 5) "lefts_by" [.d (itemsD xs), .d (tuneD ts)] S = .ok (.d (.list ((lfL ts.sum xs).map .int))) S := by
  rw [callQ_succ b.lefts_by rfl rfl]
  obtain ⟨ks, e, hn, hm⟩ := p_marks_by b.marks_by S (tsum_pos h) (sum_96 h) 3 k o
  have es := sort_lfL (tsum_pos h) hn hm
  simp [U_lefts_by, startQ, e, gSortedDA, keysI_tr, es]
theorem p_marks_left (b : TuneT nb T) (hm : HasU_marks_left nb T) (k : Nat) (S : Sto) {s : Sky} (os : s.Ok) {xs : List Item} (o : SceneOk s xs) {ts : List Int} (h : Tune ts) : callQ T (k + 14) "marks_left" [.d s.D, .d (itemsD xs), .d (tuneD ts)] S = .ok (.d (tuneD (lfL ts.sum xs))) S := by
  rw [callQ_succ hm rfl rfl]
  have e1 := p_needB b k S os o h
  have e2 := p_lefts b (k + 8) S o.o h
  simp [U_marks_left, startQ, e1, e2]
theorem p_tied1 (b : LeadT nb T) (k : Nat) (S : Sto) {ts : List Int} (h : Tune ts) (l lead : Int) : callQ T (k + 2) "is_tied" [.d (tuneD ts), .d (.int l), .d (.int lead)] S = .ok (.d (.bool (tie ts (l + lead)))) S := by
  rw [callQ_succ b.is_tied rfl rfl]
  have hp := tsum_pos h
  simp [U_is_tied, startQ, hp, p_begins b.begins_of, h, g_inI, mem_begs]
theorem p_loose (b : LeadT nb T) (k : Nat) (S : Sto) {ts : List Int} (h : Tune ts) {L : List Int} (hL : L.length ≤ 1000) (lead : Int) : callQ T (k + 3) "loose_by" [.d (tuneD ts), .d (.list (L.map .int)), .d (.int lead)] S = .ok (.d (.list ((unTied ts L lead).map .int))) S := by
  rw [callQ_succ b.loose_by rfl rfl]
  have e : ∀ env, compL (.name 3) (UD_loose_by_1 (callQ T (k + 2))) (UC_loose_by_2 (callQ T (k + 2))) [some (.d (tuneD ts)), some (.d (.list (L.map .int))), some (.d (.int lead)), env] (L.map PyData.int) S = .ok ((unTied ts L lead).map .int) S := by
    intro env
    unfold unTied
    refine compL_onf _ _ _ (fun l hl => ?_) fun l hl _ => ?_
    · simp [UD_loose_by_1, p_tied1 b k S h]
    · simp [UC_loose_by_2]
  have hl : (unTied ts L lead).length ≤ LIM := lim_of (by
    have := List.length_filter_le (fun l => !tie ts (l + lead)) L
    unfold unTied
    omega)
  simp [U_loose_by, startQ, notOwn, e, hl]
def rowsL (ts L : List Int) : List (List Int) := (List.range ts.sum.toNat).map fun j : Nat => unTied ts L (j : Int)
/-- what is told of leads -/
inductive Told3 where
  | tied (j : Nat)
  | never (ls : List Int)
def Told3.D : Told3 → D
  | .tied j => .tuple [.str "tied", .int (j : Nat)]
  | .never ls => .tuple [.str "never", tuneD ls]
def told3 (ts L : List Int) : Told3 := match (rowsL ts L).findIdx? List.isEmpty with
  | some j => .tied j
  | none => .never ((rowsL ts L).map fun r => r.headD 0)
theorem rows_len {ts : List Int} (L : List Int) : (rowsL ts L).length = ts.sum.toNat := by simp [rowsL]
structure LeadT2 (nb : String) (T : Tab) : Prop extends LeadT nb T where
  tied : HasU_tied nb T
theorem p_told (b : LeadT2 nb T) (k : Nat) (S : Sto) {s : Sky} (os : s.Ok) {xs : List Item} (o : SceneOk s xs) {ts : List Int} (h : Tune ts) : callQ T (k + 14) "tied" [.d s.D, .d (itemsD xs), .d (tuneD ts)] S = .ok (.d (told3 ts (lfL ts.sum xs)).D) S := by
  rw [callQ_succ b.tied rfl rfl]
  have e1 := p_needB b.toTuneT k S os o h
  have e2 := p_lefts b.toTuneT (k + 8) S o.o h
  have hp := tsum_pos h
  have h96 := sum_96 h
  have hL := lfL_len (w := ts.sum) xs
  generalize lfL ts.sum xs = L at *
  generalize s.D = sd at *
  generalize itemsD xs = xd at *
  have er : ∀ env, compL (.name 5) (cYes (callQ T (k + 13))) (UC_tied_1 (callQ T (k + 13))) [some (.d sd), some (.d xd), some (.d (tuneD ts)), some (.d (.list (L.map .int))), none, none, env] ((List.range ts.sum.toNat).map fun k : Nat => PyData.int (0 + k)) S = .ok (rowsD (rowsL ts L)) S := by
    intro env
    unfold rowsD rowsL
    rw [List.map_map]
    refine compL_on _ _ (fun j hj => by simp) fun j hj => ?_
    simp [UC_tied_1, p_loose b.toLeadT (k + 10) S h (L := L) (by omega) (j : Int)]
  have hr : inR ts.sum = true := inR_of (by omega) (by omega)
  have hl : (rowsL ts L).length ≤ 16777216 := by rw [rows_len]; omega
  have hl2 : (rowsD (rowsL ts L)).length ≤ 16777216 := by simp only [rowsD, List.length_map]; exact hl
  unfold told3
  cases hf : (rowsL ts L).findIdx? List.isEmpty with
  | some j =>
    have ha : (rowsL ts L).any List.isEmpty = true := by
      obtain ⟨hj, hp, _⟩ := List.findIdx?_eq_some_iff_getElem.mp hf
      exact List.any_eq_true.mpr ⟨_, List.getElem_mem hj, hp⟩
    simp at er
    simp [U_tied, startQ, e1, e2, hr, rangeD_map, notOwn, er, hl2, LIM, g_inE, ha, rows_ok, okEq_nil, idx_rows, hf, Told3.D]
  | none =>
    have ha : (rowsL ts L).any List.isEmpty = false := by
      rw [Bool.eq_false_iff]
      intro q
      obtain ⟨x, hx, hp⟩ := List.any_eq_true.mp q
      have := List.findIdx?_eq_none_iff.mp hf x hx
      rw [hp] at this
      cases this
    have eh : compL (.name 6) (cYes (callQ T (k + 13))) (UC_tied_2 (callQ T (k + 13))) [some (.d sd), some (.d xd), some (.d (tuneD ts)), some (.d (.list (L.map .int))), some (.d (.list (rowsD (rowsL ts L)))), none, none] (rowsD (rowsL ts L)) S = .ok (((rowsL ts L).map fun r => r.headD 0).map .int) S := by
      show compL _ _ _ _ ((rowsL ts L).map fun L => PyData.list (L.map .int)) S = _
      rw [List.map_map]
      refine compL_on _ _ (fun r hr => by simp) fun r hr => ?_
      have := List.findIdx?_eq_none_iff.mp hf r hr
      cases r with
      | nil => cases this
      | cons x r => simp [UC_tied_2]
    simp at er eh
    simp [U_tied, startQ, e1, e2, hr, rangeD_map, notOwn, er, eh, hl, hl2, LIM, g_inE, ha, Told3.D]
structure LeadT3 (nb : String) (T : Tab) : Prop extends LeadT2 nb T where
  shows_tied : HasU_shows_tied nb T
/-- ("tied", a lead of the tune) -/
theorem p_shows_lead (b : LeadT3 nb T) (k : Nat) (S : Sto) {s : Sky} (os : s.Ok) {xs : List Item} (o : SceneOk s xs) {ts : List Int} (h : Tune ts) {j : Nat} (hj : (j : Int) < ts.sum) : callQ T (k + 14) "shows_tied" [.d s.D, .d (itemsD xs), .d (tuneD ts), .d (.tuple [.str "tied", .int (j : Nat)])] S = .ok (.d (.bool (unTied ts (lfL ts.sum xs) (j : Int)).isEmpty)) S := by
  rw [callQ_succ b.shows_tied rfl rfl]
  have e1 := p_needB b.toTuneT k S os o h
  have e2 := p_lefts b.toTuneT (k + 8) S o.o h
  have h96 := sum_96 h
  have hL := lfL_len (w := ts.sum) xs
  generalize lfL ts.sum xs = L at *
  generalize s.D = sd at *
  generalize itemsD xs = xd at *
  have e3 := p_loose b.toLeadT (k + 10) S h (L := L) (by omega) (j : Int)
  have ez : ∀ l : List Int, gEq (.d (.list (l.map .int))) (.d (.list [])) S = .ok (.d (.bool l.isEmpty)) S := fun l => by
    have h1 := rows_ok [l]
    rw [g_eqL S (k := 1) (l := 1) (ly_lst fun x hx => by
      obtain ⟨i, _, rfl⟩ := List.mem_map.mp hx
      exact ly_int i) (ly_lst (k := 0) fun x hx => by cases hx) (by omega) (by omega) (fun s q => by cases q), eqv_nil]
  have hj0 : (0 : Int) ≤ j := by omega
  have hj1 : (j : Int) ≤ ts.sum - 1 := by omega
  have ht : isTy "str" (PyData.str (Str.ofString "tied")) = true := rfl
  simp [U_shows_tied, startQ, e1, e2, setAll, p_row b.toBaseT, p_among b.toBaseT, e3, ez, hj0, hj1, LIM, ht]
end
end Q

namespace Q
open PySem PySem.Spec PyProof.Rows L2
theorem mem_mk_again {t : Nat} {xs : List Item} {p : Nat} : p ∈ (Item.again t xs).mk ↔ ∃ j, j < t ∧ ∃ q ∈ mkOf xs, q + j * sizeOf' xs = p := by
  simp only [Item.mk, List.mem_flatMap, List.mem_range, List.mem_map]
mutual
theorem Item.mk_about : ∀ (x : Item) (p : Nat), p ∈ x.about.mk ↔ ∃ q ∈ x.mk, p + q = x.size
  | .go a b c, p => by simp [Item.about, Item.mk]
  | .flip i, p => by simp [Item.about, Item.mk]
  | .mark, p => by simp [Item.about, Item.mk, Item.size]
  | .again t xs, p => by
    have ih := mkOf_about xs
    have es := about_size xs
    have e0 : (Item.again t xs).about = .again t (aboutOf xs) := by simp [Item.about]
    rw [e0, mem_mk_again, es]
    simp only [Item.size]
    constructor
    · rintro ⟨j, hj, p0, hp, rfl⟩
      obtain ⟨q0, hq, e⟩ := (ih p0).mp hp
      refine ⟨q0 + (t - 1 - j) * sizeOf' xs, mem_mk_again.mpr ⟨t - 1 - j, by omega, q0, hq, rfl⟩, ?_⟩
      have : j * sizeOf' xs + (t - 1 - j) * sizeOf' xs + sizeOf' xs = t * sizeOf' xs := by
        rw [← Nat.add_mul, ← Nat.succ_mul]
        congr 1
        omega
      omega
    · rintro ⟨q, hq, e⟩
      obtain ⟨j, hj, q0, hq0, rfl⟩ := mem_mk_again.mp hq
      have h1 : j * sizeOf' xs + (t - 1 - j) * sizeOf' xs + sizeOf' xs = t * sizeOf' xs := by
        rw [← Nat.add_mul, ← Nat.succ_mul]
        congr 1
        omega
      have hle : q0 ≤ sizeOf' xs := mkOf_le xs q0 hq0
      refine ⟨t - 1 - j, by omega, sizeOf' xs - q0, (ih _).mpr ⟨q0, hq0, by omega⟩, by omega⟩
theorem mkOf_about : ∀ (xs : List Item) (p : Nat), p ∈ mkOf (aboutOf xs) ↔ ∃ q ∈ mkOf xs, p + q = sizeOf' xs
  | [], p => by simp [aboutOf, mkOf]
  | x :: xs, p => by
    have i1 := Item.mk_about x
    have i2 := mkOf_about xs
    simp only [aboutOf, mkOf_app, mkOf, List.map_nil, List.append_nil, List.mem_append, List.mem_map, sizeOf', about_size]
    constructor
    · rintro (h | ⟨p1, h, rfl⟩)
      · obtain ⟨q, hq, e⟩ := (i2 p).mp h
        exact ⟨q + x.size, .inr ⟨q, hq, rfl⟩, by omega⟩
      · obtain ⟨q, hq, e⟩ := (i1 p1).mp h
        exact ⟨q, .inl hq, by omega⟩
    · rintro ⟨q, h | ⟨q1, h, rfl⟩, e⟩
      · have hle : q ≤ x.size := Item.mk_le x q h
        exact .inr ⟨x.size - q, (i1 _).mpr ⟨q, h, by omega⟩, by omega⟩
      · exact .inl ((i2 p).mpr ⟨q1, h, by omega⟩)
theorem Item.mk_le : ∀ (x : Item) (p : Nat), p ∈ x.mk → p ≤ x.size
  | .go a b c, p, h => by simp [Item.mk] at h
  | .flip i, p, h => by simp [Item.mk] at h
  | .mark, p, h => by simp [Item.mk] at h; simp [h]
  | .again t xs, p, h => by
    obtain ⟨j, hj, q, hq, rfl⟩ := mem_mk_again.mp h
    have := mkOf_le xs q hq
    simp only [Item.size]
    have h1 : (j + 1) * sizeOf' xs ≤ t * sizeOf' xs := Nat.mul_le_mul_right _ hj
    rw [Nat.succ_mul] at h1
    omega
theorem mkOf_le : ∀ (xs : List Item) (p : Nat), p ∈ mkOf xs → p ≤ sizeOf' xs
  | [], p, h => by simp [mkOf] at h
  | x :: xs, p, h => by
    simp only [mkOf, List.mem_append, List.mem_map] at h
    simp only [sizeOf']
    rcases h with h | ⟨q, h, rfl⟩
    · have := Item.mk_le x p h
      omega
    · have := mkOf_le xs q h
      omega
end
theorem lf_about {w : Int} {xs : List Item} {r : Int} : Lf w (aboutOf xs) r ↔ ∃ q, Lf w xs q ∧ ((sizeOf' xs : Int) - q) % w = r := by
  constructor
  · rintro ⟨p, hp, rfl⟩
    obtain ⟨q, hq, e⟩ := (mkOf_about xs p).mp hp
    refine ⟨_, ⟨q, hq, rfl⟩, ?_⟩
    have : (p : Int) = (sizeOf' xs : Int) - q := by omega
    rw [this, Int.sub_emod, Int.emod_emod, ← Int.sub_emod]
  · rintro ⟨_, ⟨q, hq, rfl⟩, e⟩
    have hle := mkOf_le xs q hq
    refine ⟨sizeOf' xs - q, (mkOf_about xs _).mpr ⟨q, hq, by omega⟩, ?_⟩
    have : ((sizeOf' xs - q : Nat) : Int) = (sizeOf' xs : Int) - q := by omega
    rw [this, ← e, Int.sub_emod (sizeOf' xs : Int) ((q : Int) % w), Int.emod_emod, ← Int.sub_emod]
theorem lf_again {w : Int} {t : Nat} {xs : List Item} {r : Int} : Lf w [.again t xs] r ↔ ∃ j : Nat, j < t ∧ ∃ q, Lf w xs q ∧ (q + (j : Int) * (sizeOf' xs : Int)) % w = r := by
  have e0 : mkOf [Item.again t xs] = (Item.again t xs).mk := by simp [mkOf]
  unfold Lf
  rw [e0]
  constructor
  · rintro ⟨p, hp, rfl⟩
    obtain ⟨j, hj, q, hq, rfl⟩ := mem_mk_again.mp hp
    exact ⟨j, hj, _, ⟨q, hq, rfl⟩, by rw [Int.emod_add_emod]; push_cast; rfl⟩
  · rintro ⟨j, hj, _, ⟨q, hq, rfl⟩, e⟩
    exact ⟨_, mem_mk_again.mpr ⟨j, hj, q, hq, rfl⟩, by rw [← e, Int.emod_add_emod]; push_cast; rfl⟩
theorem lf_none {w : Int} {xs : List Item} : (∀ r, ¬ Lf w xs r) ↔ marksOf xs = 0 := by
  rw [← mkOf_len]
  constructor
  · intro h
    rw [List.length_eq_zero_iff]
    apply List.eq_nil_iff_forall_not_mem.mpr
    intro p hp
    exact h _ ⟨p, hp, rfl⟩
  · intro h r
    rintro ⟨p, hp, _⟩
    rw [List.length_eq_zero_iff] at h
    rw [h] at hp
    cases hp
theorem lfL_empty {w : Int} (hw : 0 < w) {xs : List Item} : lfL w xs = [] ↔ marksOf xs = 0 := by
  rw [← lf_none (w := w)]
  constructor
  · intro h r hr
    rw [← mem_lfL hw, h] at hr
    cases hr
  · intro h
    apply List.eq_nil_iff_forall_not_mem.mpr
    intro r hr
    exact h r ((mem_lfL hw).mp hr)
theorem rows_get {ts L : List Int} {j : Nat} (hj : j < ts.sum.toNat) : (rowsL ts L)[j]? = some (unTied ts L (j : Int)) := by
  unfold rowsL
  rw [List.getElem?_map, List.getElem?_range hj]
  rfl
theorem told3_cases {ts : List Int} (h : Tune ts) (L : List Int) : (∃ j : Nat, told3 ts L = .tied j ∧ (j : Int) < ts.sum ∧ unTied ts L (j : Int) = [] ∧ ∀ i : Nat, i < j → unTied ts L (i : Int) ≠ []) ∨
    (∃ ls, told3 ts L = .never ls ∧ (ls.length : Int) = ts.sum ∧ ∀ j : Nat, (j : Int) < ts.sum → ∃ x r, unTied ts L (j : Int) = x :: r ∧ ls[j]? = some x) := by
  have hp := tsum_pos h
  have hrl := rows_len (ts := ts) L
  unfold told3
  cases hf : (rowsL ts L).findIdx? List.isEmpty with
  | some j =>
    obtain ⟨hj, hp2, hlt⟩ := List.findIdx?_eq_some_iff_getElem.mp hf
    have hj' : j < ts.sum.toNat := by omega
    have at_ : ∀ (i : Nat) (hi : i < (rowsL ts L).length), (rowsL ts L)[i] = unTied ts L (i : Int) := fun i hi => by
      have := rows_get (ts := ts) (L := L) (j := i) (by omega)
      rw [List.getElem?_eq_getElem hi] at this
      exact Option.some.inj this
    refine .inl ⟨j, rfl, by omega, ?_, fun i hi => ?_⟩
    · rw [at_ j hj] at hp2
      simpa using hp2
    · have := hlt i hi
      rw [at_ i (by omega)] at this
      simpa using this
  | none =>
    refine .inr ⟨_, rfl, by rw [List.length_map, hrl]; omega, fun j hj => ?_⟩
    have hg := rows_get (ts := ts) (L := L) (j := j) (by omega)
    have hne := List.findIdx?_eq_none_iff.mp hf _ (List.mem_of_getElem? hg)
    rw [List.getElem?_map, hg]
    cases hl : unTied ts L (j : Int) with
    | nil => rw [hl] at hne; cases hne
    | cons x r => exact ⟨x, r, rfl, rfl⟩
/-- all of these beats are among few -/
def Cov (xs : List Item) (b : Nat) : Prop := ∃ B : List Nat, B.length ≤ b ∧ ∀ p ∈ mkOf xs, p ∈ B
theorem Cov.mono {xs : List Item} {a b : Nat} (h : Cov xs a) (q : a ≤ b) : Cov xs b := by
  obtain ⟨B, hB, hm⟩ := h
  exact ⟨B, by omega, hm⟩
end Q

namespace Q
open PySem PySem.Spec PyProof.Rows L2
section
variable {T : Tab}
theorem ofP {α : Type} {g : α → D} {P : α → Prop} : ∀ {xs : List D}, (∀ x ∈ xs, ∃ t : α, x = g t ∧ P t) → ∃ ts : List α, xs = ts.map g ∧ ∀ t ∈ ts, P t
  | [], _ => ⟨[], rfl, by simp⟩
  | x :: xs, h => by
    obtain ⟨t, rfl, ht⟩ := h x (by simp)
    obtain ⟨ts, rfl, hts⟩ := ofP (g := g) (P := P) (xs := xs) fun y hy => h y (by simp [hy])
    exact ⟨t :: ts, rfl, by simpa using ⟨ht, hts⟩⟩
end
end Q

namespace Q
open PySem PySem.Spec PyProof.Rows L2
def W_cell_at : SS := (sSeq (sIf (cVal (fBin gLt (fVar 1) (fB gLen (aCons (fVar 0) aNil))))
  (sRetP (fAt (fVar 0) (fVar 1)))
  sNext)
  (sRetP (fInt 0)))
def W_pen : SS := (sRetP (fNewL (aCons (fB gMax2 (aCons (fInt 0) (aCons (fBin gSub (fVar 0) (fBin gPow (fInt 10) (fInt 18))) aNil))) (aCons (fBin gAdd (fBin gMod (fVar 0) (fInt 2147483629)) (fInt 1)) (aCons (fInt 0) aNil)))))
def W_pick : SS := (sRetP (fAt (fVar 1) (fCallN "_law_draw" 2 (aCons (fVar 0) (aCons (fB gLen (aCons (fVar 1) aNil)) aNil)))))
def WC_sky_1 : SE := (fCallN "_law_draw" 2 (aCons (fVar 0) (aCons (fVar 3) aNil)))
def WB_sky_2 : SS := (sSeq (sSet 7 (fIf (cVal (fBin gGt (fCallN "_law_draw" 2 (aCons (fVar 0) (aCons (fInt 4) aNil))) (fInt 0))) (fBin gSub (fCallN "_law_draw" 2 (aCons (fVar 0) (aCons (fInt 5) aNil))) (fInt 2)) (fBin gSub (fCallN "_law_draw" 2 (aCons (fVar 0) (aCons (fInt 19) aNil))) (fInt 9))))
  (sSeq (sSet 8 (fB gTuple (aCons (fComp [9] (.name 9) (iRange1 (aCons (fCallN "_law_pick" 2 (aCons (fVar 0) (aCons (fVar 5) aNil))) aNil)) cYes WC_sky_1) aNil)))
  (sApp 4 (fTup (aCons (fCallN "_law_draw" 2 (aCons (fVar 0) (aCons (fVar 2) aNil))) (aCons (fVar 7) (aCons (fVar 8) aNil)))))))
def W_sky : SS := (sSeq (sParX [2, 3, 4] [.p (fCallN "_law_pick" 2 (aCons (fVar 0) (aCons (fLst (aCons (fInt 4) (aCons (fInt 4) (aCons (fInt 5) (aCons (fInt 6) (aCons (fInt 6) (aCons (fInt 8) (aCons (fInt 12) aNil)))))))) aNil))), .p (fBin gAdd (fInt 1) (fCallN "_law_draw" 2 (aCons (fVar 0) (aCons (fInt 5) aNil)))), .o aNil])
  (sSeq (sSet 5 (fCallN "_law_pick" 2 (aCons (fVar 0) (aCons (fLst (aCons (fLst (aCons (fInt 1) (aCons (fInt 2) aNil))) (aCons (fLst (aCons (fInt 1) (aCons (fInt 2) (aCons (fInt 4) aNil)))) (aCons (fLst (aCons (fInt 1) (aCons (fInt 3) aNil))) (aCons (fLst (aCons (fInt 1) (aCons (fInt 1) (aCons (fInt 2) aNil)))) aNil))))) aNil))))
  (sSeq (sFor (.name 6) (iRange1 (aCons (fBin gAdd (fInt 1) (fCallN "_law_draw" 2 (aCons (fVar 0) (aCons (fVar 1) aNil)))) aNil))
  WB_sky_2)
  (sRetP (fTup (aCons (fVar 2) (aCons (fVar 3) (aCons (fB gTuple (aOne (fOwn 4))) aNil))))))))
def WC_item_1 : SE := (fBin gSub (fCallN "_law_draw" 2 (aCons (fVar 0) (aCons (fBin gAdd (fBin gMul2 (fInt 2) (fVar 3)) (fInt 1)) aNil))) (fVar 3))
def W_item : SS := (sSeq (sSet 4 (fCallN "_law_draw" 2 (aCons (fVar 0) (aCons (fIf (cVal (fBin gGt (fVar 2) (fInt 0))) (fInt 8) (fInt 6)) aNil))))
  (sSeq (sIf (cVal (fBin gLt (fVar 4) (fInt 2)))
  (sRetP (fBin gAdd (fTup (aCons (fStr "go") aNil)) (fB gTuple (aCons (fComp [5] (.name 5) (iRange1 (aCons (fInt 3) aNil)) cYes WC_item_1) aNil))))
  sNext)
  (sSeq (sIf (cVal (fBin gLt (fVar 4) (fInt 5)))
  (sRetP (fAt (fLst (aCons (fTup (aCons (fStr "flip") (aCons (fCallN "_law_draw" 2 (aCons (fVar 0) (aCons (fB gLen (aCons (fAt (fVar 1) (fInt 2)) aNil)) aNil))) aNil))) (aCons (fTup (aCons (fStr "mark") aNil)) (aCons (fTup (aCons (fStr "mark") aNil)) aNil)))) (fBin gSub (fVar 4) (fInt 2))))
  sNext)
  (sSeq (sIf (cVal (fBin gEq (fVar 4) (fInt 5)))
  (sRetP (fTup (aCons (fStr "go") (aCons (fInt 1) (aCons (fInt 0) (aCons (fInt 0) aNil))))))
  sNext)
  (sRetP (fTup (aCons (fStr "again") (aCons (fCallN "_law_pick" 2 (aCons (fVar 0) (aCons (fLst (aCons (fInt 0) (aCons (fInt 1) (aCons (fInt 2) (aCons (fInt 3) (aCons (fCallN "_law_draw" 2 (aCons (fVar 0) (aCons (fInt 40) aNil))) aNil)))))) aNil))) (aCons (fCallN "_law_scene" 5 (aCons (fVar 0) (aCons (fVar 1) (aCons (fBin gSub (fVar 2) (fInt 1)) (aCons (fInt 3) (aCons (fVar 3) aNil)))))) aNil)))))))))
def WC_scene_1 : SE := (fCallN "_law_item" 4 (aCons (fVar 0) (aCons (fVar 1) (aCons (fVar 2) (aCons (fVar 4) aNil)))))
def W_scene : SS := (sRetP (fB gTuple (aCons (fComp [5] (.name 5) (iRange1 (aCons (fCallN "_law_draw" 2 (aCons (fVar 0) (aCons (fBin gAdd (fVar 3) (fInt 1)) aNil))) aNil)) cYes WC_scene_1) aNil)))
def WC_tune_1 : SE := (fBin gAdd (fInt 1) (fCallN "_law_draw" 2 (aCons (fVar 0) (aCons (fVar 1) aNil))))
def W_tune : SS := (sSeq (sSet 1 (fCallN "_law_pick" 2 (aCons (fVar 0) (aCons (fLst (aCons (fInt 3) (aCons (fInt 5) (aCons (fInt 12) aNil)))) aNil))))
  (sRetP (fB gTuple (aCons (fComp [2] (.name 2) (iRange1 (aCons (fBin gAdd (fInt 1) (fCallN "_law_draw" 2 (aCons (fVar 0) (aCons (fCallN "_law_pick" 2 (aCons (fVar 0) (aCons (fLst (aCons (fInt 2) (aCons (fInt 4) (aCons (fInt 8) aNil)))) aNil))) aNil)))) aNil)) cYes WC_tune_1) aNil))))
def W_small_scene : SS := (sSeq (sSet 2 (fBin gAdd (fCallN "_law_scene" 5 (aCons (fVar 0) (aCons (fVar 1) (aCons (fInt 2) (aCons (fInt 5) (aCons (fInt 3) aNil)))))) (fBin gMulA (fTup (aCons (fTup (aCons (fStr "mark") aNil)) aNil)) (fCallN "_law_draw" 2 (aCons (fVar 0) (aCons (fInt 2) aNil))))))
  (sSeq (sSet 3 (fTup (aCons (fTup (aCons (fStr "go") (aCons (fInt 1) (aCons (fInt 2) (aCons (fInt 3) aNil))))) (aCons (fTup (aCons (fStr "mark") aNil)) (aCons (fTup (aCons (fStr "again") (aCons (fInt 7) (aCons (fTup (aCons (fTup (aCons (fStr "mark") aNil)) (aCons (fTup (aCons (fStr "flip") (aCons (fInt 0) aNil))) aNil))) aNil)))) aNil)))))
  (sRetP (fIf (cVal (fBin gLt (fCallN "_law_many" 1 (aCons (fVar 2) aNil)) (fInt 600))) (fVar 2) (fVar 3)))))
def WB_many_1 : SS := (sSet 1 (fBin gAdd (fVar 1) (fIf (cVal (fBin gEq (fAt (fVar 2) (fInt 0)) (fStr "again"))) (fBin gMul2 (fAt (fVar 2) (fInt 1)) (fCallN "_law_many" 1 (aCons (fAt (fVar 2) (fInt 2)) aNil))) (fInt 1))))
def W_many : SS := (sSeq (sSet 1 (fInt 0))
  (sSeq (sFor (.name 2) (iSeq (fVar 0))
  WB_many_1)
  (sRetP (fVar 1))))
structure PenW (T : Tab) : Prop where
  cell : T "_law_cell_at" = some ⟨2, 2, W_cell_at⟩
  draw : T "_law_draw" = some ⟨2, 4, FDraw⟩
  pen : T "_law_pen" = some ⟨1, 1, W_pen⟩
  pick : T "_law_pick" = some ⟨2, 2, W_pick⟩
  sky : T "_law_sky" = some ⟨2, 10, W_sky⟩
  item : T "_law_item" = some ⟨4, 6, W_item⟩
  scene : T "_law_scene" = some ⟨5, 6, W_scene⟩
  tune : T "_law_tune" = some ⟨1, 3, W_tune⟩
  small_scene : T "_law_small_scene" = some ⟨2, 4, W_small_scene⟩
  many : T "_law_many" = some ⟨1, 3, W_many⟩
section
variable {T : Tab}
theorem u_cell (b : PenW T) (k : Nat) (S : Sto) (ns : List Int) (j : Nat) : ∃ z, callQ T (k + 1) "_law_cell_at" [.scr ns, .d (.int j)] S = .ok (.d (.int z)) S := by
  rw [callQ_succ b.cell rfl rfl]
  by_cases h : j < ns.length
  · exact ⟨ns[j], by simp [W_cell_at, startQ, gLen, h, atI_nat]⟩
  · exact ⟨0, by simp [W_cell_at, startQ, gLen, h]⟩
theorem u_pen (b : PenW T) (k : Nat) (S : Sto) (z : Int) : ∃ S', callQ T (k + 1) "_law_pen" [.d (.int z)] S = .ok (.ref S.length) S' ∧ PenOk S' S.length := by
  rw [callQ_succ b.pen rfl rfl]
  refine ⟨S ++ [.lst [.int (if z - 10 ^ 18 > 0 then z - 10 ^ 18 else 0), .int (z % 2147483629 + 1), .int 0]], ?_, ?_⟩
  · simp [W_pen, startQ, LIM]
  · refine ⟨_, _, _, by simp; exact ⟨rfl, rfl, rfl⟩, ?_, ?_, ?_⟩
    · split <;> omega
    · have := Int.emod_nonneg z (b := 2147483629) (by omega); omega
    · have := Int.emod_lt_of_pos z (b := 2147483629) (by omega); omega
theorem u_draw (b : PenW T) (k : Nat) {n : Nat} {m : Int} {S : Sto} (h : PenOk S n) (h0 : 0 < m) (hm : m < 1073741824) : ∃ r S', callQ T (k + 1) "_law_draw" [.ref n, .d (.int m)] S = .ok (.d (.int r)) S' ∧ 0 ≤ r ∧ r < m ∧ PenOk S' n := by
  obtain ⟨r, S', e, h1, h2, p, _⟩ := draw_spec (k := k) b.draw h h0 (by omega)
  exact ⟨r, S', e, h1, h2, p⟩
theorem u_pick (b : PenW T) (k : Nat) {n : Nat} {S : Sto} (h : PenOk S n) (xs : List D) (h0 : 0 < xs.length) (hm : xs.length < 1073741824) : ∃ x S', x ∈ xs ∧ callQ T (k + 2) "_law_pick" [.ref n, .d (.list xs)] S = .ok (.d x) S' ∧ PenOk S' n := by
  obtain ⟨r, S', e, h1, h2, p⟩ := u_draw b k h (m := xs.length) (by omega) (by omega)
  obtain ⟨j, rfl⟩ := Int.eq_ofNat_of_zero_le h1
  have hj : j < xs.length := by omega
  refine ⟨xs[j], S', List.getElem_mem _, ?_, p⟩
  rw [callQ_succ b.pick rfl rfl]
  simp [W_pick, startQ, e, atI_nat, hj]
theorem ofIntsW {lo hi : Int} : ∀ {xs : List D}, (∀ x ∈ xs, ∃ t : Int, x = .int t ∧ lo ≤ t ∧ t ≤ hi) → ∃ ts : List Int, xs = ts.map PyData.int ∧ ∀ t ∈ ts, lo ≤ t ∧ t ≤ hi
  | [], _ => ⟨[], rfl, by simp⟩
  | x :: xs, h => by
    obtain ⟨t, rfl, ht⟩ := h x (by simp)
    obtain ⟨ts, rfl, hts⟩ := ofIntsW (xs := xs) fun y hy => h y (by simp [hy])
    exact ⟨t :: ts, rfl, by simpa using ⟨ht, hts⟩⟩
theorem u_tune (b : PenW T) (k : Nat) {n : Nat} {S : Sto} (h : PenOk S n) : ∃ ts S', Tune ts ∧ callQ T (k + 3) "_law_tune" [.ref n] S = .ok (.d (tuneD ts)) S' ∧ PenOk S' n := by
  obtain ⟨x, S1, hx, e1, p1⟩ := u_pick b k h [.int 3, .int 5, .int 12] (by simp) (by simp)
  obtain ⟨most, rfl, hm⟩ : ∃ m : Int, x = .int m ∧ 1 ≤ m ∧ m ≤ 12 := by
    simp at hx
    rcases hx with rfl | rfl | rfl <;> exact ⟨_, rfl, by omega, by omega⟩
  obtain ⟨y, S2, hy, e2, p2⟩ := u_pick b k p1 [.int 2, .int 4, .int 8] (by simp) (by simp)
  obtain ⟨lim, rfl, hl⟩ : ∃ m : Int, y = .int m ∧ 1 ≤ m ∧ m ≤ 8 := by
    simp at hy
    rcases hy with rfl | rfl | rfl <;> exact ⟨_, rfl, by omega, by omega⟩
  obtain ⟨r, S3, e3, r0, r1, p3⟩ := u_draw b (k + 1) p2 (m := lim) (by omega) (by omega)
  have hc := compL_st (i := 2) (f := WC_tune_1 (callQ T (k + 2))) (c := cYes (callQ T (k + 2))) (env := [some (.ref n), some (.d (.int most)), none]) (fun S => PenOk S n) (fun d => ∃ t : Int, d = .int t ∧ 1 ≤ t ∧ t ≤ 12) (fun d S _ => rfl) (ds := rangeD 0 (1 + r).toNat) p3 (by
    intro d hd S hS
    obtain ⟨r, S', e, r0, r1, p⟩ := u_draw b (k + 1) hS (m := most) (by omega) (by omega)
    exact ⟨.int (1 + r), S', by simp [WC_tune_1, e], p, 1 + r, rfl, by omega, by omega⟩)
  obtain ⟨xs, S4, e4, p4, l4, q4⟩ := hc
  obtain ⟨ts, rfl, hts⟩ := ofIntsW q4
  have hlen : ts.length = (1 + r).toNat := by
    rw [rangeD_len] at l4
    simpa using l4
  refine ⟨ts, S4, ⟨by omega, by omega, hts⟩, ?_, p4⟩
  have hr : inR (1 + r) = true := inR_of (by omega) (by omega)
  have hli : ts.length ≤ 16777216 := by omega
  rw [callQ_succ b.tune rfl rfl]
  simp [W_tune, startQ, e1, e2, e3, e4, hr, notOwn, LIM, hli]
theorem u_sky (b : PenW T) (k : Nat) {n : Nat} {S : Sto} (h : PenOk S n) : ∃ s S', Sky.Ok s ∧ s.ls.length ≤ 3 ∧ callQ T (k + 3) "_law_sky" [.ref n, .d (.int 3)] S = .ok (.d s.D) S' ∧ PenOk S' n := by
  obtain ⟨x, S1, hx, e1, p1⟩ := u_pick b k h [.int 4, .int 4, .int 5, .int 6, .int 6, .int 8, .int 12] (by simp) (by simp)
  obtain ⟨wide, rfl, hw⟩ : ∃ m : Int, x = .int m ∧ 4 ≤ m ∧ m ≤ 12 := by
    simp at hx
    rcases hx with rfl | rfl | rfl | rfl | rfl <;> exact ⟨_, rfl, by omega, by omega⟩
  obtain ⟨hh, S2, e2, h0, h1, p2⟩ := u_draw b (k + 1) p1 (m := 5) (by omega) (by omega)
  obtain ⟨y, S3, hy, e3, p3⟩ := u_pick b k p2 [.list [.int 1, .int 2], .list [.int 1, .int 2, .int 4], .list [.int 1, .int 3], .list [.int 1, .int 1, .int 2]] (by simp) (by simp)
  obtain ⟨longs, rfl, hl0, hl1, hl⟩ : ∃ ls : List Int, y = .list (ls.map .int) ∧ 0 < ls.length ∧ ls.length ≤ 3 ∧ ∀ t ∈ ls, 1 ≤ t ∧ t ≤ 4 := by
    simp at hy
    rcases hy with rfl | rfl | rfl | rfl
    · exact ⟨[1, 2], rfl, by simp, by simp, by simp⟩
    · exact ⟨[1, 2, 4], rfl, by simp, by simp, by simp⟩
    · exact ⟨[1, 3], rfl, by simp, by simp, by simp⟩
    · exact ⟨[1, 1, 2], rfl, by simp, by simp, by simp⟩
  obtain ⟨many, S4, e4, m0, m1, p4⟩ := u_draw b (k + 1) p3 (m := 3) (by omega) (by omega)
  have loop := forL_inv0 (t := .name 6) (body := WB_sky_2 (callQ T (k + 2))) (ds := rangeD 0 (1 + many).toNat) (S := S4) (env := [some (.ref n), some (.d (.int 3)), some (.d (.int wide)), some (.d (.int (1 + hh))), some (.own []), some (.d (.list (longs.map .int))), none, none, none, none])
    (fun i env S' => PenOk S' n ∧ ∃ (ls : List Light) (e6 e7 e8 : Option W), env = [some (.ref n), some (.d (.int 3)), some (.d (.int wide)), some (.d (.int (1 + hh))), some (.own (ls.map Light.D)), some (.d (.list (longs.map .int))), e6, e7, e8, none] ∧ ls.length = i ∧ ∀ l ∈ ls, l.Ok wide (1 + hh)) ⟨p4, [], _, _, _, rfl, rfl, by simp⟩ (by
    rintro i d env S' hd ⟨pe, ls, e6, e7, e8, rfl, hli, hok⟩
    obtain ⟨hi, rfl⟩ := rangeD_get hd
    rw [Int.zero_add]
    obtain ⟨q, T1, d1, q0, q1, r1⟩ := u_draw b (k + 1) pe (m := 4) (by omega) (by omega)
    have speed : ∃ (sp : Int) (T2 : Sto), -9 ≤ sp ∧ sp ≤ 9 ∧ PenOk T2 n ∧ (fIf (cVal (fBin gGt (fCallN "_law_draw" 2 (aCons (fVar 0) (aCons (fInt 4) aNil))) (fInt 0))) (fBin gSub (fCallN "_law_draw" 2 (aCons (fVar 0) (aCons (fInt 5) aNil))) (fInt 2)) (fBin gSub (fCallN "_law_draw" 2 (aCons (fVar 0) (aCons (fInt 19) aNil))) (fInt 9))) (callQ T (k + 2)) [some (.ref n), some (.d (.int 3)), some (.d (.int wide)), some (.d (.int (1 + hh))), some (.own (ls.map Light.D)), some (.d (.list (longs.map .int))), some (.d (.int (i : Int))), e7, e8, none] S' = .ok (.d (.int sp)) T2 := by
      by_cases hq : 0 < q
      · obtain ⟨z, T2, d2, z0, z1, r2⟩ := u_draw b (k + 1) r1 (m := 5) (by omega) (by omega)
        exact ⟨z - 2, T2, by omega, by omega, r2, by simp [d1, d2, hq]⟩
      · obtain ⟨z, T2, d2, z0, z1, r2⟩ := u_draw b (k + 1) r1 (m := 19) (by omega) (by omega)
        exact ⟨z - 9, T2, by omega, by omega, r2, by simp [d1, d2, hq]⟩
    obtain ⟨sp, T2, s0, s1, r2, d2⟩ := speed
    obtain ⟨lg, T3, hlg, d3, r3⟩ := u_pick b k r2 (longs.map .int) (by simpa using hl0) (by simp; omega)
    obtain ⟨lg, hlg2, rfl⟩ := List.mem_map.mp hlg
    have hlg3 := hl lg hlg2
    have hc := compL_st (i := 9) (f := WC_sky_1 (callQ T (k + 2))) (c := cYes (callQ T (k + 2))) (env := [some (.ref n), some (.d (.int 3)), some (.d (.int wide)), some (.d (.int (1 + hh))), some (.own (ls.map Light.D)), some (.d (.list (longs.map .int))), some (.d (.int (i : Int))), some (.d (.int sp)), e8, none]) (fun S => PenOk S n) (fun d => ∃ t : Int, d = .int t ∧ 0 ≤ t ∧ t ≤ hh) (fun d S _ => rfl) (ds := rangeD 0 lg.toNat) r3 (by
      intro d hd S hS
      obtain ⟨r, S', e, r0, r1, p⟩ := u_draw b (k + 1) hS (m := 1 + hh) (by omega) (by omega)
      exact ⟨.int r, S', by simp [WC_sky_1, e], p, r, rfl, by omega, by omega⟩)
    obtain ⟨xs, T4, d4, r4, l4, q4⟩ := hc
    obtain ⟨rows, rfl, hrows⟩ := ofIntsW q4
    have hlen : rows.length = lg.toNat := by
      rw [rangeD_len] at l4
      simpa using l4
    obtain ⟨c, T5, d5, c0, c1, r5⟩ := u_draw b (k + 1) r4 (m := wide) (by omega) (by omega)
    have hr : inR lg = true := inR_of (by omega) (by omega)
    have hli2 : rows.length ≤ 16777216 := by omega
    have hls : ls.length < 16777216 := by omega
    refine ⟨[some (.ref n), some (.d (.int 3)), some (.d (.int wide)), some (.d (.int (1 + hh))), some (.own (ls.map Light.D)), some (.d (.list (longs.map .int))), some (.d (.int (i : Int))), e7, e8, none], [some (.ref n), some (.d (.int 3)), some (.d (.int wide)), some (.d (.int (1 + hh))), some (.own ((ls ++ [(⟨c, sp, rows⟩ : Light)]).map Light.D)), some (.d (.list (longs.map .int))), some (.d (.int (i : Int))), some (.d (.int sp)), some (.d (.tuple (rows.map .int))), none], T5, rfl, .inl ?_, r5, _, _, _, _, rfl, by simp [hli], fun l hm => ?_⟩
    · simp only [WB_sky_2, y_seq, y_set, d2]
      simp [d3, hr, notOwn, d4, LIM, hli2, d5, hls, Light.D]
    · rcases List.mem_append.mp hm with hm | hm
      · exact hok l hm
      · rw [List.mem_singleton] at hm
        subst hm
        exact ⟨by simp only; omega, by simp only; omega, by simp only; omega, by simp only; omega, by simp only; omega, by simp only; omega, fun r hr => by have := hrows r hr; omega⟩)
  obtain ⟨env', S5, e5, p5, ls, e6, e7, e8, rfl, hln, hok⟩ := loop
  rw [rangeD_len] at hln
  refine ⟨⟨wide, 1 + hh, ls⟩, S5, ⟨by simp only; omega, by simp only; omega, by simp only; omega, by simp only; omega, by simp only; omega, by simp only; omega, hok⟩, by simp only; omega, ?_, p5⟩
  rw [callQ_succ b.sky rfl rfl]
  have hr : inR (1 + many) = true := inR_of (by omega) (by omega)
  have hz : ls.length ≤ 16777216 := by omega
  simp [W_sky, startQ, sParX, elsE, setW, W.plain, LIM, e1, e2, e3, e4, hr, e5, Sky.D, hz]
end
/-- items as they are drawn -/
inductive Item.Wd (n : Nat) : Nat → Item → Prop
  | go {d : Nat} {a b c : Int} : -99 ≤ a ∧ a ≤ 99 → -99 ≤ b ∧ b ≤ 99 → -99 ≤ c ∧ c ≤ 99 → Item.Wd n d (.go a b c)
  | flip {d i : Nat} : i < n → Item.Wd n d (.flip i)
  | mark {d : Nat} : Item.Wd n d .mark
  | again {d t : Nat} {xs : List Item} : t ≤ 39 → xs.length ≤ 3 → (∀ x ∈ xs, Item.Wd n d x) → Item.Wd n (d + 1) (.again t xs)
section
variable {T : Tab}
theorem Item.Wd.ok {n : Nat} : ∀ (d : Nat) {x : Item}, Item.Wd n d x → Item.Ok n d x := by
  intro d
  induction d with
  | zero =>
    intro x o
    cases o with
    | go h1 h2 h3 => exact .go h1 h2 h3
    | flip h => exact .flip h
    | mark => exact .mark
  | succ d ih =>
    intro x o
    cases o with
    | go h1 h2 h3 => exact .go h1 h2 h3
    | flip h => exact .flip h
    | mark => exact .mark
    | again h1 h2 h3 => exact .again (by omega) (by omega) fun y hy => ih (h3 y hy)
theorem u_item0 (b : PenW T) (k : Nat) {n : Nat} {S : Sto} (h : PenOk S n) {s : Sky} (os : s.Ok) {d : Nat} (rec : ∀ {S : Sto}, PenOk S n → 0 < d → ∃ xs S', xs.length ≤ 3 ∧ (∀ x ∈ xs, Item.Wd s.ls.length (d - 1) x) ∧ callQ T (k + 2) "_law_scene" [.ref n, .d s.D, .d (.int ((d : Int) - 1)), .d (.int 3), .d (.int 3)] S = .ok (.d (itemsD xs)) S' ∧ PenOk S' n) :
    ∃ x S', Item.Wd s.ls.length d x ∧ callQ T (k + 3) "_law_item" [.ref n, .d s.D, .d (.int (d : Int)), .d (.int 3)] S = .ok (.d x.D) S' ∧ PenOk S' n := by
  have q2 : ∀ S, gAt (.d s.D) (.d (.int 2)) S = .ok (.d (.tuple (s.ls.map Light.D))) S := fun _ => rfl
  have l0 := os.l0
  have l6 := os.l1
  obtain ⟨way, S1, e1, w0, w1, p1⟩ : ∃ way S1, callQ T (k + 2) "_law_draw" [.ref n, .d (.int (if 0 < d then 8 else 6))] S = .ok (.d (.int way)) S1 ∧ 0 ≤ way ∧ way < (if 0 < d then 8 else 6) ∧ PenOk S1 n := u_draw b (k + 1) h (by split <;> omega) (by split <;> omega)
  have e1' : (fCallN "_law_draw" 2 (aCons (fVar 0) (aCons (fIf (cVal (fBin gGt (fVar 2) (fInt 0))) (fInt 8) (fInt 6)) aNil))) (callQ T (k + 2)) [some (.ref n), some (.d s.D), some (.d (.int (d : Int))), some (.d (.int 3)), none, none] S = .ok (.d (.int way)) S1 := by
    by_cases hd : 0 < d
    · rw [if_pos hd] at e1
      simp [hd, e1]
    · rw [if_neg hd] at e1
      simp [hd, e1]
  rw [callQ_succ b.item rfl rfl]
  by_cases c1 : way < 2
  · have hc := compL_st (i := 5) (f := WC_item_1 (callQ T (k + 2))) (c := cYes (callQ T (k + 2))) (env := [some (.ref n), some (.d s.D), some (.d (.int (d : Int))), some (.d (.int 3)), some (.d (.int way)), none]) (fun S => PenOk S n) (fun d => ∃ t : Int, d = .int t ∧ -3 ≤ t ∧ t ≤ 3) (fun d S _ => rfl) (ds := rangeD 0 3) p1 (by
      intro d hd S hS
      obtain ⟨r, S', e, r0, r1, p⟩ := u_draw b (k + 1) hS (m := 7) (by omega) (by omega)
      exact ⟨.int (r - 3), S', by simp [WC_item_1, e, sm], p, r - 3, rfl, by omega, by omega⟩)
    obtain ⟨xs, S2, e2, p2, l2, q2'⟩ := hc
    obtain ⟨ts, rfl, hts⟩ := ofIntsW q2'
    match ts, hts, l2, e2 with
    | [u, v, w], hts, l2, e2 =>
      have h1 := hts u (by simp)
      have h2 := hts v (by simp)
      have h3 := hts w (by simp)
      refine ⟨.go u v w, S2, .go (by omega) (by omega) (by omega), ?_, p2⟩
      have hr3 : inR 3 = true := by decide
      simp at e2
      simp only [W_item, startQ, y_seq, y_set]
      simp at e1'
      simp [e1', c1, hr3, notOwn, e2, Item.D, LIM]
    | [], _, l2, _ => simp [rangeD_len] at l2
    | [_], _, l2, _ => simp [rangeD_len] at l2
    | [_, _], _, l2, _ => simp [rangeD_len] at l2
    | _ :: _ :: _ :: _ :: _, _, l2, _ => simp [rangeD_len] at l2
  · by_cases c2 : way < 5
    · obtain ⟨i, S2, e2, i0, i1, p2⟩ := u_draw b (k + 1) p1 (m := s.ls.length) (by omega) (by omega)
      obtain ⟨i, rfl⟩ := Int.eq_ofNat_of_zero_le i0
      have hx : ∃ x : Item, Item.Wd s.ls.length d x ∧ atI [PyData.tuple [.str "flip", .int (i : Int)], .tuple [.str "mark"], .tuple [.str "mark"]] (way - 2) = some x.D := by
        have : way = 2 ∨ way = 3 ∨ way = 4 := by omega
        rcases this with rfl | rfl | rfl
        · exact ⟨.flip i, .flip (by omega), by simp [Item.D]⟩
        · exact ⟨.mark, .mark, by simp [Item.D]⟩
        · exact ⟨.mark, .mark, by simp [Item.D]⟩
      obtain ⟨x, ox, hx⟩ := hx
      refine ⟨x, S2, ox, ?_, p2⟩
      simp at e1'
      simp only [W_item, startQ, y_seq, y_set]
      generalize s.D = G at *
      simp [e1', c1, c2, q2, e2, hx, LIM]
    · by_cases c3 : way = 5
      · refine ⟨.go 1 0 0, S1, .go (by omega) (by omega) (by omega), ?_, p1⟩
        simp at e1'
        subst c3
        simp only [W_item, startQ, y_seq, y_set]
        simp [e1', Item.D, LIM]
      · have hd : 0 < d := by
          apply Classical.byContradiction
          intro hn
          rw [if_neg hn] at w1
          omega
        obtain ⟨m, S2, e2, m0, m1, p2⟩ := u_draw b (k + 1) p1 (m := 40) (by omega) (by omega)
        obtain ⟨x, S3, hx, e3, p3⟩ := u_pick b k p2 [.int 0, .int 1, .int 2, .int 3, .int m] (by simp) (by simp)
        obtain ⟨t, rfl, ht⟩ : ∃ t : Nat, x = .int (t : Int) ∧ t ≤ 39 := by
          simp at hx
          rcases hx with rfl | rfl | rfl | rfl | rfl
          · exact ⟨0, rfl, by omega⟩
          · exact ⟨1, rfl, by omega⟩
          · exact ⟨2, rfl, by omega⟩
          · exact ⟨3, rfl, by omega⟩
          · exact ⟨m.toNat, by rw [Int.toNat_of_nonneg m0], by omega⟩
        obtain ⟨xs, S4, hl, ho, e4, p4⟩ := rec p3 hd
        obtain ⟨d', rfl⟩ : ∃ d', d = d' + 1 := ⟨d - 1, by omega⟩
        refine ⟨.again t xs, S4, .again (by omega) hl (by simpa using ho), ?_, p4⟩
        rw [again_D]
        simp at e1' e3
        simp only [W_item, startQ, y_seq, y_set]
        generalize itemsD xs = X at *
        generalize s.D = G at *
        simp at e4
        simp [e1', c1, c2, c3, e2, e3, e4, LIM]
theorem u_scene0 (b : PenW T) (k : Nat) {n : Nat} {s : Sky} {d : Nat} {most : Nat} (hm : most ≤ 8) {S : Sto} (h : PenOk S n) (rec : ∀ {S : Sto}, PenOk S n → ∃ x S', Item.Wd s.ls.length d x ∧ callQ T (k + 3) "_law_item" [.ref n, .d s.D, .d (.int (d : Int)), .d (.int 3)] S = .ok (.d x.D) S' ∧ PenOk S' n) :
    ∃ xs S', xs.length ≤ most ∧ (∀ x ∈ xs, Item.Wd s.ls.length d x) ∧ callQ T (k + 4) "_law_scene" [.ref n, .d s.D, .d (.int (d : Int)), .d (.int (most : Int)), .d (.int 3)] S = .ok (.d (itemsD xs)) S' ∧ PenOk S' n := by
  obtain ⟨r, S1, e1, r0, r1, p1⟩ := u_draw b (k + 2) h (m := (most : Int) + 1) (by omega) (by omega)
  have hc := compL_st (i := 5) (f := WC_scene_1 (callQ T (k + 3))) (c := cYes (callQ T (k + 3))) (env := [some (.ref n), some (.d s.D), some (.d (.int (d : Int))), some (.d (.int (most : Int))), some (.d (.int 3)), none]) (fun S => PenOk S n) (fun z => ∃ x : Item, z = x.D ∧ Item.Wd s.ls.length d x) (fun d S _ => rfl) (ds := rangeD 0 r.toNat) p1 (by
    intro z hz S hS
    obtain ⟨x, S', ox, e, p⟩ := rec hS
    exact ⟨x.D, S', by simp [WC_scene_1, e], p, x, rfl, ox⟩)
  obtain ⟨zs, S2, e2, p2, l2, q2⟩ := hc
  obtain ⟨xs, rfl, ho⟩ := ofP (g := Item.D) (P := fun x => Item.Wd s.ls.length d x) q2
  rw [rangeD_len] at l2
  simp at l2
  refine ⟨xs, S2, by omega, ho, ?_, p2⟩
  rw [callQ_succ b.scene rfl rfl]
  have hr : inR r = true := inR_of (by omega) (by omega)
  have hl : (xs.map Item.D).length ≤ 16777216 := by simp; omega
  generalize s.D = G at *
  simp at hl
  simp [W_scene, startQ, e1, hr, notOwn, e2, LIM, hl, itemsD]
theorem u_scene (b : PenW T) {n : Nat} {s : Sky} (os : s.Ok) : ∀ (d k : Nat) {most : Nat} {S : Sto}, most ≤ 8 → PenOk S n → ∃ xs S', xs.length ≤ most ∧ (∀ x ∈ xs, Item.Wd s.ls.length d x) ∧ callQ T (k + 2 * d + 4) "_law_scene" [.ref n, .d s.D, .d (.int (d : Int)), .d (.int (most : Int)), .d (.int 3)] S = .ok (.d (itemsD xs)) S' ∧ PenOk S' n := by
  intro d
  induction d with
  | zero => exact fun k {most S} hm h => u_scene0 b k hm h fun hS => u_item0 b k hS os fun _ hd => absurd hd (by omega)
  | succ d ih =>
    intro k most S hm h
    have e : k + 2 * (d + 1) + 4 = (k + 2 * (d + 1)) + 4 := rfl
    refine u_scene0 b (k + 2 * (d + 1)) hm h fun {S} hS => u_item0 b (k + 2 * (d + 1)) hS os fun {S} hS2 hd => ?_
    obtain ⟨xs, S', h1, h2, h3, h4⟩ := ih k (most := 3) (by omega) hS2
    refine ⟨xs, S', h1, by simpa using h2, ?_, h4⟩
    have ed : ((d + 1 : Nat) : Int) - 1 = (d : Int) := by omega
    have ek : k + 2 * (d + 1) + 2 = k + 2 * d + 4 := by omega
    rw [ed, ek]
    exact h3
/-- how many beats and marks -/
def manyOf (xs : List Item) : Nat := sizeOf' xs + marksOf xs
theorem u_many (b : PenW T) {n : Nat} (S : Sto) : ∀ (d k : Nat) {xs : List Item}, ItemsOk n d xs → callQ T (k + d + 1) "_law_many" [.d (itemsD xs)] S = .ok (.d (.int (manyOf xs : Nat))) S := by
  have step : ∀ (d k : Nat), (∀ {t : Nat} {ys : List Item}, Item.Ok n d (.again t ys) → callQ T (k + d) "_law_many" [.d (itemsD ys)] S = .ok (.d (.int (manyOf ys : Nat))) S) → ∀ {xs : List Item}, ItemsOk n d xs → callQ T (k + d + 1) "_law_many" [.d (itemsD xs)] S = .ok (.d (.int (manyOf xs : Nat))) S := by
    intro d k hrec xs o
    rw [callQ_succ b.many rfl rfl]
    have main : ∀ (ys : List Item) (c : Nat) (e2 : Option W), (∀ y ∈ ys, Item.Ok n d y) → ∃ e2', forL (.name 2) (WB_many_1 (callQ T (k + d))) (ys.map Item.D) [some (.d (itemsD xs)), some (.d (.int (c : Nat))), e2] S = .next [some (.d (itemsD xs)), some (.d (.int ((c + manyOf ys : Nat) : Int))), e2'] S := by
      intro ys
      induction ys with
      | nil => intro c e2 _; exact ⟨e2, by simp [forL, manyOf, sizeOf', marksOf]⟩
      | cons y ys ih =>
        intro c e2 oy
        have o1 := oy y (by simp)
        obtain ⟨e2', e3⟩ := ih (c + y.size + y.marks) (some (.d y.D)) fun z hz => oy z (by simp [hz])
        refine ⟨e2', ?_⟩
        have es : c + y.size + y.marks + manyOf ys = c + manyOf (y :: ys) := by simp only [manyOf, sizeOf', marksOf]; omega
        rw [es] at e3
        rw [List.map_cons, seq_cons_next (env1 := [some (.d (itemsD xs)), some (.d (.int (c : Nat))), some (.d y.D)]) (env2 := [some (.d (itemsD xs)), some (.d (.int ((c + y.size + y.marks : Nat) : Int))), some (.d y.D)]) (S2 := S) rfl ?_, e3]
        generalize itemsD xs = G
        cases y with
        | go a b c => simp [WB_many_1, Item.D, Item.size, Item.marks]
        | flip i => simp [WB_many_1, Item.D, Item.size, Item.marks]
        | mark => simp [WB_many_1, Item.D, Item.size, Item.marks]
        | again t zs =>
          have e1 := hrec o1
          have ht := (ItemsOk.again (d := d - 1) (n := n) (t := t) (xs := zs) (by
            cases d with
            | zero => cases o1
            | succ d => exact o1)).2
          have hsm : (sm (t : Int) || sm ((manyOf zs : Nat) : Int)) = true := by
            have : sm (t : Int) = true := by simp [sm]; omega
            simp [this]
          have ea : (c : Int) + (t : Int) * ((manyOf zs : Nat) : Int) = ((c + t * sizeOf' zs + t * marksOf zs : Nat) : Int) := by
            unfold manyOf
            push_cast
            rw [Int.mul_add]
            omega
          rw [again_D]
          generalize itemsD zs = Z at *
          simp [WB_many_1, e1, hsm, Item.size, Item.marks, ea]
    obtain ⟨e2, e⟩ := main xs 0 none o.o
    have e0 : itemsD xs = .tuple (xs.map Item.D) := rfl
    rw [e0] at e ⊢
    simp at e
    simp [W_many, startQ, e]
  intro d
  induction d with
  | zero => intro k xs o; exact step 0 k (fun o => nomatch o) o
  | succ d ih =>
    intro k xs o
    refine step (d + 1) k (fun {t ys} ox => ?_) o
    exact ih k (ItemsOk.again ox).1
/-- a scene of a few hundred beats -/
structure SmallW (s : Sky) (xs : List Item) : Prop where
  l : xs.length ≤ 6
  o : ∀ x ∈ xs, Item.Wd s.ls.length 2 x
  m : manyOf xs < 600
theorem okW_mono {n : Nat} : ∀ (d : Nat) {x : Item}, Item.Ok n d x → Item.Ok n (d + 1) x := by
  intro d
  induction d with
  | zero => exact fun o => o.up
  | succ d ih =>
    intro x o
    cases o with
    | go h1 h2 h3 => exact .go h1 h2 h3
    | flip h => exact .flip h
    | mark => exact .mark
    | again h1 h2 h3 => exact .again h1 h2 fun y hy => ih (h3 y hy)
theorem SmallW.scene {s : Sky} {xs : List Item} (h : SmallW s xs) : SceneOk s xs :=
  ⟨⟨by have := h.l; omega, fun x hx => okW_mono 2 ((h.o x hx).ok 2)⟩, by have := h.m; unfold manyOf at this; omega⟩
theorem u_small (b : PenW T) (k : Nat) {n : Nat} {S : Sto} (h : PenOk S n) {s : Sky} (os : s.Ok) : ∃ xs S', SmallW s xs ∧ callQ T (k + 9) "_law_small_scene" [.ref n, .d s.D] S = .ok (.d (itemsD xs)) S' ∧ PenOk S' n := by
  obtain ⟨xs, S1, hl, ho, e1, p1⟩ := u_scene b os 2 k (most := 5) (by omega) h
  obtain ⟨m, S2, e2, m0, m1, p2⟩ := u_draw b (k + 7) p1 (m := 2) (by omega) (by omega)
  have l0 := os.l0
  obtain ⟨ys, hys, hyl, hym⟩ : ∃ ys : List Item, itemsD ys = .tuple (xs.map Item.D ++ (List.replicate m.toNat [PyData.tuple [.str "mark"]]).flatten) ∧ ys.length ≤ 6 ∧ ∀ y ∈ ys, Item.Wd s.ls.length 2 y := by
    have : m = 0 ∨ m = 1 := by omega
    rcases this with rfl | rfl
    · exact ⟨xs, by simp [itemsD], by omega, ho⟩
    · refine ⟨xs ++ [.mark], by simp [itemsD, Item.D], by simp; omega, fun y hy => ?_⟩
      rcases List.mem_append.mp hy with hy | hy
      · exact ho y hy
      · rw [List.mem_singleton] at hy
        subst hy
        exact .mark
  have oi : ItemsOk s.ls.length 3 ys := ⟨by omega, fun y hy => okW_mono 2 ((hym y hy).ok 2)⟩
  have e3 := u_many b S2 3 (k + 4) oi
  have o2 : Item.Wd s.ls.length 2 (.again 7 [.mark, .flip 0]) := .again (by omega) (by simp) fun x hx => by
    simp at hx
    rcases hx with rfl | rfl
    · exact .mark
    · exact .flip (by omega)
  have op : SmallW s [.go 1 2 3, .mark, .again 7 [.mark, .flip 0]] := ⟨by simp, fun x hx => by
    simp at hx
    rcases hx with rfl | rfl | rfl
    · exact .go (by omega) (by omega) (by omega)
    · exact .mark
    · exact o2, by simp [manyOf, sizeOf', marksOf, Item.size, Item.marks]⟩
  have ep : itemsD [.go 1 2 3, .mark, .again 7 [.mark, .flip 0]] = .tuple [.tuple [.str "go", .int 1, .int 2, .int 3], .tuple [.str "mark"], .tuple [.str "again", .int 7, .tuple [.tuple [.str "mark"], .tuple [.str "flip", .int 0]]]] := by simp [itemsD, Item.D, itemsL]
  have e0 : itemsD xs = .tuple (xs.map Item.D) := rfl
  rw [e0] at e1
  rw [hys] at e3
  have hl1 : (xs.map Item.D).length + (List.replicate m.toNat [PyData.tuple [PyData.str "mark"]]).flatten.length ≤ 16777216 := by
    have : m = 0 ∨ m = 1 := by omega
    rcases this with rfl | rfl <;> simp <;> omega
  have hmul : ∀ S, gMulA (.d (.tuple [.tuple [.str "mark"]])) (.d (.int m)) S = .ok (.d (.tuple (List.replicate m.toNat [PyData.tuple [.str "mark"]]).flatten)) S := by
    intro S
    have : m = 0 ∨ m = 1 := by omega
    rcases this with rfl | rfl <;> rfl
  by_cases hc : manyOf ys < 600
  · refine ⟨ys, S2, ⟨hyl, hym, hc⟩, ?_, p2⟩
    rw [callQ_succ b.small_scene rfl rfl, hys]
    generalize (List.replicate m.toNat [PyData.tuple [.str "mark"]]).flatten = R at *
    generalize xs.map Item.D = X at *
    generalize s.D = G at *
    have hc' : (manyOf ys : Int) < 600 := by omega
    simp at e1 e3
    simp [W_small_scene, startQ, e1, e2, hmul, hl1, LIM, e3, hc']
  · refine ⟨_, S2, op, ?_, p2⟩
    rw [callQ_succ b.small_scene rfl rfl, ep]
    generalize (List.replicate m.toNat [PyData.tuple [.str "mark"]]).flatten = R at *
    generalize xs.map Item.D = X at *
    generalize s.D = G at *
    have hc' : ¬ (manyOf ys : Int) < 600 := by omega
    simp at e1 e3
    simp [W_small_scene, startQ, e1, e2, hmul, hl1, LIM, e3, hc']
end
end Q

namespace Q
open PySem PySem.Spec L2
theorem itT : ItemT T := ⟨⟨⟨T_is_whole, T_is_among, T_is_row⟩, T_is_light_of, T_is_sky, T_need_sky⟩, T_is_item, T_are_items, T_size_of, T_is_scene_by, T_need_scene⟩
theorem penW : PenW T := ⟨T__law_cell_at, T__law_draw, T__law_pen, T__law_pick, T__law_sky, T__law_item, T__law_scene, T__law_tune, T__law_small_scene, T__law_many⟩
theorem leadT : LeadT3 "need_both_tunes" T := ⟨⟨⟨⟨itT, T_is_tune, T_need_tune, T_begins_of, T_need_both_tunes, T_marks_by, T_lefts_by⟩, T_is_tied, T_loose_by⟩, T_tied⟩, T_shows_tied⟩
theorem w_needS (k : Nat) (S : Sto) {s : Sky} (os : s.Ok) {xs : List Item} (o : SceneOk s xs) : callQ T (k + 13) "need_both_scenes" [.d s.D, .d (itemsD xs)] S = .ok (.d .none) S := by
  rw [callQ_succ T_need_both_scenes rfl rfl]; simp [F_need_both_scenes, startQ, p_need_scene itT k S o, p_need_sky itT.toSkyT (k + 7) S os]
theorem w_beats (k : Nat) (S : Sto) {s : Sky} (os : s.Ok) {xs : List Item} (o : SceneOk s xs) : callQ T (k + 14) "beats_of" [.d s.D, .d (itemsD xs)] S = .ok (.d (.int (sizeOf' xs : Nat))) S := by
  rw [callQ_succ T_beats_of rfl rfl]
  simp [F_beats_of, startQ, w_needS k S os o, p_size_of T_size_of S 3 (k + 9) o.o]
theorem w_marks (k : Nat) (S : Sto) {s : Sky} (os : s.Ok) {xs : List Item} (o : SceneOk s xs) : callQ T (k + 14) "marks_of" [.d s.D, .d (itemsD xs)] S = .ok (.d (.int (marksOf xs : Nat))) S := by
  rw [callQ_succ T_marks_of rfl rfl]
  simp [F_marks_of, startQ, w_needS k S os o, p_marks_in T_marks_in S 3 (k + 9) o.o]
theorem w_about (k : Nat) (S : Sto) {s : Sky} (os : s.Ok) {xs : List Item} (o : SceneOk s xs) : callQ T (k + 14) "turned_about" [.d s.D, .d (itemsD xs)] S = .ok (.d (itemsD (aboutOf xs))) S := by
  rw [callQ_succ T_turned_about rfl rfl]
  simp [F_turned_about, startQ, w_needS k S os o, p_about T_about S 3 (k + 9) o.o]
def okLead (ts : List Int) (xs : List Item) (j : Int) : Bool := (mkOf xs).all fun p : Nat => tie ts ((p : Int) + (j : Int))
theorem okLead_iff {ts : List Int} (h : Tune ts) (xs : List Item) (j : Int) : okLead ts xs j = (unTied ts (lfL ts.sum xs) j).isEmpty := by
  have hw := tsum_pos h
  rw [Bool.eq_iff_iff, List.isEmpty_iff]
  unfold okLead unTied
  rw [List.all_eq_true, List.filter_eq_nil_iff]
  constructor
  · intro q l hl
    obtain ⟨p, hp, e⟩ := (mem_lfL hw).mp hl
    have := q p hp
    have e2 : tie ts (l + j) = tie ts ((p : Int) + j) := tie_congr (by rw [← e, Int.emod_add_emod])
    simp [e2, this]
  · intro q p hp
    have := q ((p : Int) % ts.sum) ((mem_lfL hw).mpr ⟨p, hp, rfl⟩)
    have e2 : tie ts ((p : Int) % ts.sum + j) = tie ts ((p : Int) + j) := tie_congr (by rw [Int.emod_add_emod])
    rw [e2] at this
    simpa using this
theorem okLead_congr {ts : List Int} (xs : List Item) {i j : Int} (h : i % ts.sum = j % ts.sum) : okLead ts xs i = okLead ts xs j := by
  unfold okLead
  congr 1
  funext p
  exact tie_congr (by rw [Int.add_emod, h, ← Int.add_emod])
def AL (ts : List Int) (xs : List Item) : List Int := ((List.range ts.sum.toNat).filter fun j : Nat => okLead ts xs (j : Int)).map fun j : Nat => (j : Int)
theorem al_pw (ts : List Int) (xs : List Item) : (AL ts xs).Pairwise (· < ·) := by
  unfold AL
  rw [List.pairwise_map]
  exact ((List.pairwise_lt_range).filter _).imp fun h => by omega
theorem mem_al {ts : List Int} {xs : List Item} {r : Int} : r ∈ AL ts xs ↔ 0 ≤ r ∧ r < ts.sum ∧ okLead ts xs r = true := by
  unfold AL
  rw [List.mem_map]
  constructor
  · rintro ⟨j, hj, rfl⟩
    obtain ⟨h1, h2⟩ := List.mem_filter.mp hj
    have := List.mem_range.mp h1
    exact ⟨by omega, by omega, h2⟩
  · rintro ⟨h0, h1, h2⟩
    obtain ⟨j, rfl⟩ := Int.eq_ofNat_of_zero_le h0
    exact ⟨j, List.mem_filter.mpr ⟨List.mem_range.mpr (by omega), h2⟩, rfl⟩
theorem al_len {ts : List Int} (xs : List Item) : (AL ts xs).length ≤ ts.sum.toNat := by
  unfold AL
  rw [List.length_map]
  exact Nat.le_trans (List.length_filter_le _ _) (by simp)
theorem emod_inj {w a b c : Int} (ha : 0 ≤ a ∧ a < w) (hb : 0 ≤ b ∧ b < w) (h : (a + c) % w = (b + c) % w) : a = b := by
  have : (a - b) % w = 0 := by
    have := Int.sub_emod (a + c) (b + c) w
    rw [h, Int.sub_self] at this
    have e : a + c - (b + c) = a - b := by omega
    rw [e] at this
    simpa using this
  obtain ⟨q, hq⟩ := Int.dvd_of_emod_eq_zero this
  have : q = 0 := by
    rcases Int.lt_trichotomy q 0 with g | g | g
    · have : w * q ≤ w * (-1) := Int.mul_le_mul_of_nonneg_left (by omega) (by omega)
      omega
    · exact g
    · have : w * 1 ≤ w * q := Int.mul_le_mul_of_nonneg_left (by omega) (by omega)
      omega
  subst this
  omega
theorem round_nodup {L : List Int} {w c : Int} (hp : L.Pairwise (· < ·)) (h : ∀ l ∈ L, 0 ≤ l ∧ l < w) : (L.map fun l => (l + c) % w).Nodup := by
  unfold List.Nodup
  rw [List.pairwise_map]
  exact hp.imp_of_mem fun ha hb q e => by
    have := emod_inj (h _ ha) (h _ hb) e
    omega
theorem back_nodup {L : List Int} {w c : Int} (hp : L.Pairwise (· < ·)) (h : ∀ l ∈ L, 0 ≤ l ∧ l < w) : (L.map fun l => (c - l) % w).Nodup := by
  unfold List.Nodup
  rw [List.pairwise_map]
  exact hp.imp_of_mem fun {a b} ha hb q e => by
    have e2 : (a + (b - c + (c - a))) % w = (b + (b - c + (c - a))) % w := by
      have z1 : a + (b - c + (c - a)) = b + 0 := by omega
      have z2 : b + (b - c + (c - a)) = b + (b - a) := by omega
      have z3 : (b - a) % w = 0 := by
        have := Int.sub_emod (c - a) (c - b) w
        rw [e, Int.sub_self] at this
        have e : c - a - (c - b) = b - a := by omega
        rw [e] at this
        simpa using this
      rw [z1, z2, Int.add_emod b (b - a), z3]
      simp
    have := emod_inj (h _ ha) (h _ hb) e2
    omega
theorem lf_low2 {w : Int} (hw : 0 < w) {xs : List Item} : ∀ l ∈ lfL w xs, 0 ≤ l ∧ l < w := fun l hl => lf_low hw ((mem_lfL hw).mp hl)
def mvd (late : Nat) (xs : List Item) : List Item := [.again late [.flip 0], .again 1 xs]
theorem mk_mvd (late : Nat) (xs : List Item) : mkOf (mvd late xs) = (mkOf xs).map fun p => p + late := by
  have en : (Item.again late [.flip 0]).mk = [] := by simp [Item.mk, mkOf]
  have ez : (Item.again late [.flip 0]).size = late := by simp [Item.size, sizeOf']
  have e1 : mkOf [Item.again 1 xs] = mkOf xs := by simp [mkOf, Item.mk]
  have : mkOf (mvd late xs) = (mkOf [Item.again 1 xs]).map fun p => p + late := by
    simp only [mvd, mkOf, en, ez, List.nil_append]
  rw [this, e1]
theorem ok_mvd (ts : List Int) (late : Nat) (xs : List Item) (j : Int) : okLead ts (mvd late xs) j = okLead ts xs (j + (late : Int)) := by
  unfold okLead
  rw [mk_mvd, List.all_map]
  congr 1
  funext p
  show tie ts (((p + late : Nat) : Int) + j) = _
  congr 1
  omega
theorem lf_mvd {w : Int} {late : Nat} {xs : List Item} {r : Int} : Lf w (mvd late xs) r ↔ ∃ q, Lf w xs q ∧ (q + (late : Int)) % w = r := by
  unfold Lf
  rw [mk_mvd]
  constructor
  · rintro ⟨p, hp, rfl⟩
    obtain ⟨q, hq, rfl⟩ := List.mem_map.mp hp
    exact ⟨_, ⟨q, hq, rfl⟩, by rw [Int.emod_add_emod]; congr 1⟩
  · rintro ⟨_, ⟨q, hq, rfl⟩, rfl⟩
    exact ⟨q + late, List.mem_map.mpr ⟨q, hq, rfl⟩, by rw [Int.emod_add_emod]; congr 1⟩
theorem al_mvd {ts : List Int} (hw : 0 < ts.sum) (late : Nat) (xs : List Item) : sortI ((AL ts xs).map fun a => (a - (late : Int)) % ts.sum) = AL ts (mvd late xs) := by
  have hn : ((AL ts xs).map fun a => (a - (late : Int)) % ts.sum).Nodup := round_nodup (c := -(late : Int)) (al_pw ts xs) fun l hl => ⟨(mem_al.mp hl).1, (mem_al.mp hl).2.1⟩
  refine rise_eq (sort_lt hn) (al_pw _ _) fun r => ?_
  rw [(sortI_perm _).mem_iff, List.mem_map, mem_al, ok_mvd]
  constructor
  · rintro ⟨a, ha, rfl⟩
    obtain ⟨h0, h1, h2⟩ := mem_al.mp ha
    refine ⟨Int.emod_nonneg _ (by omega), Int.emod_lt_of_pos _ hw, ?_⟩
    rw [← h2]
    exact okLead_congr xs (by rw [Int.emod_add_emod]; congr 1; omega)
  · rintro ⟨h0, h1, h2⟩
    refine ⟨(r + (late : Int)) % ts.sum, mem_al.mpr ⟨Int.emod_nonneg _ (by omega), Int.emod_lt_of_pos _ hw, ?_⟩, ?_⟩
    · rw [← h2]
      exact okLead_congr xs (by rw [Int.emod_emod])
    · rw [Int.emod_sub_emod]
      have : r + (late : Int) - (late : Int) = r := by omega
      rw [this]
      exact Int.emod_eq_of_lt h0 h1
theorem sum_turn (t : Int) (r : List Int) : (r ++ [t]).sum = (t :: r).sum := by
  simp only [List.sum_append, List.sum_cons, List.sum_nil]
  omega
theorem tie_turn {t : Int} {r : List Int} (h : Tune (t :: r)) (z : Int) : tie (r ++ [t]) z = tie (t :: r) (z + t) := by
  have hw := tsum_pos h
  have hs := sum_turn t r
  have ht := (h.2.2 t (by simp)).1
  have hp1 : ∀ x ∈ t :: r, 1 ≤ x := fun x hx => (h.2.2 x hx).1
  have e1 : ∀ j, j ≤ r.length → tpre (r ++ [t]) j = tpre (t :: r) (j + 1) - t := by
    intro j hj
    unfold tpre
    rw [List.take_append_of_le_length hj, List.take_succ_cons, List.sum_cons]
    omega
  have el : tpre (t :: r) (r.length + 1) = (t :: r).sum := tpre_len (t :: r)
  have lo : ∀ j, j + 1 ≤ r.length + 1 → t ≤ tpre (t :: r) (j + 1) := by
    intro j hj
    have := tpre_mono hp1 (i := 1) (j := j + 1) (by omega) (by simpa using hj)
    have e : tpre (t :: r) 1 = t := by simp [tpre]
    omega
  have hi : ∀ j, j < r.length + 1 → tpre (t :: r) j < (t :: r).sum := by
    intro j hj
    have := tpre_mono hp1 (i := j + 1) (j := r.length + 1) (by omega) (by simp)
    rw [tpre_succ (by simpa using hj), el] at this
    have := hp1 (t :: r)[j] (List.getElem_mem _)
    omega
  unfold tie
  rw [hs, Bool.eq_iff_iff, List.any_eq_true, List.any_eq_true]
  generalize (t :: r).sum = w at *
  constructor
  · rintro ⟨j, hj, q⟩
    have hj : j < r.length + 1 := by simpa using hj
    have q := of_decide_eq_true q
    rw [e1 j (by omega)] at q
    by_cases hl : j = r.length
    · refine ⟨0, by simp, decide_eq_true ?_⟩
      subst hl
      rw [el] at q
      have : (z + t) % w = 0 := by
        rw [← Int.emod_add_emod, ← q]
        have : w - t + t = w := by omega
        rw [this, Int.emod_self]
      rw [this, tpre_zero]
    · refine ⟨j + 1, List.mem_range.mpr (by simp; omega), decide_eq_true ?_⟩
      have a := lo j (by omega)
      have b := hi (j + 1) (by omega)
      rw [← Int.emod_add_emod, ← q]
      have : tpre (t :: r) (j + 1) - t + t = tpre (t :: r) (j + 1) := by omega
      rw [this, Int.emod_eq_of_lt (by omega) b]
  · rintro ⟨i, hi', q⟩
    have hi' : i < r.length + 1 := by simpa using hi'
    have q := of_decide_eq_true q
    have ez : z % w = ((z + t) % w - t) % w := by
      rw [Int.emod_sub_emod]
      congr 1
      omega
    cases i with
    | zero =>
      refine ⟨r.length, List.mem_range.mpr (by simp), decide_eq_true ?_⟩
      have a := lo r.length (by omega)
      rw [e1 _ (Nat.le_refl _), el, ez, ← q, tpre_zero, el] at *
      rw [← Int.add_emod_right (0 - t) w, Int.emod_eq_of_lt (by omega) (by omega)]
      omega
    | succ j =>
      refine ⟨j, List.mem_range.mpr (by simp; omega), decide_eq_true ?_⟩
      have a := lo j (by omega)
      have b := hi (j + 1) (by omega)
      rw [e1 j (by omega), ez, ← q, Int.emod_eq_of_lt (by omega) (by omega)]
theorem al_turn {t : Int} {r : List Int} (h : Tune (t :: r)) (xs : List Item) : sortI ((AL (t :: r) xs).map fun a => (a - t) % (t :: r).sum) = AL (r ++ [t]) xs := by
  have hw := tsum_pos h
  have hs := sum_turn t r
  have hn : ((AL (t :: r) xs).map fun a => (a - t) % (t :: r).sum).Nodup := round_nodup (c := -t) (al_pw (t :: r) xs) fun l hl => ⟨(mem_al.mp hl).1, (mem_al.mp hl).2.1⟩
  have ok2 : ∀ j, okLead (r ++ [t]) xs j = okLead (t :: r) xs (j + t) := by
    intro j
    unfold okLead
    congr 1
    funext p
    rw [tie_turn h]
    congr 1
    omega
  refine rise_eq (sort_lt hn) (al_pw _ _) fun z => ?_
  rw [(sortI_perm _).mem_iff, List.mem_map, mem_al, ok2, hs]
  constructor
  · rintro ⟨a, ha, rfl⟩
    obtain ⟨h0, h1, h2⟩ := mem_al.mp ha
    refine ⟨Int.emod_nonneg _ (by omega), Int.emod_lt_of_pos _ hw, ?_⟩
    rw [← h2]
    exact okLead_congr xs (by rw [Int.emod_add_emod]; congr 1; omega)
  · rintro ⟨h0, h1, h2⟩
    refine ⟨(z + t) % (t :: r).sum, mem_al.mpr ⟨Int.emod_nonneg _ (by omega), Int.emod_lt_of_pos _ hw, ?_⟩, ?_⟩
    · rw [← h2]
      exact okLead_congr xs (by rw [Int.emod_emod])
    · rw [Int.emod_sub_emod]
      have : z + t - t = z := by omega
      rw [this]
      exact Int.emod_eq_of_lt h0 h1
theorem tie_twice {ts : List Int} (h : Tune ts) (z : Int) : tie (ts ++ ts) z = tie ts z := by
  have hw := tsum_pos h
  have hp1 : ∀ x ∈ ts, 1 ≤ x := fun x hx => (h.2.2 x hx).1
  have hs : (ts ++ ts).sum = ts.sum + ts.sum := List.sum_append
  have e1 : ∀ j, j ≤ ts.length → tpre (ts ++ ts) j = tpre ts j := by
    intro j hj
    unfold tpre
    rw [List.take_append_of_le_length hj]
  have e2 : ∀ j, tpre (ts ++ ts) (ts.length + j) = ts.sum + tpre ts j := by
    intro j
    unfold tpre
    rw [List.take_append, List.take_of_length_le (by omega), List.sum_append]
    have : ts.length + j - ts.length = j := by omega
    rw [this]
  have lo : ∀ j, j ≤ ts.length → 0 ≤ tpre ts j := by
    intro j hj
    have := tpre_mono hp1 (i := 0) (j := j) (by omega) hj
    rwa [tpre_zero] at this
  have hi : ∀ j, j < ts.length → tpre ts j < ts.sum := by
    intro j hj
    have := tpre_mono hp1 (i := j + 1) (j := ts.length) (by omega) (by omega)
    rw [tpre_succ hj, tpre_len] at this
    have := hp1 ts[j] (List.getElem_mem _)
    omega
  have m0 := Int.emod_nonneg z (b := ts.sum + ts.sum) (by omega)
  have m1 := Int.emod_lt_of_pos z (b := ts.sum + ts.sum) (by omega)
  have mm : z % ts.sum = (z % (ts.sum + ts.sum)) % ts.sum := (Int.emod_emod_of_dvd z ⟨2, by omega⟩).symm
  unfold tie
  rw [hs, Bool.eq_iff_iff, List.any_eq_true, List.any_eq_true, mm]
  generalize z % (ts.sum + ts.sum) = y at *
  constructor
  · rintro ⟨j, hj, q⟩
    have hj : j < ts.length + ts.length := by simpa using hj
    have q := of_decide_eq_true q
    by_cases hl : j < ts.length
    · refine ⟨j, List.mem_range.mpr hl, decide_eq_true ?_⟩
      rw [e1 j (by omega)] at q
      rw [← q, Int.emod_eq_of_lt (lo j (by omega)) (hi j hl)]
    · obtain ⟨i, rfl⟩ : ∃ i, j = ts.length + i := ⟨j - ts.length, by omega⟩
      refine ⟨i, List.mem_range.mpr (by omega), decide_eq_true ?_⟩
      rw [e2] at q
      rw [← q, Int.add_comm, Int.add_emod_right, Int.emod_eq_of_lt (lo i (by omega)) (hi i (by omega))]
  · rintro ⟨j, hj, q⟩
    have hj : j < ts.length := List.mem_range.mp hj
    have q := of_decide_eq_true q
    by_cases hy : y < ts.sum
    · refine ⟨j, List.mem_range.mpr (by simp; omega), decide_eq_true ?_⟩
      rw [e1 j (by omega), q, Int.emod_eq_of_lt m0 hy]
    · refine ⟨ts.length + j, List.mem_range.mpr (by simp; omega), decide_eq_true ?_⟩
      rw [e2, q]
      have : y % ts.sum = y - ts.sum := by
        rw [← Int.sub_emod_right y ts.sum, Int.emod_eq_of_lt (by omega) (by omega)]
      omega
theorem al_twice {ts : List Int} (h : Tune ts) (xs : List Item) : AL ts xs ++ (AL ts xs).map (fun a => a + ts.sum) = AL (ts ++ ts) xs := by
  have hw := tsum_pos h
  have hs : (ts ++ ts).sum = ts.sum + ts.sum := List.sum_append
  have ok2 : ∀ j, okLead (ts ++ ts) xs j = okLead ts xs j := by
    intro j
    unfold okLead
    congr 1
    funext p
    exact tie_twice h _
  refine rise_eq ?_ (al_pw _ _) fun z => ?_
  · rw [List.pairwise_append, List.pairwise_map]
    refine ⟨al_pw ts xs, (al_pw ts xs).imp fun h => by omega, fun a ha b hb => ?_⟩
    obtain ⟨c, hc, rfl⟩ := List.mem_map.mp hb
    have := (mem_al.mp ha).2.1
    have := (mem_al.mp hc).1
    omega
  · rw [List.mem_append, List.mem_map, mem_al, mem_al, ok2, hs]
    constructor
    · rintro (⟨h0, h1, h2⟩ | ⟨a, ha, rfl⟩)
      · exact ⟨h0, by omega, h2⟩
      · obtain ⟨h0, h1, h2⟩ := mem_al.mp ha
        refine ⟨by omega, by omega, ?_⟩
        rw [← h2]
        exact okLead_congr xs (by rw [Int.add_emod_right])
    · rintro ⟨h0, h1, h2⟩
      by_cases q : z < ts.sum
      · exact .inl ⟨h0, q, h2⟩
      · refine .inr ⟨z - ts.sum, mem_al.mpr ⟨by omega, by omega, ?_⟩, by omega⟩
        rw [← h2]
        exact okLead_congr xs (by rw [Int.sub_emod_right])
theorem about_eq {w : Int} (hw : 0 < w) (xs : List Item) : sortI ((lfL w xs).map fun l => ((sizeOf' xs : Int) - l) % w) = lfL w (aboutOf xs) := sort_lfL hw (back_nodup (lfL_pw w xs) (lf_low2 hw)) fun r => by
  rw [List.mem_map, lf_about]
  constructor
  · rintro ⟨l, hl, rfl⟩
    exact ⟨l, (mem_lfL hw).mp hl, rfl⟩
  · rintro ⟨q, hq, rfl⟩
    exact ⟨q, (mem_lfL hw).mpr hq, rfl⟩
theorem mvd_eq {w : Int} (hw : 0 < w) (late : Nat) (xs : List Item) : sortI ((lfL w xs).map fun l => (l + (late : Int)) % w) = lfL w (mvd late xs) := sort_lfL hw (round_nodup (lfL_pw w xs) (lf_low2 hw)) fun r => by
  rw [List.mem_map, lf_mvd]
  constructor
  · rintro ⟨l, hl, rfl⟩
    exact ⟨l, (mem_lfL hw).mp hl, rfl⟩
  · rintro ⟨q, hq, rfl⟩
    exact ⟨q, (mem_lfL hw).mpr hq, rfl⟩
theorem twice_eq {w : Int} (hw : 0 < w) (xs : List Item) : sortS (lfL w xs ++ (lfL w xs).map fun l => (l + (sizeOf' xs : Int)) % w) = lfL w [.again 2 xs] := lfL_eq hw (sortS_pw _) fun r => by
  rw [mem_sortS, List.mem_append, List.mem_map, lf_again, mem_lfL hw]
  constructor
  · rintro (q | ⟨l, hl, rfl⟩)
    · have := lf_low hw q
      exact ⟨0, by omega, r, q, by simp; exact Int.emod_eq_of_lt this.1 this.2⟩
    · exact ⟨1, by omega, l, (mem_lfL hw).mp hl, by simp⟩
  · rintro ⟨j, hj, q, hq, rfl⟩
    have : j = 0 ∨ j = 1 := by omega
    rcases this with rfl | rfl
    · have := lf_low hw hq
      left
      simp
      rw [Int.emod_eq_of_lt this.1 this.2]
      exact hq
    · exact .inr ⟨q, (mem_lfL hw).mpr hq, by simp⟩
end Q

namespace Q
open PySem PySem.Spec L2
theorem w_all (k : Nat) (S : Sto) {s : Sky} (os : s.Ok) {xs : List Item} (o : SceneOk s xs) {ts : List Int} (h : Tune ts) : callQ T (k + 15) "_law_all_leads" [.d s.D, .d (itemsD xs), .d (tuneD ts)] S = .ok (.d (.list ((AL ts xs).map .int))) S := by
  rw [callQ_succ T__law_all_leads rfl rfl]
  have hw := tsum_pos h
  have h96 := sum_96 h
  have hl := al_len (ts := ts) xs
  have c := fun (j : Nat) (hj : (j : Int) < ts.sum) => p_shows_lead leadT k S os o h hj
  have io := fun j : Int => okLead_iff h xs j
  have e : ∀ env, compL (.name 3) (D__law_all_leads_1 (callQ T (k + 14))) (C__law_all_leads_2 (callQ T (k + 14))) [some (.d s.D), some (.d (itemsD xs)), some (.d (tuneD ts)), env] ((List.range ts.sum.toNat).map fun k : Nat => PyData.int (0 + k)) S = .ok ((AL ts xs).map .int) S := by
    intro env
    unfold AL
    rw [List.map_map]
    refine compL_onf _ _ _ (fun j hj => ?_) fun j hj _ => by simp [C__law_all_leads_2]
    have hj : j < ts.sum.toNat := List.mem_range.mp hj
    have cj := c j (by omega)
    rw [← io] at cj
    simp [D__law_all_leads_1, cj, LIM]
  have hr : inR ts.sum = true := inR_of (by omega) (by omega)
  have hl2 : (AL ts xs).length ≤ 16777216 := by omega
  generalize s.D = G at *
  generalize itemsD xs = X at *
  simp at e
  simp [F__law_all_leads, startQ, hr, rangeD_map, notOwn, e, LIM, hl2]
structure Flat (s : Sky) (xs : List Item) : Prop where
  l : xs.length ≤ 8
  o : ∀ x ∈ xs, Item.Ok s.ls.length 2 x
  z : sizeOf' xs ≤ 1000
theorem Flat.scene {s : Sky} {xs : List Item} (h : Flat s xs) : SceneOk s xs := ⟨⟨h.l, fun x hx => okW_mono 2 (h.o x hx)⟩, by have := h.z; omega⟩
theorem Flat.mvd {s : Sky} (os : s.Ok) {xs : List Item} (h : Flat s xs) {late : Nat} (hl : late < 30) : SceneOk s (mvd late xs) := by
  have l0 := os.l0
  refine ⟨⟨by simp [Q.mvd], fun x hx => ?_⟩, ?_⟩
  · simp only [Q.mvd, List.mem_cons, List.not_mem_nil, or_false] at hx
    rcases hx with rfl | rfl
    · exact .again (by omega) (by simp) fun y hy => by
        rw [List.mem_singleton] at hy
        subst hy
        exact .flip (by omega)
    · exact .again (by omega) h.l h.o
  · have := h.z
    simp only [Q.mvd, sizeOf', Item.size]
    omega
theorem Flat.two {s : Sky} {xs : List Item} (h : Flat s xs) : SceneOk s [.again 2 xs] := by
  refine ⟨⟨by simp, fun x hx => ?_⟩, ?_⟩
  · rw [List.mem_singleton] at hx
    subst hx
    exact .again (by omega) h.l h.o
  · have := h.z
    simp only [sizeOf', Item.size]
    omega
theorem ne_tune (S : Sto) (l : List Int) : gNe (.d (tuneD l)) (.d (tuneD l)) S = .ok (.d (.bool false)) S := by
  have e : ∀ l : List Int, PyData.eqvAll (l.map .int) (l.map .int) = true := by
    intro l
    induction l with
    | nil => rfl
    | cons x l ih => simp [PyData.eqvAll, PyData.eqv, ih]
  have e2 : PyData.eqv (tuneD l) (tuneD l) = true := by simp only [PyData.eqv, e]
  have ly : Ly 1 (tuneD l) := ly_ints l
  rw [g_neL S ly ly (by omega) (by omega) (fun s q => by cases q), e2]
  rfl
theorem ne_list (S : Sto) (l : List Int) : gNe (.d (.list (l.map .int))) (.d (.list (l.map .int))) S = .ok (.d (.bool false)) S := by
  have e : ∀ l : List Int, PyData.eqvAll (l.map .int) (l.map .int) = true := by
    intro l
    induction l with
    | nil => rfl
    | cons x l ih => simp [PyData.eqvAll, PyData.eqv, ih]
  have ly : Ly 1 (.list (l.map .int)) := ly_lst fun x hx => by
    obtain ⟨i, _, rfl⟩ := List.mem_map.mp hx
    exact ly_int i
  rw [g_neL S ly ly (by omega) (by omega) (fun s q => by cases q)]
  simp [PyData.eqv, e]
theorem nez (S : Sto) (l : List Int) : gNe (.d (.list (l.map .int))) (.d (.list [])) S = .ok (.d (.bool !l.isEmpty)) S := by
  rw [g_neL S (k := 1) (l := 1) (ly_lst fun x hx => by
    obtain ⟨i, _, rfl⟩ := List.mem_map.mp hx
    exact ly_int i) (ly_lst (k := 0) fun x hx => by cases hx) (by omega) (by omega) (fun s q => by cases q), eqv_nil]
theorem eqT (l : List Int) : PyData.eqv (.tuple (l.map .int)) (.tuple []) = l.isEmpty := by cases l <;> simp [PyData.eqv, PyData.eqvAll]
theorem ezT (S : Sto) (l : List Int) : gEq (.d (tuneD l)) (.d (.tuple [])) S = .ok (.d (.bool l.isEmpty)) S := by
  rw [g_eqL S (k := 1) (l := 1) (ly_tup fun x hx => by
    obtain ⟨i, _, rfl⟩ := List.mem_map.mp hx
    exact ly_int i) (ly_tup (k := 0) fun x hx => by cases hx) (by omega) (by omega) (fun s q => by cases q), eqT]
theorem nezT (S : Sto) (l : List Int) : gNe (.d (tuneD l)) (.d (.tuple [])) S = .ok (.d (.bool !l.isEmpty)) S := by
  rw [g_neL S (k := 1) (l := 1) (ly_tup fun x hx => by
    obtain ⟨i, _, rfl⟩ := List.mem_map.mp hx
    exact ly_int i) (ly_tup (k := 0) fun x hx => by cases hx) (by omega) (by omega) (fun s q => by cases q), eqT]
theorem eqB (S : Sto) (a b : Bool) : gEq (.d (.bool a)) (.d (.bool b)) S = .ok (.d (.bool (decide (a = b)))) S := by
  cases a <;> cases b <;> simp [gEq, okEq, PyData.canLay0, PyData.depth, PyData.eqv]
theorem neB (S : Sto) (a b : Bool) : gNe (.d (.bool a)) (.d (.bool b)) S = .ok (.d (.bool (!decide (a = b)))) S := by
  cases a <;> cases b <;> simp [gNe, okEq, PyData.canLay0, PyData.depth, PyData.eqv]
def mvdD (late : Nat) (XD : D) : D := .tuple [.tuple [.str "again", .int (late : Int), .tuple [.tuple [.str "flip", .int 0]]], .tuple [.str "again", .int 1, XD]]
theorem mvd_D (late : Nat) (xs : List Item) : itemsD (mvd late xs) = mvdD late (itemsD xs) := by
  have := again_D 1 xs
  simp only [mvd, mvdD, itemsD, List.map_cons, List.map_nil] at this ⊢
  rw [this]
  simp [Item.D, itemsL]
theorem two_D (xs : List Item) : itemsD [.again 2 xs] = .tuple [.tuple [.str "again", .int 2, itemsD xs]] := by
  have := again_D 2 xs
  simp only [itemsD, List.map_cons, List.map_nil] at this ⊢
  rw [this]
  simp
theorem w_mr (k : Nat) (S : Sto) {s : Sky} (os : s.Ok) {xs : List Item} (fx : Flat s xs) {ts : List Int} (h : Tune ts) {late : Nat} (hl : late < 30) : callQ T (k + 15) "_law_marks_right" [.d s.D, .d (itemsD xs), .d (tuneD ts), .d (.int (late : Int))] S = .ok (.d (.bool true)) S := by
  rw [callQ_succ T__law_marks_right rfl rfl]
  have hw := tsum_pos h
  have h96 := sum_96 h
  have ox := fx.scene
  have m1 := p_marks_left leadT.toTuneT T_marks_left k S os ox h
  have m2 := w_beats k S os ox
  have m3 := w_about k S os ox
  have m4 := p_marks_left leadT.toTuneT T_marks_left k S os (SceneOk.about ox) h
  have m5 := p_marks_left leadT.toTuneT T_marks_left k S os (fx.mvd os hl) h
  have m6 := p_marks_left leadT.toTuneT T_marks_left k S os fx.two h
  have m7 := w_marks k S os ox
  have q1 := about_eq hw xs
  have q2 := mvd_eq hw late xs
  have q3 := twice_eq hw xs
  have q4 := lfL_empty hw (xs := xs)
  have hL := lfL_len (w := ts.sum) xs
  rw [mvd_D] at m5
  rw [two_D] at m6
  unfold mvdD at m5
  have n1 := ne_tune S (lfL ts.sum (aboutOf xs))
  have n2 := ne_tune S (lfL ts.sum (mvd late xs))
  have n3 := ne_list S (lfL ts.sum [.again 2 xs])
  have n4 := ezT S (lfL ts.sum xs)
  have hq : decide (marksOf xs = 0) = (lfL ts.sum xs).isEmpty := by
    rw [Bool.eq_iff_iff, decide_eq_true_eq, List.isEmpty_iff, q4]
  generalize lfL ts.sum (aboutOf xs) = LA at *
  generalize lfL ts.sum (mvd late xs) = LB at *
  generalize lfL ts.sum [Item.again 2 xs] = LC at *
  generalize lfL ts.sum xs = L at *
  generalize itemsD (aboutOf xs) = XA at *
  generalize itemsD xs = X at *
  generalize s.D = G at *
  generalize sizeOf' xs = sz at *
  generalize marksOf xs = mz at *
  have a1 : ∀ e7 e8 env, compL (.name 9) (cYes (callQ T (k + 14))) (C__law_marks_right_1 (callQ T (k + 14))) [some (.d G), some (.d X), some (.d (tuneD ts)), some (.d (.int (late : Int))), some (.d (.int ts.sum)), some (.d (tuneD L)), some (.d (.int (sz : Int))), e7, e8, env] (L.map PyData.int) S = .ok ((L.map fun l => ((sz : Int) - l) % ts.sum).map .int) S := by
    intro e7 e8 env
    rw [List.map_map]
    exact compL_on _ _ (fun l _ => by simp) fun l _ => by simp [C__law_marks_right_1, hw]
  have a2 : ∀ e7 e8 env, compL (.name 9) (cYes (callQ T (k + 14))) (C__law_marks_right_2 (callQ T (k + 14))) [some (.d G), some (.d X), some (.d (tuneD ts)), some (.d (.int (late : Int))), some (.d (.int ts.sum)), some (.d (tuneD L)), some (.d (.int (sz : Int))), e7, e8, env] (L.map PyData.int) S = .ok ((L.map fun l => (l + (late : Int)) % ts.sum).map .int) S := by
    intro e7 e8 env
    rw [List.map_map]
    exact compL_on _ _ (fun l _ => by simp) fun l _ => by simp [C__law_marks_right_2, hw]
  have a3 : ∀ e7 e8 env, compL (.name 9) (cYes (callQ T (k + 14))) (C__law_marks_right_3 (callQ T (k + 14))) [some (.d G), some (.d X), some (.d (tuneD ts)), some (.d (.int (late : Int))), some (.d (.int ts.sum)), some (.d (tuneD L)), some (.d (.int (sz : Int))), e7, e8, env] (L.map PyData.int) S = .ok ((L.map fun l => (l + (sz : Int)) % ts.sum).map .int) S := by
    intro e7 e8 env
    rw [List.map_map]
    exact compL_on _ _ (fun l _ => by simp) fun l _ => by simp [C__law_marks_right_3, hw]
  have b1 : (L.map fun l => ((sz : Int) - l) % ts.sum).length ≤ 16777216 := by rw [List.length_map]; omega
  have b2 : (L.map fun l => (l + (late : Int)) % ts.sum).length ≤ 16777216 := by rw [List.length_map]; omega
  have b3 : (L.map fun l => (l + (sz : Int)) % ts.sum).length ≤ 96 := by rw [List.length_map]; omega
  have g1 : ∀ is : List Int, gSorted [.d (.list (is.map .int))] S = .ok (.d (.list ((sortI is).map .int))) S := fun is => by simp [gSorted]
  generalize (L.map fun l => ((sz : Int) - l) % ts.sum) = V1 at *
  generalize (L.map fun l => (l + (late : Int)) % ts.sum) = V2 at *
  generalize (L.map fun l => (l + (sz : Int)) % ts.sum) = V3 at *
  have b4 : (L.map PyData.int).length + (V3.map PyData.int).length ≤ 16777216 := by simp; omega
  have b5 : L.length + V3.length ≤ 4000 := by omega
  have b6 : V3.length ≤ 16777216 := by omega
  have i1 : intsOf (L.map PyData.int ++ V3.map PyData.int) = some (L ++ V3) := by rw [← List.map_append, intsOf_map]
  have tl : ∀ M : List Int, gList [.d (tuneD M)] S = .ok (.d (.list (M.map .int))) S := fun M => rfl
  have tt : ∀ M : List Int, gTuple [.d (.list (M.map .int))] S = .ok (.d (tuneD M)) S := fun M => rfl
  simp at b4
  simp [F__law_marks_right, startQ, setAll, m1, m2, m3, m4, LIM, notOwn, a1, b1, g1, q1, tt, n1, m5, a2, b2, q2, n2, tl, a3, b4, b5, b6, i1, q3, m6, n3, m7, n4, eqB, hq]
theorem tune_turn {t : Int} {r : List Int} (h : Tune (t :: r)) : Tune (r ++ [t]) := ⟨by simp, by have := h.2.1; simpa using this, fun x hx => h.2.2 x (by
  rcases List.mem_append.mp hx with hx | hx
  · simp [hx]
  · simp only [List.mem_singleton] at hx
    simp [hx])⟩
theorem tune_twice {ts : List Int} (h : Tune ts) (h5 : ts.length < 5) : Tune (ts ++ ts) := ⟨by have := h.1; simp; omega, by simp; omega, fun x hx => h.2.2 x ((List.mem_append.mp hx).elim id id)⟩
theorem al_first {ts : List Int} {xs : List Item} (h : Tune ts) {j : Nat} (hj : (j : Int) < ts.sum) (h0 : okLead ts xs (j : Int) = true) (hlt : ∀ i : Nat, i < j → okLead ts xs (i : Int) = false) : ∃ r, AL ts xs = (j : Int) :: r := by
  have hm : (j : Int) ∈ AL ts xs := mem_al.mpr ⟨by omega, hj, h0⟩
  have pw := al_pw ts xs
  cases hA : AL ts xs with
  | nil => rw [hA] at hm; cases hm
  | cons a r =>
    have ha : a ∈ AL ts xs := by rw [hA]; simp
    obtain ⟨a0, a1, a2⟩ := mem_al.mp ha
    rw [hA] at hm pw
    rcases List.mem_cons.mp hm with q | q
    · exact ⟨r, by rw [q]⟩
    · have := (List.pairwise_cons.mp pw).1 _ q
      obtain ⟨i, rfl⟩ := Int.eq_ofNat_of_zero_le a0
      have := hlt i (by omega)
      rw [a2] at this
      cases this
theorem w_lr (k : Nat) (S : Sto) {s : Sky} (os : s.Ok) {xs : List Item} (fx : Flat s xs) {ts : List Int} (h : Tune ts) {late : Nat} (hl : late < 30) : callQ T (k + 16) "_law_leads_right" [.d s.D, .d (itemsD xs), .d (tuneD ts), .d (.int (late : Int))] S = .ok (.d (.bool true)) S := by
  rw [callQ_succ T__law_leads_right rfl rfl]
  have hw := tsum_pos h
  have h96 := sum_96 h
  have h8 := h.2.1
  have ox := fx.scene
  obtain ⟨t, r, rfl⟩ : ∃ t r, ts = t :: r := by
    cases ts with
    | nil => have := h.1; simp at this
    | cons t r => exact ⟨t, r, rfl⟩
  have m1 := w_all k S os ox h
  have m2 := p_told leadT.toLeadT2 (k + 1) S os ox h
  have m3 := w_all k S os (fx.mvd os hl) h
  have m4 := w_all k S os ox (tune_turn h)
  have m5 := fun h5 => w_all k S os ox (tune_twice h h5)
  have m6 := p_marks_left leadT.toTuneT T_marks_left (k + 1) S os ox h
  have q1 := al_mvd hw late xs
  have q2 := al_turn h xs
  have q3 := al_twice h xs
  have hA := al_len (ts := t :: r) xs
  rw [mvd_D] at m3
  unfold mvdD at m3
  have n1 := ne_list S (AL (t :: r) (mvd late xs))
  have n2 := ne_list S (AL (r ++ [t]) xs)
  have n3 := ne_list S (AL (t :: r ++ t :: r) xs)
  have n4 := nez S (AL (t :: r) xs)
  have n5 := nezT S (lfL (t :: r).sum xs)
  have told : (∃ j : Nat, told3 (t :: r) (lfL (t :: r).sum xs) = .tied j ∧ ∃ r', AL (t :: r) xs = (j : Int) :: r') ∨ (∃ ls, told3 (t :: r) (lfL (t :: r).sum xs) = .never ls ∧ AL (t :: r) xs = [] ∧ (lfL (t :: r).sum xs).isEmpty = false) := by
    rcases told3_cases h (lfL (t :: r).sum xs) with ⟨j0, et, hj0, hz0, hlt⟩ | ⟨ls, et, hls, hcs⟩
    · refine .inl ⟨j0, et, al_first h hj0 ?_ fun i hi => ?_⟩
      · rw [okLead_iff h, hz0]; rfl
      · rw [okLead_iff h]
        have := hlt i hi
        cases hu : unTied (t :: r) (lfL (t :: r).sum xs) (i : Int) with
        | nil => exact absurd hu this
        | cons _ _ => rfl
    · refine .inr ⟨ls, et, ?_, ?_⟩
      · rw [List.eq_nil_iff_forall_not_mem]
        intro a ha
        obtain ⟨a0, a1, a2⟩ := mem_al.mp ha
        obtain ⟨i, rfl⟩ := Int.eq_ofNat_of_zero_le a0
        obtain ⟨x, r', q, _⟩ := hcs i a1
        rw [okLead_iff h, q] at a2
        cases a2
      · obtain ⟨x, r', q, _⟩ := hcs 0 (by omega)
        cases hL : lfL (t :: r).sum xs with
        | nil => rw [hL] at q; cases q
        | cons _ _ => rfl
  have hs := sum_turn t r
  generalize lfL (t :: r).sum xs = L at *
  generalize AL (t :: r) (mvd late xs) = AM at *
  generalize AL (r ++ [t]) xs = AT at *
  generalize AL (t :: r ++ t :: r) xs = AD at *
  generalize AL (t :: r) xs = A at *
  generalize itemsD xs = X at *
  generalize s.D = G at *
  have hs0 : (t :: r).sum = t + r.sum := List.sum_cons
  generalize hW : (t :: r).sum = w at *
  have c1 : ∀ e6 e7 e8 e9 env, compL (.name 10) (cYes (callQ T (k + 15))) (C__law_leads_right_1 (callQ T (k + 15))) [some (.d G), some (.d X), some (.d (tuneD (t :: r))), some (.d (.int (late : Int))), some (.d (.int w)), some (.d (.list (A.map .int))), e6, e7, e8, e9, env] (A.map PyData.int) S = .ok ((A.map fun a => (a - (late : Int)) % w).map .int) S := by
    intro e6 e7 e8 e9 env
    rw [List.map_map]
    exact compL_on _ _ (fun l _ => by simp) fun l _ => by simp [C__law_leads_right_1, hw]
  have c2 : ∀ e6 e7 e8 e9 env, compL (.name 10) (cYes (callQ T (k + 15))) (C__law_leads_right_2 (callQ T (k + 15))) [some (.d G), some (.d X), some (.d (tuneD (t :: r))), some (.d (.int (late : Int))), some (.d (.int w)), some (.d (.list (A.map .int))), e6, e7, e8, e9, env] (A.map PyData.int) S = .ok ((A.map fun a => (a - t) % w).map .int) S := by
    intro e6 e7 e8 e9 env
    rw [List.map_map]
    exact compL_on _ _ (fun l _ => by simp) fun l _ => by simp [C__law_leads_right_2, hw]
  have c3 : ∀ e6 e7 e8 e9 env, compL (.name 10) (cYes (callQ T (k + 15))) (C__law_leads_right_3 (callQ T (k + 15))) [some (.d G), some (.d X), some (.d (tuneD (t :: r))), some (.d (.int (late : Int))), some (.d (.int w)), some (.d (.list (A.map .int))), e6, e7, e8, e9, env] (A.map PyData.int) S = .ok ((A.map fun a => a + w).map .int) S := by
    intro e6 e7 e8 e9 env
    rw [List.map_map]
    exact compL_on _ _ (fun l _ => by simp) fun l _ => by simp [C__law_leads_right_3]
  have b1 : (A.map fun a => (a - (late : Int)) % w).length ≤ 16777216 := by rw [List.length_map]; omega
  have b2 : (A.map fun a => (a - t) % w).length ≤ 16777216 := by rw [List.length_map]; omega
  have b3 : (A.map fun a => a + w).length ≤ 96 := by rw [List.length_map]; omega
  have g1 : ∀ is : List Int, gSorted [.d (.list (is.map .int))] S = .ok (.d (.list ((sortI is).map .int))) S := fun is => by simp [gSorted]
  generalize (A.map fun a => (a - (late : Int)) % w) = V1 at *
  generalize (A.map fun a => (a - t) % w) = V2 at *
  generalize (A.map fun a => a + w) = V3 at *
  have b4 : (A.map PyData.int).length + (V3.map PyData.int).length ≤ 16777216 := by simp; omega
  have b6 : V3.length ≤ 16777216 := by omega
  have i1 : A.map PyData.int ++ V3.map PyData.int = AD.map .int := by rw [← List.map_append, q3]
  have k1 : cutD ((t :: r).map PyData.int) (some 1) none = r.map .int := cutD_from ((t :: r).map PyData.int) 1
  have k2 : cutD ((t :: r).map PyData.int) none (some 1) = [PyData.int t] := cutD_to ((t :: r).map PyData.int) 1
  have k3 : r.map PyData.int ++ [.int t] = (r ++ [t]).map .int := by simp
  have k4 : (r.map PyData.int).length + [PyData.int t].length ≤ 16777216 := by simp at h8 ⊢; omega
  have k5 : gMul2 (.d (tuneD (t :: r))) (.d (.int 2)) S = .ok (.d (tuneD (t :: r ++ t :: r))) S := by
    simp only [gMul2]
    rw [if_pos ⟨by simp, by omega, by omega, by simp at h8 ⊢; omega⟩]
    simp
  have k6 : atI ((t :: r).map PyData.int) 0 = some (.int t) := by
    rw [show (0 : Int) = ((0 : Nat) : Int) from rfl, atI_nat]
    rfl
  simp at b4 k4
  generalize hts : t :: r = ts at *
  generalize r ++ [t] = RT at *
  generalize ts ++ ts = TT at *
  rcases told with ⟨j, et, r', eA⟩ | ⟨ls, et, eA, eL⟩
  · rw [et] at m2
    simp only [Told3.D] at m2
    have hAe : A.isEmpty = false := by rw [eA]; rfl
    have hat : atI (A.map PyData.int) 0 = some (.int (j : Int)) := by
      rw [eA, show (0 : Int) = ((0 : Nat) : Int) from rfl, atI_nat]
      rfl
    rw [hAe] at n4
    by_cases h5 : (ts.length : Int) < 5
    · have m5 := m5 (by omega)
      simp [F__law_leads_right, startQ, setAll, m1, m2, LIM, n4, neB, k6, hW, hat, m3, notOwn, c1, b1, g1, q1, n1, k1, k2, k3, k4, m4, c2, b2, q2, n2, c3, b4, b6, i1, h5, k5, m5, n3, W.plain]
    · simp [F__law_leads_right, startQ, setAll, m1, m2, LIM, n4, neB, k6, hW, hat, m3, notOwn, c1, b1, g1, q1, n1, k1, k2, k3, k4, m4, c2, b2, q2, n2, c3, b4, b6, i1, h5, k5, n3, W.plain]
  · rw [et] at m2
    simp only [Told3.D] at m2
    have hAe : A.isEmpty = true := by rw [eA]; rfl
    rw [hAe] at n4
    rw [eL] at n5
    have tn : (Str.ofString "never" = Str.ofString "tied") = False := eq_false (by decide)
    by_cases h5 : (ts.length : Int) < 5
    · have m5 := m5 (by omega)
      simp [F__law_leads_right, startQ, setAll, m1, m2, LIM, n4, neB, k6, hW, m3, notOwn, c1, b1, g1, q1, n1, k1, k2, k3, k4, m4, c2, b2, q2, n2, c3, b4, b6, i1, h5, k5, m5, n3, W.plain, tn, m6, n5]
    · simp [F__law_leads_right, startQ, setAll, m1, m2, LIM, n4, neB, k6, hW, m3, notOwn, c1, b1, g1, q1, n1, k1, k2, k3, k4, m4, c2, b2, q2, n2, c3, b4, b6, i1, h5, k5, n3, W.plain, tn, m6, n5]
theorem w_deep {n : Nat} (S : Sto) : ∀ (d k : Nat) {xs : List Item}, ItemsOk n d xs → ∃ m : Int, callQ T (k + d + 1) "_law_deep" [.d (itemsD xs)] S = .ok (.d (.int m)) S := by
  have step : ∀ (d k : Nat), (∀ {t : Nat} {ys : List Item}, Item.Ok n d (.again t ys) → ∃ m : Int, callQ T (k + d) "_law_deep" [.d (itemsD ys)] S = .ok (.d (.int m)) S) → ∀ {xs : List Item}, ItemsOk n d xs → ∃ m : Int, callQ T (k + d + 1) "_law_deep" [.d (itemsD xs)] S = .ok (.d (.int m)) S := by
    intro d k hrec xs o
    rw [callQ_succ T__law_deep rfl rfl]
    have main : ∀ (ys : List Item) (e1 : Option W), (∀ y ∈ ys, Item.Ok n d y) → ∃ ms : List Int, ms.length ≤ ys.length ∧ compL (.name 1) (D__law_deep_1 (callQ T (k + d))) (C__law_deep_2 (callQ T (k + d))) [some (.d (itemsD xs)), e1] (ys.map Item.D) S = .ok (ms.map .int) S := by
      intro ys e1
      induction ys with
      | nil => intro _; exact ⟨[], by simp, rfl⟩
      | cons y ys ih =>
        intro oy
        have o1 := oy y (by simp)
        obtain ⟨ms, hl, e⟩ := ih fun z hz => oy z (by simp [hz])
        generalize itemsD xs = G at *
        have eD := e
        have eDC := e
        simp only [D__law_deep_1] at eD
        simp only [D__law_deep_1, C__law_deep_2] at eDC
        cases y with
        | go a b c => exact ⟨ms, by simp; omega, by simp [compL, z_name, D__law_deep_1, Item.D, eD]⟩
        | flip i => exact ⟨ms, by simp; omega, by simp [compL, z_name, D__law_deep_1, Item.D, eD]⟩
        | mark => exact ⟨ms, by simp; omega, by simp [compL, z_name, D__law_deep_1, Item.D, eD]⟩
        | again t zs =>
          obtain ⟨m, hm⟩ := hrec o1
          refine ⟨(1 + m) :: ms, by simp; omega, ?_⟩
          rw [List.map_cons, again_D]
          generalize itemsD zs = Z at *
          simp [compL, z_name, D__law_deep_1, C__law_deep_2, hm, eDC]
    obtain ⟨ms, hl, e⟩ := main xs none o.o
    have e0 : itemsD xs = .tuple (xs.map Item.D) := rfl
    have h8 := o.l
    rw [e0] at e ⊢
    have hz : intsOf (PyData.int 0 :: ms.map PyData.int) = some (0 :: ms) := by
      have := intsOf_map (0 :: ms)
      simpa using this
    have hml : ms.length ≤ 16777216 := by omega
    have hml2 : (ms.map PyData.int).length + 1 ≤ 16777216 := by rw [List.length_map]; omega
    simp at e hml2
    refine ⟨maxI (0 :: ms), ?_⟩
    have gm : gMaxL [.d (.list (PyData.int 0 :: ms.map PyData.int))] S = .ok (.d (.int (maxI (0 :: ms)))) S := by
      simp [gMaxL, hz]
    generalize maxI (0 :: ms) = M at *
    have hml3 : 1 + ms.length ≤ 16777216 := by omega
    simp [F__law_deep, startQ, notOwn, LIM, e, hml, hml2, hml3, gm]
  intro d
  induction d with
  | zero => intro k xs o; exact step 0 k (fun o => nomatch o) o
  | succ d ih =>
    intro k xs o
    refine step (d + 1) k (fun {t ys} ox => ?_) o
    exact ih k (ItemsOk.again ox).1
theorem w_flat (k : Nat) (S : Sto) {s : Sky} (os : s.Ok) {xs : List Item} (sx : SmallW s xs) : ∃ ys, Flat s ys ∧ callQ T (k + 4) "_law_flat" [.d (itemsD xs)] S = .ok (.d (itemsD ys)) S := by
  have o2 : ItemsOk s.ls.length 2 xs := ⟨by have := sx.l; omega, fun x hx => (sx.o x hx).ok 2⟩
  obtain ⟨m, e⟩ := w_deep S 2 k o2
  rw [callQ_succ T__law_flat rfl rfl]
  by_cases h : m < 3
  · refine ⟨xs, ⟨o2.l, o2.o, by have := sx.m; unfold manyOf at this; omega⟩, ?_⟩
    generalize itemsD xs = X at *
    simp [F__law_flat, startQ, e, h]
  · refine ⟨[.mark, .go 1 0 0], ⟨by simp, fun x hx => ?_, by simp [sizeOf', Item.size]⟩, ?_⟩
    · simp only [List.mem_cons, List.not_mem_nil, or_false] at hx
      rcases hx with rfl | rfl
      · exact .mark
      · exact .go (by omega) (by omega) (by omega)
    · have ey : itemsD [.mark, .go 1 0 0] = .tuple [.tuple [.str "mark"], .tuple [.str "go", .int 1, .int 0, .int 0]] := by simp [itemsD, Item.D]
      rw [ey]
      generalize itemsD xs = X at *
      simp [F__law_flat, startQ, e, h, LIM]
def oneW (r : Nat) : List Item := List.replicate r (.go 1 0 0) ++ [.mark]
theorem one_size (r : Nat) : sizeOf' (oneW r) = r := by
  unfold oneW
  induction r with
  | zero => rfl
  | succ r ih =>
    rw [List.replicate_succ, List.cons_append]
    simp only [sizeOf', Item.size]
    omega
theorem oneW_ok (n d : Nat) {r : Nat} : ∀ x ∈ oneW r, Item.Ok n d x := fun x hx => by
  rcases List.mem_append.mp hx with hx | hx
  · rw [(List.mem_replicate.mp hx).2]
    exact .go (by omega) (by omega) (by omega)
  · rw [List.mem_singleton] at hx
    subst hx
    exact .mark
theorem one_flat (s : Sky) {r : Nat} (hr : r ≤ 5) : Flat s (oneW r) := ⟨by simp [oneW]; omega, oneW_ok _ 2, by rw [one_size]; omega⟩
theorem three_flat (s : Sky) {r : Nat} (hr : r ≤ 5) : Flat s [.again 3 (oneW r)] := ⟨by simp, fun x hx => by
  rw [List.mem_singleton] at hx
  subst hx
  exact .again (by omega) (by simp [oneW]; omega) (oneW_ok _ 1), by
    have := one_size r
    simp only [sizeOf', Item.size]
    omega⟩
theorem w_turn (k : Nat) {n : Nat} {S : Sto} (hp : PenOk S n) {s : Sky} (os : s.Ok) {xs : List Item} (fx : Flat s xs) (e0 e1 e4 f6 f7 : Option W) : ∃ g6 g7 S', B_law_1 (callQ T (k + 20)) [e0, e1, some (.ref n), some (.d s.D), e4, some (.d (itemsD xs)), f6, f7] S = .next [e0, e1, some (.ref n), some (.d s.D), e4, some (.d (itemsD xs)), g6, g7] S' ∧ PenOk S' n := by
  obtain ⟨ts, S1, h, c1, p1⟩ := u_tune penW (k + 17) hp
  obtain ⟨r, S2, c2, r0, r1, p2⟩ := u_draw penW (k + 19) p1 (m := 30) (by omega) (by omega)
  obtain ⟨late, rfl⟩ := Int.eq_ofNat_of_zero_le r0
  have c3 := w_mr (k + 5) S2 os fx h (late := late) (by omega)
  have c4 := w_lr (k + 4) S2 os fx h (late := late) (by omega)
  refine ⟨some (.d (tuneD ts)), some (.d (.int (late : Int))), S2, ?_, p2⟩
  generalize itemsD xs = X at *
  generalize s.D = G at *
  simp [B_law_1, c1, c2, c3, c4, setAll, W.plain]
theorem law_true : ∀ ns : List Int, ns.length ≤ 63 → ∃ S', callQ T 40 "law" [.scr ns] [] = .ok (.d (.bool true)) S' := by
  intro ns hl
  rw [callQ_succ T_law rfl rfl]
  have loop := forL_all (t := .name 1) (body := B_law_2 (callQ T 39)) (ds := rangeD 0 (max 1 (min ns.length 3))) (env := [some (.scr ns), none, none, none, none, none, none, none]) (S := [])
    (fun env S' => ∃ e1 e2 e3 e4 e5 e6 e7, env = [some (.scr ns), e1, e2, e3, e4, e5, e6, e7]) ⟨_, _, _, _, _, _, _, rfl⟩ (by
    rintro d hd env S ⟨e1, e2, e3, e4, e5, e6, e7, rfl⟩
    obtain ⟨j, hj, rfl⟩ := rangeD_mem hd
    obtain ⟨z, c0⟩ := u_cell penW 38 S ns j
    obtain ⟨S1, c1, p1⟩ := u_pen penW 38 S z
    obtain ⟨s, S2, os, _, c2, p2⟩ := u_sky penW 36 p1
    obtain ⟨r, S3, c3, r0, r1, p3⟩ := u_draw penW 38 p2 (m := 6) (by omega) (by omega)
    obtain ⟨r, rfl⟩ := Int.eq_ofNat_of_zero_le r0
    obtain ⟨xs, S4, sx, c4, p4⟩ := u_small penW 30 p3 os
    obtain ⟨ys, fy, c5⟩ := w_flat 35 S4 os sx
    have hone : itemsD (oneW r) = .tuple (List.replicate r (PyData.tuple [.str "go", .int 1, .int 0, .int 0]) ++ [.tuple [.str "mark"]]) := by simp [itemsD, oneW, Item.D]
    have hthree : itemsD [.again 3 (oneW r)] = .tuple [.tuple [.str "again", .int 3, itemsD (oneW r)]] := by
      have := again_D 3 (oneW r)
      simp only [itemsD, List.map_cons, List.map_nil] at this ⊢
      rw [this]
      simp
    have hmul : ∀ S, gMulA (.d (.tuple [.tuple [.str "go", .int 1, .int 0, .int 0]])) (.d (.int (r : Int))) S = .ok (.d (.tuple (List.replicate r (PyData.tuple [.str "go", .int 1, .int 0, .int 0])))) S := by
      intro S
      have : r = 0 ∨ r = 1 ∨ r = 2 ∨ r = 3 ∨ r = 4 ∨ r = 5 := by omega
      rcases this with rfl | rfl | rfl | rfl | rfl | rfl <;> rfl
    obtain ⟨env', S6, lp, p6, g5, g6, g7, rfl⟩ := forL_all (t := .name 5) (body := B_law_1 (callQ T 39)) (ds := [itemsD ys, itemsD (oneW r), itemsD [.again 3 (oneW r)]]) (env := [some (.scr ns), some (.d (.int (0 + (j : Int)))), some (.ref S.length), some (.d s.D), some (.d (itemsD (oneW r))), e5, e6, e7]) (S := S4)
      (fun env S' => PenOk S' S.length ∧ ∃ e5 e6 e7, env = [some (.scr ns), some (.d (.int (0 + (j : Int)))), some (.ref S.length), some (.d s.D), some (.d (itemsD (oneW r))), e5, e6, e7]) ⟨p4, _, _, _, rfl⟩ (by
      rintro d hd env S' ⟨pe, e5, e6, e7, rfl⟩
      obtain ⟨zs, sz, rfl⟩ : ∃ zs : List Item, Flat s zs ∧ d = itemsD zs := by
        simp only [List.mem_cons, List.not_mem_nil, or_false] at hd
        rcases hd with rfl | rfl | rfl
        · exact ⟨_, fy, rfl⟩
        · exact ⟨_, one_flat s (by omega), rfl⟩
        · exact ⟨_, three_flat s (by omega), rfl⟩
      obtain ⟨g6, g7, S3, c3, p3⟩ := w_turn 19 pe os sz (some (.scr ns)) (some (.d (.int (0 + (j : Int))))) (some (.d (itemsD (oneW r)))) e6 e7
      exact ⟨_, _, S3, rfl, .inl c3, p3, _, _, _, rfl⟩)
    refine ⟨_, [some (.scr ns), some (.d (.int (0 + (j : Int)))), some (.ref S.length), some (.d s.D), some (.d (itemsD (oneW r))), g5, g6, g7], S6, rfl, .inl ?_, _, _, _, _, _, _, _, rfl⟩
    have hlen1 : (List.replicate r (PyData.tuple [.str "go", .int 1, .int 0, .int 0])).length + 1 ≤ 16777216 := by simp; omega
    rw [hthree, hone] at lp
    rw [hone]
    generalize List.replicate r (PyData.tuple [.str "go", .int 1, .int 0, .int 0]) = RG at *
    generalize itemsD xs = X at *
    generalize itemsD ys = Y at *
    generalize s.D = G at *
    simp at c0 lp
    simp [B_law_2, c0, c1, c2, c3, hmul, hlen1, LIM, c4, c5, lp])
  obtain ⟨env', S', lp, _⟩ := loop
  refine ⟨S', ?_⟩
  have hmm : (if (1 : Int) < (if (3 : Int) < (ns.length : Int) then (3 : Int) else (ns.length : Int)) then (if (3 : Int) < (ns.length : Int) then (3 : Int) else (ns.length : Int)) else 1) = ((max 1 (min ns.length 3) : Nat) : Int) := by
    split <;> split <;> omega
  have hr : inR ((max 1 (min ns.length 3) : Nat) : Int) = true := inR_of (by omega) (by omega)
  generalize hM : max 1 (min ns.length 3) = M at *
  simp [F_law, startQ, gLen, hmm, hr, lp]
end Q

namespace Q
open PySem PySem.Spec PyProof.Rows L2
/-- the module's names -/
structure GL (K : PySem.W.Frag) (mg : Str → Option Value) : Prop where
  f_all : mg "all" = none
  f_bool : mg "bool" = none
  f_enumerate : mg "enumerate" = none
  f_int : mg "int" = none
  f_isinstance : mg "isinstance" = none
  f_len : mg "len" = none
  f_list : mg "list" = none
  f_max : mg "max" = none
  f_min : mg "min" = none
  f_range : mg "range" = none
  f_set : mg "set" = none
  f_sorted : mg "sorted" = none
  f_str : mg "str" = none
  f_sum : mg "sum" = none
  f_tuple : mg "tuple" = none
  i_AGAIN : ∃ t, mg "AGAIN" = some (.str "again" t)
  i_LEAST_WIDE : ∃ t, mg "LEAST_WIDE" = some (.int 4 t)
  i_MOST_BARS : ∃ t, mg "MOST_BARS" = some (.int 8 t)
  i_MOST_BEATS : ∃ t, mg "MOST_BEATS" = some (.int 100000000000 t)
  i_MOST_DEEP : ∃ t, mg "MOST_DEEP" = some (.int 3 t)
  i_MOST_GO : ∃ t, mg "MOST_GO" = some (.int 99 t)
  i_MOST_HIGH : ∃ t, mg "MOST_HIGH" = some (.int 5 t)
  i_MOST_ITEMS : ∃ t, mg "MOST_ITEMS" = some (.int 8 t)
  i_MOST_LIGHTS : ∃ t, mg "MOST_LIGHTS" = some (.int 6 t)
  i_MOST_LONG : ∃ t, mg "MOST_LONG" = some (.int 12 t)
  i_MOST_ROWS : ∃ t, mg "MOST_ROWS" = some (.int 4 t)
  i_MOST_SPEED : ∃ t, mg "MOST_SPEED" = some (.int 9 t)
  i_MOST_TIMES : ∃ t, mg "MOST_TIMES" = some (.int 1000000 t)
  i_MOST_WIDE : ∃ t, mg "MOST_WIDE" = some (.int 12 t)
  i_NEVER : ∃ t, mg "NEVER" = some (.str "never" t)
  i_TIED : ∃ t, mg "TIED" = some (.str "tied" t)
structure CL (P : Program) (w : World) (K : PySem.W.Frag) (mg : Str → Option Value) (base : Heap) (cf : CF) (k : Nat) : Prop where
  c_is_whole : FnQ P w K mg base cf k "is_whole" 1
  c_is_among : FnQ P w K mg base cf k "is_among" 3
  c_is_row : FnQ P w K mg base cf k "is_row" 3
  c_is_light_of : FnQ P w K mg base cf k "is_light_of" 3
  c_is_sky : FnQ P w K mg base cf k "is_sky" 1
  c_need_sky : FnQ P w K mg base cf k "need_sky" 1
  c_is_item : FnQ P w K mg base cf k "is_item" 3
  c_are_items : FnQ P w K mg base cf k "are_items" 3
  c_size_of : FnQ P w K mg base cf k "size_of" 1
  c_is_scene_by : FnQ P w K mg base cf k "is_scene_by" 2
  c_need_scene : FnQ P w K mg base cf k "need_scene" 2
  c_need_both_scenes : FnQ P w K mg base cf k "need_both_scenes" 2
  c_beats_of : FnQ P w K mg base cf k "beats_of" 2
  c_marks_in : FnQ P w K mg base cf k "marks_in" 1
  c_marks_of : FnQ P w K mg base cf k "marks_of" 2
  c_about : FnQ P w K mg base cf k "about" 1
  c_turned_about : FnQ P w K mg base cf k "turned_about" 2
  c_is_tune : FnQ P w K mg base cf k "is_tune" 1
  c_need_tune : FnQ P w K mg base cf k "need_tune" 1
  c_begins_of : FnQ P w K mg base cf k "begins_of" 1
  c_marks_by : FnQ P w K mg base cf k "marks_by" 2
  c_need_both_tunes : FnQ P w K mg base cf k "need_both_tunes" 3
  c_lefts_by : FnQ P w K mg base cf k "lefts_by" 2
  c_marks_left : FnQ P w K mg base cf k "marks_left" 3
  c_is_tied : FnQ P w K mg base cf k "is_tied" 3
  c_loose_by : FnQ P w K mg base cf k "loose_by" 3
  c_tied : FnQ P w K mg base cf k "tied" 3
  c_shows_tied : FnQ P w K mg base cf k "shows_tied" 4
  c__law_cell_at : FnQ P w K mg base cf k "_law_cell_at" 2
  c__law_pen : FnQ P w K mg base cf k "_law_pen" 1
  c__law_draw : FnQ P w K mg base cf k "_law_draw" 2
  c__law_pick : FnQ P w K mg base cf k "_law_pick" 2
  c__law_sky : FnQ P w K mg base cf k "_law_sky" 2
  c__law_item : FnQ P w K mg base cf k "_law_item" 4
  c__law_scene : FnQ P w K mg base cf k "_law_scene" 5
  c__law_tune : FnQ P w K mg base cf k "_law_tune" 1
  c__law_small_scene : FnQ P w K mg base cf k "_law_small_scene" 2
  c__law_many : FnQ P w K mg base cf k "_law_many" 1
  c__law_all_leads : FnQ P w K mg base cf k "_law_all_leads" 3
  c__law_marks_right : FnQ P w K mg base cf k "_law_marks_right" 4
  c__law_leads_right : FnQ P w K mg base cf k "_law_leads_right" 4
  c__law_flat : FnQ P w K mg base cf k "_law_flat" 1
  c__law_deep : FnQ P w K mg base cf k "_law_deep" 1
  c_law : FnQ P w K mg base cf k "law" 1
section
variable {P : Program} {w : World} {K : PySem.W.Frag} {mg : Str → Option Value} {base : Heap} {cf : CF} {k : Nat} {f : Addr} {cdv : Value} {A : Around} {outer : List Env} {s : Shared} {H : Hp} {E : XK}
theorem nd_is_whole : (["thing"] : List Str).Nodup := by decide +kernel
theorem sc_is_whole : FnScope ["thing"] ["thing"] (defScope s_is_whole) := ⟨rfl, rfl, rfl, nd_is_whole, rfl, by decide +kernel, by decide +kernel⟩
theorem ok_is_whole (g : GL K mg) (C : CL P w K mg base cf k) (hA : A.guards = some []) (hr : Room k (A.deeper (envOfC "is_whole" (defScope s_is_whole) s.heap.objs.size f cdv))) :
    MSs (cxOf (L2.CX P w) P w K mg base ["thing"] "is_whole" (defScope s_is_whole) f cdv A outer s H E) cf (fun c d _ H => E c d H) (defBody s_is_whole) F_is_whole :=
  have nd := nd_is_whole
  have tk : Takes (cxOf (L2.CX P w) P w K mg base ["thing"] "is_whole" (defScope s_is_whole) f cdv A outer s H E) (fun c d _ H => E c d H) := takes_of rfl rfl rfl rfl
  (mss_one (ms_ret (me_and (me_isi (T := "int") (by decide) (by rfl) g.f_isinstance (me_var (pv 0)) (pe_bltn (by rfl) g.f_int (by decide +kernel) rfl)) (me_one (me_not (me_isi (T := "bool") (by decide) (by rfl) g.f_isinstance (me_var (pv 0)) (pe_bltn (by rfl) g.f_bool (by decide +kernel) rfl)))))))
theorem nd_is_among : (["thing", "low", "high"] : List Str).Nodup := by decide +kernel
theorem sc_is_among : FnScope ["thing", "low", "high"] ["thing", "low", "high"] (defScope s_is_among) := ⟨rfl, rfl, rfl, nd_is_among, rfl, by decide +kernel, by decide +kernel⟩
theorem ok_is_among (g : GL K mg) (C : CL P w K mg base cf k) (hA : A.guards = some []) (hr : Room k (A.deeper (envOfC "is_among" (defScope s_is_among) s.heap.objs.size f cdv))) :
    MSs (cxOf (L2.CX P w) P w K mg base ["thing", "low", "high"] "is_among" (defScope s_is_among) f cdv A outer s H E) cf (fun c d _ H => E c d H) (defBody s_is_among) F_is_among :=
  have nd := nd_is_among
  have tk : Takes (cxOf (L2.CX P w) P w K mg base ["thing", "low", "high"] "is_among" (defScope s_is_among) f cdv A outer s H E) (fun c d _ H => E c d H) := takes_of rfl rfl rfl rfl
  (mss_one (ms_ret (me_and (me_call C.c_is_whole hA hr tk (by rfl) (ma_cons (me_var (pv 0)) ma_nil)) (me_one (me_chain cm_le cm_le (me_var (pv 1)) (me_var (pv 0)) (me_var (pv 2)))))))
theorem nd_is_row : (["thing", "low", "high"] : List Str).Nodup := by decide +kernel
theorem sc_is_row : FnScope ["thing", "low", "high"] ["thing", "low", "high"] (defScope s_is_row) := ⟨rfl, rfl, rfl, nd_is_row, rfl, by decide +kernel, by decide +kernel⟩
theorem ok_is_row (g : GL K mg) (C : CL P w K mg base cf k) (hA : A.guards = some []) (hr : Room k (A.deeper (envOfC "is_row" (defScope s_is_row) s.heap.objs.size f cdv))) :
    MSs (cxOf (L2.CX P w) P w K mg base ["thing", "low", "high"] "is_row" (defScope s_is_row) f cdv A outer s H E) cf (fun c d _ H => E c d H) (defBody s_is_row) F_is_row :=
  have nd := nd_is_row
  have tk : Takes (cxOf (L2.CX P w) P w K mg base ["thing", "low", "high"] "is_row" (defScope s_is_row) f cdv A outer s H E) (fun c d _ H => E c d H) := takes_of rfl rfl rfl rfl
  (mss_one (ms_ret (me_and (me_isi (T := "tuple") (by decide) (by rfl) g.f_isinstance (me_var (pv 0)) (pe_bltn (by rfl) g.f_tuple (by decide +kernel) rfl)) (me_one (me_chain cm_le cm_le (me_var (pv 1)) (me_len (by rfl) g.f_len (ma_cons (me_var (pv 0)) ma_nil)) (me_var (pv 2)))))))
theorem nd_is_light_of : (["thing", "wide", "high", "row"] : List Str).Nodup := by decide +kernel
theorem sc_is_light_of : FnScope ["thing", "wide", "high", "row"] ["thing", "wide", "high"] (defScope s_is_light_of) := ⟨rfl, rfl, rfl, nd_is_light_of, rfl, by decide +kernel, by decide +kernel⟩
theorem ok_is_light_of (g : GL K mg) (C : CL P w K mg base cf k) (hA : A.guards = some []) (hr : Room k (A.deeper (envOfC "is_light_of" (defScope s_is_light_of) s.heap.objs.size f cdv))) :
    MSs (cxOf (L2.CX P w) P w K mg base ["thing", "wide", "high", "row"] "is_light_of" (defScope s_is_light_of) f cdv A outer s H E) cf (fun c d _ H => E c d H) (defBody s_is_light_of) F_is_light_of :=
  have nd := nd_is_light_of
  have tk : Takes (cxOf (L2.CX P w) P w K mg base ["thing", "wide", "high", "row"] "is_light_of" (defScope s_is_light_of) f cdv A outer s H E) (fun c d _ H => E c d H) := takes_of rfl rfl rfl rfl
  (mss_cons (ms_if (mt_w (mw_or (mt_not (mt_val (me_call C.c_is_row hA hr tk (by rfl) (ma_cons (me_var (pv 0)) (ma_cons me_int (ma_cons me_int ma_nil)))))) (mw_or1 (mt_not (mt_val (me_call C.c_is_among hA hr tk (by rfl) (ma_cons (me_at (me_var (pv 0)) me_int) (ma_cons me_int (ma_cons (me_sub (me_var (pv 1)) me_int) ma_nil)))))))))
  (mss_one (ms_ret me_bl))
  mss_nil)
  (mss_cons (ms_if (mt_w (mw_or (mt_not (mt_val (me_call C.c_is_among hA hr tk (by rfl) (ma_cons (me_at (me_var (pv 0)) me_int) (ma_cons (me_neg (me_globI (by rfl) g.i_MOST_SPEED)) (ma_cons (me_globI (by rfl) g.i_MOST_SPEED) ma_nil)))))) (mw_or1 (mt_not (mt_val (me_call C.c_is_row hA hr tk (by rfl) (ma_cons (me_at (me_var (pv 0)) me_int) (ma_cons me_int (ma_cons (me_globI (by rfl) g.i_MOST_ROWS) ma_nil)))))))))
  (mss_one (ms_ret me_bl))
  mss_nil)
  (mss_one (ms_ret (me_all rfl (by rfl) g.f_all (ma_cons (me_comp (own := [("row", 3)]) rfl nd (mi_seq (me_at (me_var (pv 0)) me_int)) (blkOk_by (N := ["thing", "wide", "high", "row"]) (sc := defScope s_is_light_of) (own := [("row", 3)]) (by decide +kernel)) (by decide) (fun _ _ _ _ _ => (mg_name (i := 3) nd rfl (by first | exact Or.inl rfl | exact Or.inr rfl))) (fun _ _ _ _ _ => mts_nil) (fun _ _ _ _ _ => (me_call C.c_is_among hA hr takes0 (by rfl) (ma_cons (me_var (pv 3)) (ma_cons me_int (ma_cons (me_sub (me_var (pv 2)) me_int) ma_nil)))))) ma_nil))))))
theorem nd_is_sky : (["thing", "light"] : List Str).Nodup := by decide +kernel
theorem sc_is_sky : FnScope ["thing", "light"] ["thing"] (defScope s_is_sky) := ⟨rfl, rfl, rfl, nd_is_sky, rfl, by decide +kernel, by decide +kernel⟩
theorem ok_is_sky (g : GL K mg) (C : CL P w K mg base cf k) (hA : A.guards = some []) (hr : Room k (A.deeper (envOfC "is_sky" (defScope s_is_sky) s.heap.objs.size f cdv))) :
    MSs (cxOf (L2.CX P w) P w K mg base ["thing", "light"] "is_sky" (defScope s_is_sky) f cdv A outer s H E) cf (fun c d _ H => E c d H) (defBody s_is_sky) F_is_sky :=
  have nd := nd_is_sky
  have tk : Takes (cxOf (L2.CX P w) P w K mg base ["thing", "light"] "is_sky" (defScope s_is_sky) f cdv A outer s H E) (fun c d _ H => E c d H) := takes_of rfl rfl rfl rfl
  (mss_cons (ms_if (mt_w (mw_or (mt_not (mt_val (me_call C.c_is_row hA hr tk (by rfl) (ma_cons (me_var (pv 0)) (ma_cons me_int (ma_cons me_int ma_nil)))))) (mw_or1 (mt_not (mt_val (me_call C.c_is_among hA hr tk (by rfl) (ma_cons (me_at (me_var (pv 0)) me_int) (ma_cons (me_globI (by rfl) g.i_LEAST_WIDE) (ma_cons (me_globI (by rfl) g.i_MOST_WIDE) ma_nil)))))))))
  (mss_one (ms_ret me_bl))
  mss_nil)
  (mss_cons (ms_if (mt_w (mw_or (mt_not (mt_val (me_call C.c_is_among hA hr tk (by rfl) (ma_cons (me_at (me_var (pv 0)) me_int) (ma_cons me_int (ma_cons (me_globI (by rfl) g.i_MOST_HIGH) ma_nil)))))) (mw_or1 (mt_not (mt_val (me_call C.c_is_row hA hr tk (by rfl) (ma_cons (me_at (me_var (pv 0)) me_int) (ma_cons me_int (ma_cons (me_globI (by rfl) g.i_MOST_LIGHTS) ma_nil)))))))))
  (mss_one (ms_ret me_bl))
  mss_nil)
  (mss_one (ms_ret (me_all rfl (by rfl) g.f_all (ma_cons (me_comp (own := [("light", 1)]) rfl nd (mi_seq (me_at (me_var (pv 0)) me_int)) (blkOk_by (N := ["thing", "light"]) (sc := defScope s_is_sky) (own := [("light", 1)]) (by decide +kernel)) (by decide) (fun _ _ _ _ _ => (mg_name (i := 1) nd rfl (by first | exact Or.inl rfl | exact Or.inr rfl))) (fun _ _ _ _ _ => mts_nil) (fun _ _ _ _ _ => (me_call C.c_is_light_of hA hr takes0 (by rfl) (ma_cons (me_var (pv 1)) (ma_cons (me_at (me_var (pv 0)) me_int) (ma_cons (me_at (me_var (pv 0)) me_int) ma_nil)))))) ma_nil))))))
theorem nd_need_sky : (["thing"] : List Str).Nodup := by decide +kernel
theorem sc_need_sky : FnScope ["thing"] ["thing"] (defScope s_need_sky) := ⟨rfl, rfl, rfl, nd_need_sky, rfl, by decide +kernel, by decide +kernel⟩
theorem ok_need_sky (g : GL K mg) (C : CL P w K mg base cf k) (hA : A.guards = some []) (hr : Room k (A.deeper (envOfC "need_sky" (defScope s_need_sky) s.heap.objs.size f cdv))) :
    MSs (cxOf (L2.CX P w) P w K mg base ["thing"] "need_sky" (defScope s_need_sky) f cdv A outer s H E) cf (fun c d _ H => E c d H) (defBody s_need_sky) F_need_sky :=
  have nd := nd_need_sky
  have tk : Takes (cxOf (L2.CX P w) P w K mg base ["thing"] "need_sky" (defScope s_need_sky) f cdv A outer s H E) (fun c d _ H => E c d H) := takes_of rfl rfl rfl rfl
  (mss_one (ms_if (mt_not (mt_val (me_call C.c_is_sky hA hr tk (by rfl) (ma_cons (me_var (pv 0)) ma_nil))))
  (mss_one ms_never)
  mss_nil))
theorem nd_is_item : (["sky", "thing", "deep", "one"] : List Str).Nodup := by decide +kernel
theorem sc_is_item : FnScope ["sky", "thing", "deep", "one"] ["sky", "thing", "deep"] (defScope s_is_item) := ⟨rfl, rfl, rfl, nd_is_item, rfl, by decide +kernel, by decide +kernel⟩
theorem ok_is_item (g : GL K mg) (C : CL P w K mg base cf k) (hA : A.guards = some []) (hr : Room k (A.deeper (envOfC "is_item" (defScope s_is_item) s.heap.objs.size f cdv))) :
    MSs (cxOf (L2.CX P w) P w K mg base ["sky", "thing", "deep", "one"] "is_item" (defScope s_is_item) f cdv A outer s H E) cf (fun c d _ H => E c d H) (defBody s_is_item) F_is_item :=
  have nd := nd_is_item
  have tk : Takes (cxOf (L2.CX P w) P w K mg base ["sky", "thing", "deep", "one"] "is_item" (defScope s_is_item) f cdv A outer s H E) (fun c d _ H => E c d H) := takes_of rfl rfl rfl rfl
  (mss_cons (ms_if (mt_w (mw_or (mt_not (mt_val (me_isi (T := "tuple") (by decide) (by rfl) g.f_isinstance (me_var (pv 1)) (pe_bltn (by rfl) g.f_tuple (by decide +kernel) rfl)))) (mw_or (mt_c (cm_eq hr) (me_var (pv 1)) (me_tup ma_nil) (by rfl)) (mw_or1 (mt_not (mt_val (me_isi (T := "str") (by decide) (by rfl) g.f_isinstance (me_at (me_var (pv 1)) me_int) (pe_bltn (by rfl) g.f_str (by decide +kernel) rfl))))))))
  (mss_one (ms_ret me_bl))
  mss_nil)
  (mss_cons (ms_if (mt_c (cm_eq hr) (me_at (me_var (pv 1)) me_int) me_str (by rfl))
  (mss_one (ms_ret (me_and (me_c (cm_eq hr) (me_len (by rfl) g.f_len (ma_cons (me_var (pv 1)) ma_nil)) me_int (by rfl)) (me_one (me_all rfl (by rfl) g.f_all (ma_cons (me_comp (own := [("one", 3)]) rfl nd (mi_seq (me_slice (me_var (pv 1)) (mo_some me_int) mo_none)) (blkOk_by (N := ["sky", "thing", "deep", "one"]) (sc := defScope s_is_item) (own := [("one", 3)]) (by decide +kernel)) (by decide) (fun _ _ _ _ _ => (mg_name (i := 3) nd rfl (by first | exact Or.inl rfl | exact Or.inr rfl))) (fun _ _ _ _ _ => mts_nil) (fun _ _ _ _ _ => (me_call C.c_is_among hA hr takes0 (by rfl) (ma_cons (me_var (pv 3)) (ma_cons (me_sub me_int (me_globI (by rfl) g.i_MOST_GO)) (ma_cons (me_globI (by rfl) g.i_MOST_GO) ma_nil)))))) ma_nil))))))
  mss_nil)
  (mss_cons (ms_if (mt_c (cm_eq hr) (me_at (me_var (pv 1)) me_int) me_str (by rfl))
  (mss_one (ms_ret (me_and (me_c (cm_eq hr) (me_len (by rfl) g.f_len (ma_cons (me_var (pv 1)) ma_nil)) me_int (by rfl)) (me_one (me_call C.c_is_among hA hr tk (by rfl) (ma_cons (me_at (me_var (pv 1)) me_int) (ma_cons me_int (ma_cons (me_sub (me_len (by rfl) g.f_len (ma_cons (me_at (me_var (pv 0)) me_int) ma_nil)) me_int) ma_nil))))))))
  mss_nil)
  (mss_cons (ms_if (mt_c (cm_eq hr) (me_at (me_var (pv 1)) me_int) (me_globS (by rfl) g.i_AGAIN) (by rfl))
  (mss_one (ms_ret (me_and (me_c (cm_eq hr) (me_len (by rfl) g.f_len (ma_cons (me_var (pv 1)) ma_nil)) me_int (by rfl)) (me_and (me_c cm_gt (me_var (pv 2)) me_int (by rfl)) (me_and (me_call C.c_is_among hA hr tk (by rfl) (ma_cons (me_at (me_var (pv 1)) me_int) (ma_cons me_int (ma_cons (me_globI (by rfl) g.i_MOST_TIMES) ma_nil)))) (me_one (me_call C.c_are_items hA hr tk (by rfl) (ma_cons (me_var (pv 0)) (ma_cons (me_at (me_var (pv 1)) me_int) (ma_cons (me_sub (me_var (pv 2)) me_int) ma_nil))))))))))
  mss_nil)
  (mss_one (ms_ret (me_c (cm_eq hr) (me_var (pv 1)) (me_tup (ma_cons me_str ma_nil)) (by rfl))))))))
theorem nd_are_items : (["sky", "thing", "deep", "one"] : List Str).Nodup := by decide +kernel
theorem sc_are_items : FnScope ["sky", "thing", "deep", "one"] ["sky", "thing", "deep"] (defScope s_are_items) := ⟨rfl, rfl, rfl, nd_are_items, rfl, by decide +kernel, by decide +kernel⟩
theorem ok_are_items (g : GL K mg) (C : CL P w K mg base cf k) (hA : A.guards = some []) (hr : Room k (A.deeper (envOfC "are_items" (defScope s_are_items) s.heap.objs.size f cdv))) :
    MSs (cxOf (L2.CX P w) P w K mg base ["sky", "thing", "deep", "one"] "are_items" (defScope s_are_items) f cdv A outer s H E) cf (fun c d _ H => E c d H) (defBody s_are_items) F_are_items :=
  have nd := nd_are_items
  have tk : Takes (cxOf (L2.CX P w) P w K mg base ["sky", "thing", "deep", "one"] "are_items" (defScope s_are_items) f cdv A outer s H E) (fun c d _ H => E c d H) := takes_of rfl rfl rfl rfl
  (mss_one (ms_ret (me_and (me_call C.c_is_row hA hr tk (by rfl) (ma_cons (me_var (pv 1)) (ma_cons me_int (ma_cons (me_globI (by rfl) g.i_MOST_ITEMS) ma_nil)))) (me_one (me_all rfl (by rfl) g.f_all (ma_cons (me_comp (own := [("one", 3)]) rfl nd (mi_seq (me_var (pv 1))) (blkOk_by (N := ["sky", "thing", "deep", "one"]) (sc := defScope s_are_items) (own := [("one", 3)]) (by decide +kernel)) (by decide) (fun _ _ _ _ _ => (mg_name (i := 3) nd rfl (by first | exact Or.inl rfl | exact Or.inr rfl))) (fun _ _ _ _ _ => mts_nil) (fun _ _ _ _ _ => (me_call C.c_is_item hA hr takes0 (by rfl) (ma_cons (me_var (pv 0)) (ma_cons (me_var (pv 3)) (ma_cons (me_var (pv 2)) ma_nil)))))) ma_nil))))))
theorem nd_size_of : (["items", "found", "item"] : List Str).Nodup := by decide +kernel
theorem sc_size_of : FnScope ["items", "found", "item"] ["items"] (defScope s_size_of) := ⟨rfl, rfl, rfl, nd_size_of, rfl, by decide +kernel, by decide +kernel⟩
theorem ok_size_of (g : GL K mg) (C : CL P w K mg base cf k) (hA : A.guards = some []) (hr : Room k (A.deeper (envOfC "size_of" (defScope s_size_of) s.heap.objs.size f cdv))) :
    MSs (cxOf (L2.CX P w) P w K mg base ["items", "found", "item"] "size_of" (defScope s_size_of) f cdv A outer s H E) cf (fun c d _ H => E c d H) (defBody s_size_of) F_size_of :=
  have nd := nd_size_of
  have tk : Takes (cxOf (L2.CX P w) P w K mg base ["items", "found", "item"] "size_of" (defScope s_size_of) f cdv A outer s H E) (fun c d _ H => E c d H) := takes_of rfl rfl rfl rfl
  (mss_cons (ms_set (i := 1) nd rfl (by first | exact Or.inl rfl | exact Or.inr rfl) me_int)
  (mss_cons (ms_for (passes_of rfl) rfl (mi_seq (me_var (pv 0))) (mg_name (i := 2) nd rfl (by first | exact Or.inl rfl | exact Or.inr rfl))
  (mss_one (ms_if (mt_c (cm_eq hr) (me_at (me_var (pv 2)) me_int) (me_globS (by rfl) g.i_AGAIN) (by rfl))
  (mss_one (ms_augAdd (i := 1) nd rfl (by first | exact Or.inl rfl | exact Or.inr rfl) (me_mul (me_at (me_var (pv 2)) me_int) (me_call C.c_size_of hA hr tk (by rfl) (ma_cons (me_at (me_var (pv 2)) me_int) ma_nil)))))
  (mss_one (ms_augAdd (i := 1) nd rfl (by first | exact Or.inl rfl | exact Or.inr rfl) (me_intc (by rfl) g.f_int (ma_cons (me_c (cm_ne hr) (me_at (me_var (pv 2)) me_int) me_str (by rfl)) ma_nil)))))))
  (mss_one (ms_ret (me_var (pv 1))))))
theorem nd_is_scene_by : (["sky", "thing"] : List Str).Nodup := by decide +kernel
theorem sc_is_scene_by : FnScope ["sky", "thing"] ["sky", "thing"] (defScope s_is_scene_by) := ⟨rfl, rfl, rfl, nd_is_scene_by, rfl, by decide +kernel, by decide +kernel⟩
theorem ok_is_scene_by (g : GL K mg) (C : CL P w K mg base cf k) (hA : A.guards = some []) (hr : Room k (A.deeper (envOfC "is_scene_by" (defScope s_is_scene_by) s.heap.objs.size f cdv))) :
    MSs (cxOf (L2.CX P w) P w K mg base ["sky", "thing"] "is_scene_by" (defScope s_is_scene_by) f cdv A outer s H E) cf (fun c d _ H => E c d H) (defBody s_is_scene_by) F_is_scene_by :=
  have nd := nd_is_scene_by
  have tk : Takes (cxOf (L2.CX P w) P w K mg base ["sky", "thing"] "is_scene_by" (defScope s_is_scene_by) f cdv A outer s H E) (fun c d _ H => E c d H) := takes_of rfl rfl rfl rfl
  (mss_one (ms_ret (me_and (me_call C.c_are_items hA hr tk (by rfl) (ma_cons (me_var (pv 0)) (ma_cons (me_var (pv 1)) (ma_cons (me_globI (by rfl) g.i_MOST_DEEP) ma_nil)))) (me_one (me_c cm_le (me_call C.c_size_of hA hr tk (by rfl) (ma_cons (me_var (pv 1)) ma_nil)) (me_globI (by rfl) g.i_MOST_BEATS) (by rfl))))))
theorem nd_need_scene : (["sky", "thing"] : List Str).Nodup := by decide +kernel
theorem sc_need_scene : FnScope ["sky", "thing"] ["sky", "thing"] (defScope s_need_scene) := ⟨rfl, rfl, rfl, nd_need_scene, rfl, by decide +kernel, by decide +kernel⟩
theorem ok_need_scene (g : GL K mg) (C : CL P w K mg base cf k) (hA : A.guards = some []) (hr : Room k (A.deeper (envOfC "need_scene" (defScope s_need_scene) s.heap.objs.size f cdv))) :
    MSs (cxOf (L2.CX P w) P w K mg base ["sky", "thing"] "need_scene" (defScope s_need_scene) f cdv A outer s H E) cf (fun c d _ H => E c d H) (defBody s_need_scene) F_need_scene :=
  have nd := nd_need_scene
  have tk : Takes (cxOf (L2.CX P w) P w K mg base ["sky", "thing"] "need_scene" (defScope s_need_scene) f cdv A outer s H E) (fun c d _ H => E c d H) := takes_of rfl rfl rfl rfl
  (mss_one (ms_if (mt_not (mt_val (me_call C.c_is_scene_by hA hr tk (by rfl) (ma_cons (me_var (pv 0)) (ma_cons (me_var (pv 1)) ma_nil)))))
  (mss_one ms_never)
  mss_nil))
theorem nd_need_both_scenes : (["sky", "scene"] : List Str).Nodup := by decide +kernel
theorem sc_need_both_scenes : FnScope ["sky", "scene"] ["sky", "scene"] (defScope s_need_both_scenes) := ⟨rfl, rfl, rfl, nd_need_both_scenes, rfl, by decide +kernel, by decide +kernel⟩
theorem ok_need_both_scenes (g : GL K mg) (C : CL P w K mg base cf k) (hA : A.guards = some []) (hr : Room k (A.deeper (envOfC "need_both" (defScope s_need_both_scenes) s.heap.objs.size f cdv))) :
    MSs (cxOf (L2.CX P w) P w K mg base ["sky", "scene"] "need_both" (defScope s_need_both_scenes) f cdv A outer s H E) cf (fun c d _ H => E c d H) (defBody s_need_both_scenes) F_need_both_scenes :=
  have nd := nd_need_both_scenes
  have tk : Takes (cxOf (L2.CX P w) P w K mg base ["sky", "scene"] "need_both" (defScope s_need_both_scenes) f cdv A outer s H E) (fun c d _ H => E c d H) := takes_of rfl rfl rfl rfl
  (mss_cons (ms_expr (me_call C.c_need_sky hA hr tk (by rfl) (ma_cons (me_var (pv 0)) ma_nil)))
  (mss_one (ms_expr (me_call C.c_need_scene hA hr tk (by rfl) (ma_cons (me_var (pv 0)) (ma_cons (me_var (pv 1)) ma_nil))))))
theorem nd_beats_of : (["sky", "scene"] : List Str).Nodup := by decide +kernel
theorem sc_beats_of : FnScope ["sky", "scene"] ["sky", "scene"] (defScope s_beats_of) := ⟨rfl, rfl, rfl, nd_beats_of, rfl, by decide +kernel, by decide +kernel⟩
theorem ok_beats_of (g : GL K mg) (C : CL P w K mg base cf k) (hA : A.guards = some []) (hr : Room k (A.deeper (envOfC "beats_of" (defScope s_beats_of) s.heap.objs.size f cdv))) :
    MSs (cxOf (L2.CX P w) P w K mg base ["sky", "scene"] "beats_of" (defScope s_beats_of) f cdv A outer s H E) cf (fun c d _ H => E c d H) (defBody s_beats_of) F_beats_of :=
  have nd := nd_beats_of
  have tk : Takes (cxOf (L2.CX P w) P w K mg base ["sky", "scene"] "beats_of" (defScope s_beats_of) f cdv A outer s H E) (fun c d _ H => E c d H) := takes_of rfl rfl rfl rfl
  (mss_cons (ms_expr (me_call C.c_need_both_scenes hA hr tk (by rfl) (ma_cons (me_var (pv 0)) (ma_cons (me_var (pv 1)) ma_nil))))
  (mss_one (ms_ret (me_call C.c_size_of hA hr tk (by rfl) (ma_cons (me_var (pv 1)) ma_nil)))))
theorem nd_marks_in : (["items", "found", "item"] : List Str).Nodup := by decide +kernel
theorem sc_marks_in : FnScope ["items", "found", "item"] ["items"] (defScope s_marks_in) := ⟨rfl, rfl, rfl, nd_marks_in, rfl, by decide +kernel, by decide +kernel⟩
theorem ok_marks_in (g : GL K mg) (C : CL P w K mg base cf k) (hA : A.guards = some []) (hr : Room k (A.deeper (envOfC "marks_in" (defScope s_marks_in) s.heap.objs.size f cdv))) :
    MSs (cxOf (L2.CX P w) P w K mg base ["items", "found", "item"] "marks_in" (defScope s_marks_in) f cdv A outer s H E) cf (fun c d _ H => E c d H) (defBody s_marks_in) F_marks_in :=
  have nd := nd_marks_in
  have tk : Takes (cxOf (L2.CX P w) P w K mg base ["items", "found", "item"] "marks_in" (defScope s_marks_in) f cdv A outer s H E) (fun c d _ H => E c d H) := takes_of rfl rfl rfl rfl
  (mss_cons (ms_set (i := 1) nd rfl (by first | exact Or.inl rfl | exact Or.inr rfl) me_int)
  (mss_cons (ms_for (passes_of rfl) rfl (mi_seq (me_var (pv 0))) (mg_name (i := 2) nd rfl (by first | exact Or.inl rfl | exact Or.inr rfl))
  (mss_one (ms_if (mt_c (cm_eq hr) (me_at (me_var (pv 2)) me_int) (me_globS (by rfl) g.i_AGAIN) (by rfl))
  (mss_one (ms_augAdd (i := 1) nd rfl (by first | exact Or.inl rfl | exact Or.inr rfl) (me_mul (me_at (me_var (pv 2)) me_int) (me_call C.c_marks_in hA hr tk (by rfl) (ma_cons (me_at (me_var (pv 2)) me_int) ma_nil)))))
  (mss_one (ms_augAdd (i := 1) nd rfl (by first | exact Or.inl rfl | exact Or.inr rfl) (me_intc (by rfl) g.f_int (ma_cons (me_c (cm_eq hr) (me_at (me_var (pv 2)) me_int) me_str (by rfl)) ma_nil)))))))
  (mss_one (ms_ret (me_var (pv 1))))))
theorem nd_marks_of : (["sky", "scene"] : List Str).Nodup := by decide +kernel
theorem sc_marks_of : FnScope ["sky", "scene"] ["sky", "scene"] (defScope s_marks_of) := ⟨rfl, rfl, rfl, nd_marks_of, rfl, by decide +kernel, by decide +kernel⟩
theorem ok_marks_of (g : GL K mg) (C : CL P w K mg base cf k) (hA : A.guards = some []) (hr : Room k (A.deeper (envOfC "marks_of" (defScope s_marks_of) s.heap.objs.size f cdv))) :
    MSs (cxOf (L2.CX P w) P w K mg base ["sky", "scene"] "marks_of" (defScope s_marks_of) f cdv A outer s H E) cf (fun c d _ H => E c d H) (defBody s_marks_of) F_marks_of :=
  have nd := nd_marks_of
  have tk : Takes (cxOf (L2.CX P w) P w K mg base ["sky", "scene"] "marks_of" (defScope s_marks_of) f cdv A outer s H E) (fun c d _ H => E c d H) := takes_of rfl rfl rfl rfl
  (mss_cons (ms_expr (me_call C.c_need_both_scenes hA hr tk (by rfl) (ma_cons (me_var (pv 0)) (ma_cons (me_var (pv 1)) ma_nil))))
  (mss_one (ms_ret (me_call C.c_marks_in hA hr tk (by rfl) (ma_cons (me_var (pv 1)) ma_nil)))))
theorem nd_about : (["items", "found", "item", "one"] : List Str).Nodup := by decide +kernel
theorem sc_about : FnScope ["items", "found", "item", "one"] ["items"] (defScope s_about) := ⟨rfl, rfl, rfl, nd_about, rfl, by decide +kernel, by decide +kernel⟩
theorem ok_about (g : GL K mg) (C : CL P w K mg base cf k) (hA : A.guards = some []) (hr : Room k (A.deeper (envOfC "about" (defScope s_about) s.heap.objs.size f cdv))) :
    MSs (cxOf (L2.CX P w) P w K mg base ["items", "found", "item", "one"] "about" (defScope s_about) f cdv A outer s H E) cf (fun c d _ H => E c d H) (defBody s_about) F_about :=
  have nd := nd_about
  have tk : Takes (cxOf (L2.CX P w) P w K mg base ["items", "found", "item", "one"] "about" (defScope s_about) f cdv A outer s H E) (fun c d _ H => E c d H) := takes_of rfl rfl rfl rfl
  (mss_cons (ms_new (i := 1) nd rfl (by first | exact Or.inl rfl | exact Or.inr rfl) ma_nil)
  (mss_cons (ms_for (passes_of rfl) rfl (mi_seq (me_rev (me_var (pv 0)))) (mg_name (i := 2) nd rfl (by first | exact Or.inl rfl | exact Or.inr rfl))
  (mss_cons (ms_if (mt_c (cm_eq hr) (me_at (me_var (pv 2)) me_int) me_str (by rfl))
  (mss_one (ms_set (i := 2) nd rfl (by first | exact Or.inl rfl | exact Or.inr rfl) (me_add (me_tup (ma_cons me_str ma_nil)) (me_tuple (by rfl) g.f_tuple (ma_cons (me_comp (own := [("one", 3)]) rfl nd (mi_seq (me_slice (me_var (pv 2)) (mo_some me_int) mo_none)) (blkOk_by (N := ["items", "found", "item", "one"]) (sc := defScope s_about) (own := [("one", 3)]) (by decide +kernel)) (by decide) (fun _ _ _ _ _ => (mg_name (i := 3) nd rfl (by first | exact Or.inl rfl | exact Or.inr rfl))) (fun _ _ _ _ _ => mts_nil) (fun _ _ _ _ _ => (me_sub me_int (me_var (pv 3))))) ma_nil)))))
  (mss_one (ms_if (mt_c (cm_eq hr) (me_at (me_var (pv 2)) me_int) (me_globS (by rfl) g.i_AGAIN) (by rfl))
  (mss_one (ms_set (i := 2) nd rfl (by first | exact Or.inl rfl | exact Or.inr rfl) (me_add (me_slice (me_var (pv 2)) mo_none (mo_some me_int)) (me_tup (ma_cons (me_call C.c_about hA hr tk (by rfl) (ma_cons (me_at (me_var (pv 2)) me_int) ma_nil)) ma_nil)))))
  mss_nil)))
  (mss_one (ms_app (pv 1) (me_var (pv 2))))))
  (mss_one (ms_ret (me_tuple (by rfl) g.f_tuple (ma_one (me_own (pv 1))))))))
theorem nd_turned_about : (["sky", "scene"] : List Str).Nodup := by decide +kernel
theorem sc_turned_about : FnScope ["sky", "scene"] ["sky", "scene"] (defScope s_turned_about) := ⟨rfl, rfl, rfl, nd_turned_about, rfl, by decide +kernel, by decide +kernel⟩
theorem ok_turned_about (g : GL K mg) (C : CL P w K mg base cf k) (hA : A.guards = some []) (hr : Room k (A.deeper (envOfC "turned_about" (defScope s_turned_about) s.heap.objs.size f cdv))) :
    MSs (cxOf (L2.CX P w) P w K mg base ["sky", "scene"] "turned_about" (defScope s_turned_about) f cdv A outer s H E) cf (fun c d _ H => E c d H) (defBody s_turned_about) F_turned_about :=
  have nd := nd_turned_about
  have tk : Takes (cxOf (L2.CX P w) P w K mg base ["sky", "scene"] "turned_about" (defScope s_turned_about) f cdv A outer s H E) (fun c d _ H => E c d H) := takes_of rfl rfl rfl rfl
  (mss_cons (ms_expr (me_call C.c_need_both_scenes hA hr tk (by rfl) (ma_cons (me_var (pv 0)) (ma_cons (me_var (pv 1)) ma_nil))))
  (mss_one (ms_ret (me_call C.c_about hA hr tk (by rfl) (ma_cons (me_var (pv 1)) ma_nil)))))
theorem nd_is_tune : (["thing", "bar"] : List Str).Nodup := by decide +kernel
theorem sc_is_tune : FnScope ["thing", "bar"] ["thing"] (defScope s_is_tune) := ⟨rfl, rfl, rfl, nd_is_tune, rfl, by decide +kernel, by decide +kernel⟩
theorem ok_is_tune (g : GL K mg) (C : CL P w K mg base cf k) (hA : A.guards = some []) (hr : Room k (A.deeper (envOfC "is_tune" (defScope s_is_tune) s.heap.objs.size f cdv))) :
    MSs (cxOf (L2.CX P w) P w K mg base ["thing", "bar"] "is_tune" (defScope s_is_tune) f cdv A outer s H E) cf (fun c d _ H => E c d H) (defBody s_is_tune) F_is_tune :=
  have nd := nd_is_tune
  have tk : Takes (cxOf (L2.CX P w) P w K mg base ["thing", "bar"] "is_tune" (defScope s_is_tune) f cdv A outer s H E) (fun c d _ H => E c d H) := takes_of rfl rfl rfl rfl
  (mss_one (ms_ret (me_and (me_call C.c_is_row hA hr tk (by rfl) (ma_cons (me_var (pv 0)) (ma_cons me_int (ma_cons (me_globI (by rfl) g.i_MOST_BARS) ma_nil)))) (me_one (me_all rfl (by rfl) g.f_all (ma_cons (me_comp (own := [("bar", 1)]) rfl nd (mi_seq (me_var (pv 0))) (blkOk_by (N := ["thing", "bar"]) (sc := defScope s_is_tune) (own := [("bar", 1)]) (by decide +kernel)) (by decide) (fun _ _ _ _ _ => (mg_name (i := 1) nd rfl (by first | exact Or.inl rfl | exact Or.inr rfl))) (fun _ _ _ _ _ => mts_nil) (fun _ _ _ _ _ => (me_call C.c_is_among hA hr takes0 (by rfl) (ma_cons (me_var (pv 1)) (ma_cons me_int (ma_cons (me_globI (by rfl) g.i_MOST_LONG) ma_nil)))))) ma_nil))))))
theorem nd_need_tune : (["thing"] : List Str).Nodup := by decide +kernel
theorem sc_need_tune : FnScope ["thing"] ["thing"] (defScope s_need_tune) := ⟨rfl, rfl, rfl, nd_need_tune, rfl, by decide +kernel, by decide +kernel⟩
theorem ok_need_tune (g : GL K mg) (C : CL P w K mg base cf k) (hA : A.guards = some []) (hr : Room k (A.deeper (envOfC "need_tune" (defScope s_need_tune) s.heap.objs.size f cdv))) :
    MSs (cxOf (L2.CX P w) P w K mg base ["thing"] "need_tune" (defScope s_need_tune) f cdv A outer s H E) cf (fun c d _ H => E c d H) (defBody s_need_tune) F_need_tune :=
  have nd := nd_need_tune
  have tk : Takes (cxOf (L2.CX P w) P w K mg base ["thing"] "need_tune" (defScope s_need_tune) f cdv A outer s H E) (fun c d _ H => E c d H) := takes_of rfl rfl rfl rfl
  (mss_one (ms_if (mt_not (mt_val (me_call C.c_is_tune hA hr tk (by rfl) (ma_cons (me_var (pv 0)) ma_nil))))
  (mss_one ms_never)
  mss_nil))
theorem nd_begins_of : (["tune", "number"] : List Str).Nodup := by decide +kernel
theorem sc_begins_of : FnScope ["tune", "number"] ["tune"] (defScope s_begins_of) := ⟨rfl, rfl, rfl, nd_begins_of, rfl, by decide +kernel, by decide +kernel⟩
theorem ok_begins_of (g : GL K mg) (C : CL P w K mg base cf k) (hA : A.guards = some []) (hr : Room k (A.deeper (envOfC "begins_of" (defScope s_begins_of) s.heap.objs.size f cdv))) :
    MSs (cxOf (L2.CX P w) P w K mg base ["tune", "number"] "begins_of" (defScope s_begins_of) f cdv A outer s H E) cf (fun c d _ H => E c d H) (defBody s_begins_of) F_begins_of :=
  have nd := nd_begins_of
  have tk : Takes (cxOf (L2.CX P w) P w K mg base ["tune", "number"] "begins_of" (defScope s_begins_of) f cdv A outer s H E) (fun c d _ H => E c d H) := takes_of rfl rfl rfl rfl
  (mss_one (ms_ret (me_comp (own := [("number", 1)]) rfl nd (mi_range1 (by rfl) g.f_range (ma_cons (me_len (by rfl) g.f_len (ma_cons (me_var (pv 0)) ma_nil)) ma_nil)) (blkOk_by (N := ["tune", "number"]) (sc := defScope s_begins_of) (own := [("number", 1)]) (by decide +kernel)) (by decide) (fun _ _ _ _ _ => (mg_name (i := 1) nd rfl (by first | exact Or.inl rfl | exact Or.inr rfl))) (fun _ _ _ _ _ => mts_nil) (fun _ _ _ _ _ => (me_sum rfl (by rfl) g.f_sum (ma_cons (me_slice (me_var (pv 0)) mo_none (mo_some (me_var (pv 1)))) ma_nil))))))
theorem nd_marks_by : (["items", "whole", "found", "ahead", "item", "inner", "long", "turn", "left"] : List Str).Nodup := by decide +kernel
theorem sc_marks_by : FnScope ["items", "whole", "found", "ahead", "item", "inner", "long", "turn", "left"] ["items", "whole"] (defScope s_marks_by) := ⟨rfl, rfl, rfl, nd_marks_by, rfl, by decide +kernel, by decide +kernel⟩
theorem ok_marks_by (g : GL K mg) (C : CL P w K mg base cf k) (hA : A.guards = some []) (hr : Room k (A.deeper (envOfC "marks_by" (defScope s_marks_by) s.heap.objs.size f cdv))) :
    MSs (cxOf (L2.CX P w) P w K mg base ["items", "whole", "found", "ahead", "item", "inner", "long", "turn", "left"] "marks_by" (defScope s_marks_by) f cdv A outer s H E) cf (fun c d _ H => E c d H) (defBody s_marks_by) F_marks_by :=
  have nd := nd_marks_by
  have tk : Takes (cxOf (L2.CX P w) P w K mg base ["items", "whole", "found", "ahead", "item", "inner", "long", "turn", "left"] "marks_by" (defScope s_marks_by) f cdv A outer s H E) (fun c d _ H => E c d H) := takes_of rfl rfl rfl rfl
  (mss_cons (ms_parX (is := [2, 3]) rfl (mao_od (mao_p me_int mao_nil)) (pgs_cons (pg_name (i := 2) nd rfl (by first | exact Or.inl rfl | exact Or.inr rfl)) (pgs_cons (pg_name (i := 3) nd rfl (by first | exact Or.inl rfl | exact Or.inr rfl)) pgs_nil)))
  (mss_cons (ms_for (passes_of rfl) rfl (mi_seq (me_var (pv 0))) (mg_name (i := 4) nd rfl (by first | exact Or.inl rfl | exact Or.inr rfl))
  (mss_one (ms_if (mt_c (cm_eq hr) (me_at (me_var (pv 4)) me_int) me_str (by rfl))
  (mss_one (ms_putD hr (pv 2) (me_var (pv 3)) me_bl))
  (mss_one (ms_if (mt_c (cm_eq hr) (me_at (me_var (pv 4)) me_int) me_str (by rfl))
  (mss_cons (ms_unp (me_call C.c_marks_by hA hr tk (by rfl) (ma_cons (me_at (me_var (pv 4)) me_int) (ma_cons (me_var (pv 1)) ma_nil))) (mg_names rfl (mgs_cons (mg_name (i := 5) nd rfl (by first | exact Or.inl rfl | exact Or.inr rfl)) (mgs_cons (mg_name (i := 6) nd rfl (by first | exact Or.inl rfl | exact Or.inr rfl)) mgs_nil))))
  (mss_cons (ms_for (passes_of rfl) rfl (mi_range1 (by rfl) g.f_range (ma_cons (me_min2 rfl (by rfl) g.f_min (ma_cons (me_at (me_var (pv 4)) me_int) (ma_cons (me_var (pv 1)) ma_nil))) ma_nil)) (mg_name (i := 7) nd rfl (by first | exact Or.inl rfl | exact Or.inr rfl))
  (mss_one (ms_upd (pv 2) (me_dcomp (own := [("left", 8)]) (fun _ _ _ => rfl) rfl nd (mi_seqD (me_var (pv 5))) (blkOk_by (N := ["items", "whole", "found", "ahead", "item", "inner", "long", "turn", "left"]) (sc := defScope s_marks_by) (own := [("left", 8)]) (by decide +kernel)) (by decide) (fun _ _ _ _ _ => (mg_name (i := 8) nd rfl (by first | exact Or.inl rfl | exact Or.inr rfl))) (fun _ _ _ _ _ => mts_nil) (fun _ _ _ _ _ => (me_mod (me_add (me_add (me_var (pv 3)) (me_mul (me_var (pv 7)) (me_var (pv 6)))) (me_var (pv 8))) (me_var (pv 1)))) (fun _ _ _ _ _ => me_bl)))))
  (mss_one (ms_set (i := 3) nd rfl (by first | exact Or.inl rfl | exact Or.inr rfl) (me_mod (me_add (me_var (pv 3)) (me_mul (me_at (me_var (pv 4)) me_int) (me_var (pv 6)))) (me_var (pv 1)))))))
  (mss_one (ms_set (i := 3) nd rfl (by first | exact Or.inl rfl | exact Or.inr rfl) (me_mod (me_add (me_var (pv 3)) me_int) (me_var (pv 1))))))))))
  (mss_freezeD (mss_one (ms_ret (me_tup (ma_cons (me_var (pv 2)) (ma_cons (me_var (pv 3)) ma_nil))))))))
theorem nd_need_both_tunes : (["sky", "scene", "tune"] : List Str).Nodup := by decide +kernel
theorem sc_need_both_tunes : FnScope ["sky", "scene", "tune"] ["sky", "scene", "tune"] (defScope s_need_both_tunes) := ⟨rfl, rfl, rfl, nd_need_both_tunes, rfl, by decide +kernel, by decide +kernel⟩
theorem ok_need_both_tunes (g : GL K mg) (C : CL P w K mg base cf k) (hA : A.guards = some []) (hr : Room k (A.deeper (envOfC "need_both" (defScope s_need_both_tunes) s.heap.objs.size f cdv))) :
    MSs (cxOf (L2.CX P w) P w K mg base ["sky", "scene", "tune"] "need_both" (defScope s_need_both_tunes) f cdv A outer s H E) cf (fun c d _ H => E c d H) (defBody s_need_both_tunes) F_need_both_tunes :=
  have nd := nd_need_both_tunes
  have tk : Takes (cxOf (L2.CX P w) P w K mg base ["sky", "scene", "tune"] "need_both" (defScope s_need_both_tunes) f cdv A outer s H E) (fun c d _ H => E c d H) := takes_of rfl rfl rfl rfl
  (mss_cons (ms_expr (me_call C.c_need_sky hA hr tk (by rfl) (ma_cons (me_var (pv 0)) ma_nil)))
  (mss_cons (ms_expr (me_call C.c_need_scene hA hr tk (by rfl) (ma_cons (me_var (pv 0)) (ma_cons (me_var (pv 1)) ma_nil))))
  (mss_one (ms_expr (me_call C.c_need_tune hA hr tk (by rfl) (ma_cons (me_var (pv 2)) ma_nil))))))
theorem nd_lefts_by : (["scene", "tune"] : List Str).Nodup := by decide +kernel
theorem sc_lefts_by : FnScope ["scene", "tune"] ["scene", "tune"] (defScope s_lefts_by) := ⟨rfl, rfl, rfl, nd_lefts_by, rfl, by decide +kernel, by decide +kernel⟩
theorem ok_lefts_by (g : GL K mg) (C : CL P w K mg base cf k) (hA : A.guards = some []) (hr : Room k (A.deeper (envOfC "lefts_by" (defScope s_lefts_by) s.heap.objs.size f cdv))) :
    MSs (cxOf (L2.CX P w) P w K mg base ["scene", "tune"] "lefts_by" (defScope s_lefts_by) f cdv A outer s H E) cf (fun c d _ H => E c d H) (defBody s_lefts_by) F_lefts_by :=
  have nd := nd_lefts_by
  have tk : Takes (cxOf (L2.CX P w) P w K mg base ["scene", "tune"] "lefts_by" (defScope s_lefts_by) f cdv A outer s H E) (fun c d _ H => E c d H) := takes_of rfl rfl rfl rfl
  (mss_one (ms_ret (me_sortedDA rfl (by rfl) g.f_sorted (ma_cons (me_at (me_call C.c_marks_by hA hr tk (by rfl) (ma_cons (me_var (pv 0)) (ma_cons (me_sum rfl (by rfl) g.f_sum (ma_cons (me_var (pv 1)) ma_nil)) ma_nil))) me_int) ma_nil))))
theorem nd_marks_left : (["sky", "scene", "tune"] : List Str).Nodup := by decide +kernel
theorem sc_marks_left : FnScope ["sky", "scene", "tune"] ["sky", "scene", "tune"] (defScope s_marks_left) := ⟨rfl, rfl, rfl, nd_marks_left, rfl, by decide +kernel, by decide +kernel⟩
theorem ok_marks_left (g : GL K mg) (C : CL P w K mg base cf k) (hA : A.guards = some []) (hr : Room k (A.deeper (envOfC "marks_left" (defScope s_marks_left) s.heap.objs.size f cdv))) :
    MSs (cxOf (L2.CX P w) P w K mg base ["sky", "scene", "tune"] "marks_left" (defScope s_marks_left) f cdv A outer s H E) cf (fun c d _ H => E c d H) (defBody s_marks_left) F_marks_left :=
  have nd := nd_marks_left
  have tk : Takes (cxOf (L2.CX P w) P w K mg base ["sky", "scene", "tune"] "marks_left" (defScope s_marks_left) f cdv A outer s H E) (fun c d _ H => E c d H) := takes_of rfl rfl rfl rfl
  (mss_cons (ms_expr (me_call C.c_need_both_tunes hA hr tk (by rfl) (ma_cons (me_var (pv 0)) (ma_cons (me_var (pv 1)) (ma_cons (me_var (pv 2)) ma_nil)))))
  (mss_one (ms_ret (me_tuple (by rfl) g.f_tuple (ma_cons (me_call C.c_lefts_by hA hr tk (by rfl) (ma_cons (me_var (pv 1)) (ma_cons (me_var (pv 2)) ma_nil))) ma_nil)))))
theorem nd_is_tied : (["tune", "left", "lead"] : List Str).Nodup := by decide +kernel
theorem sc_is_tied : FnScope ["tune", "left", "lead"] ["tune", "left", "lead"] (defScope s_is_tied) := ⟨rfl, rfl, rfl, nd_is_tied, rfl, by decide +kernel, by decide +kernel⟩
theorem ok_is_tied (g : GL K mg) (C : CL P w K mg base cf k) (hA : A.guards = some []) (hr : Room k (A.deeper (envOfC "is_tied" (defScope s_is_tied) s.heap.objs.size f cdv))) :
    MSs (cxOf (L2.CX P w) P w K mg base ["tune", "left", "lead"] "is_tied" (defScope s_is_tied) f cdv A outer s H E) cf (fun c d _ H => E c d H) (defBody s_is_tied) F_is_tied :=
  have nd := nd_is_tied
  have tk : Takes (cxOf (L2.CX P w) P w K mg base ["tune", "left", "lead"] "is_tied" (defScope s_is_tied) f cdv A outer s H E) (fun c d _ H => E c d H) := takes_of rfl rfl rfl rfl
  (mss_one (ms_ret (me_c (cm_in hr) (me_mod (me_add (me_var (pv 1)) (me_var (pv 2))) (me_sum rfl (by rfl) g.f_sum (ma_cons (me_var (pv 0)) ma_nil))) (me_call C.c_begins_of hA hr tk (by rfl) (ma_cons (me_var (pv 0)) ma_nil)) (by rfl))))
theorem nd_loose_by : (["tune", "lefts", "lead", "left"] : List Str).Nodup := by decide +kernel
theorem sc_loose_by : FnScope ["tune", "lefts", "lead", "left"] ["tune", "lefts", "lead"] (defScope s_loose_by) := ⟨rfl, rfl, rfl, nd_loose_by, rfl, by decide +kernel, by decide +kernel⟩
theorem ok_loose_by (g : GL K mg) (C : CL P w K mg base cf k) (hA : A.guards = some []) (hr : Room k (A.deeper (envOfC "loose_by" (defScope s_loose_by) s.heap.objs.size f cdv))) :
    MSs (cxOf (L2.CX P w) P w K mg base ["tune", "lefts", "lead", "left"] "loose_by" (defScope s_loose_by) f cdv A outer s H E) cf (fun c d _ H => E c d H) (defBody s_loose_by) F_loose_by :=
  have nd := nd_loose_by
  have tk : Takes (cxOf (L2.CX P w) P w K mg base ["tune", "lefts", "lead", "left"] "loose_by" (defScope s_loose_by) f cdv A outer s H E) (fun c d _ H => E c d H) := takes_of rfl rfl rfl rfl
  (mss_one (ms_ret (me_comp (own := [("left", 3)]) rfl nd (mi_seq (me_var (pv 1))) (blkOk_by (N := ["tune", "lefts", "lead", "left"]) (sc := defScope s_loose_by) (own := [("left", 3)]) (by decide +kernel)) (by decide) (fun _ _ _ _ _ => (mg_name (i := 3) nd rfl (by first | exact Or.inl rfl | exact Or.inr rfl))) (fun _ _ _ _ _ => (mts_one (mt_not (mt_val (me_call C.c_is_tied hA hr takes0 (by rfl) (ma_cons (me_var (pv 0)) (ma_cons (me_var (pv 3)) (ma_cons (me_var (pv 2)) ma_nil)))))))) (fun _ _ _ _ _ => (me_var (pv 3))))))
theorem nd_tied : (["sky", "scene", "tune", "lefts", "rows", "lead", "row"] : List Str).Nodup := by decide +kernel
theorem sc_tied : FnScope ["sky", "scene", "tune", "lefts", "rows", "lead", "row"] ["sky", "scene", "tune"] (defScope s_tied) := ⟨rfl, rfl, rfl, nd_tied, rfl, by decide +kernel, by decide +kernel⟩
theorem ok_tied (g : GL K mg) (C : CL P w K mg base cf k) (hA : A.guards = some []) (hr : Room k (A.deeper (envOfC "tied" (defScope s_tied) s.heap.objs.size f cdv))) :
    MSs (cxOf (L2.CX P w) P w K mg base ["sky", "scene", "tune", "lefts", "rows", "lead", "row"] "tied" (defScope s_tied) f cdv A outer s H E) cf (fun c d _ H => E c d H) (defBody s_tied) F_tied :=
  have nd := nd_tied
  have tk : Takes (cxOf (L2.CX P w) P w K mg base ["sky", "scene", "tune", "lefts", "rows", "lead", "row"] "tied" (defScope s_tied) f cdv A outer s H E) (fun c d _ H => E c d H) := takes_of rfl rfl rfl rfl
  (mss_cons (ms_expr (me_call C.c_need_both_tunes hA hr tk (by rfl) (ma_cons (me_var (pv 0)) (ma_cons (me_var (pv 1)) (ma_cons (me_var (pv 2)) ma_nil)))))
  (mss_cons (ms_set (i := 3) nd rfl (by first | exact Or.inl rfl | exact Or.inr rfl) (me_call C.c_lefts_by hA hr tk (by rfl) (ma_cons (me_var (pv 1)) (ma_cons (me_var (pv 2)) ma_nil))))
  (mss_cons (ms_setComp (i := 4) (own := [("lead", 5)]) rfl nd rfl rfl (sw_true rfl rfl rfl (by decide +kernel)) (mi_range1 (by rfl) g.f_range (ma_cons (me_sum rfl (by rfl) g.f_sum (ma_cons (me_var (pv 2)) ma_nil)) ma_nil)) (blkOk_by (N := ["sky", "scene", "tune", "lefts", "rows", "lead", "row"]) (sc := defScope s_tied) (own := [("lead", 5)]) (by decide +kernel)) (by decide) (fun _ _ _ _ _ => (mg_name (i := 5) nd rfl (by first | exact Or.inl rfl | exact Or.inr rfl))) (fun _ _ _ _ _ => mts_nil) (fun _ _ _ _ _ => (me_call C.c_loose_by hA hr takes0 (by rfl) (ma_cons (me_var (pv 2)) (ma_cons (me_var (pv 3)) (ma_cons (me_var (pv 5)) ma_nil))))))
  (mss_cons (ms_if (mt_c (cm_in hr) (me_lst ma_nil) (me_var (pv 4)) (by rfl))
  (mss_one (ms_ret (me_tup (ma_cons (me_globS (by rfl) g.i_TIED) (ma_cons (me_idx hr (me_var (pv 4)) (me_lst ma_nil)) ma_nil)))))
  mss_nil)
  (mss_one (ms_ret (me_tup (ma_cons (me_globS (by rfl) g.i_NEVER) (ma_cons (me_tuple (by rfl) g.f_tuple (ma_cons (me_comp (own := [("row", 6)]) rfl nd (mi_seq (me_var (pv 4))) (blkOk_by (N := ["sky", "scene", "tune", "lefts", "rows", "lead", "row"]) (sc := defScope s_tied) (own := [("row", 6)]) (by decide +kernel)) (by decide) (fun _ _ _ _ _ => (mg_name (i := 6) nd rfl (by first | exact Or.inl rfl | exact Or.inr rfl))) (fun _ _ _ _ _ => mts_nil) (fun _ _ _ _ _ => (me_at (me_var (pv 6)) me_int))) ma_nil)) ma_nil)))))))))
theorem nd_shows_tied : (["sky", "scene", "tune", "thing", "lefts", "whole", "lead", "left"] : List Str).Nodup := by decide +kernel
theorem sc_shows_tied : FnScope ["sky", "scene", "tune", "thing", "lefts", "whole", "lead", "left"] ["sky", "scene", "tune", "thing"] (defScope s_shows_tied) := ⟨rfl, rfl, rfl, nd_shows_tied, rfl, by decide +kernel, by decide +kernel⟩
theorem ok_shows_tied (g : GL K mg) (C : CL P w K mg base cf k) (hA : A.guards = some []) (hr : Room k (A.deeper (envOfC "shows_tied" (defScope s_shows_tied) s.heap.objs.size f cdv))) :
    MSs (cxOf (L2.CX P w) P w K mg base ["sky", "scene", "tune", "thing", "lefts", "whole", "lead", "left"] "shows_tied" (defScope s_shows_tied) f cdv A outer s H E) cf (fun c d _ H => E c d H) (defBody s_shows_tied) F_shows_tied :=
  have nd := nd_shows_tied
  have tk : Takes (cxOf (L2.CX P w) P w K mg base ["sky", "scene", "tune", "thing", "lefts", "whole", "lead", "left"] "shows_tied" (defScope s_shows_tied) f cdv A outer s H E) (fun c d _ H => E c d H) := takes_of rfl rfl rfl rfl
  (mss_cons (ms_expr (me_call C.c_need_both_tunes hA hr tk (by rfl) (ma_cons (me_var (pv 0)) (ma_cons (me_var (pv 1)) (ma_cons (me_var (pv 2)) ma_nil)))))
  (mss_cons (ms_unp (me_tup (ma_cons (me_call C.c_lefts_by hA hr tk (by rfl) (ma_cons (me_var (pv 1)) (ma_cons (me_var (pv 2)) ma_nil))) (ma_cons (me_sum rfl (by rfl) g.f_sum (ma_cons (me_var (pv 2)) ma_nil)) ma_nil))) (mg_names rfl (mgs_cons (mg_name (i := 4) nd rfl (by first | exact Or.inl rfl | exact Or.inr rfl)) (mgs_cons (mg_name (i := 5) nd rfl (by first | exact Or.inl rfl | exact Or.inr rfl)) mgs_nil))))
  (mss_cons (ms_if (mt_w (mw_or (mt_not (mt_val (me_call C.c_is_row hA hr tk (by rfl) (ma_cons (me_var (pv 3)) (ma_cons me_int (ma_cons me_int ma_nil)))))) (mw_or1 (mt_not (mt_val (me_isi (T := "str") (by decide) (by rfl) g.f_isinstance (me_at (me_var (pv 3)) me_int) (pe_bltn (by rfl) g.f_str (by decide +kernel) rfl)))))))
  (mss_one (ms_ret me_bl))
  mss_nil)
  (mss_cons (ms_if (mt_c (cm_eq hr) (me_at (me_var (pv 3)) me_int) (me_globS (by rfl) g.i_TIED) (by rfl))
  (mss_one (ms_ret (me_and (me_call C.c_is_among hA hr tk (by rfl) (ma_cons (me_at (me_var (pv 3)) me_int) (ma_cons me_int (ma_cons (me_sub (me_var (pv 5)) me_int) ma_nil)))) (me_one (me_c (cm_eq hr) (me_call C.c_loose_by hA hr tk (by rfl) (ma_cons (me_var (pv 2)) (ma_cons (me_var (pv 4)) (ma_cons (me_at (me_var (pv 3)) me_int) ma_nil)))) (me_lst ma_nil) (by rfl))))))
  mss_nil)
  (mss_cons (ms_if (mt_w (mw_or (mt_c (cm_ne hr) (me_at (me_var (pv 3)) me_int) (me_globS (by rfl) g.i_NEVER) (by rfl)) (mw_or1 (mt_not (mt_val (me_call C.c_is_row hA hr tk (by rfl) (ma_cons (me_at (me_var (pv 3)) me_int) (ma_cons (me_var (pv 5)) (ma_cons (me_var (pv 5)) ma_nil)))))))))
  (mss_one (ms_ret me_bl))
  mss_nil)
  (mss_one (ms_ret (me_all rfl (by rfl) g.f_all (ma_cons (me_comp (own := [("lead", 6), ("left", 7)]) rfl nd (mi_enum (by rfl) g.f_enumerate (ma_cons (me_at (me_var (pv 3)) me_int) ma_nil)) (blkOk_by (N := ["sky", "scene", "tune", "thing", "lefts", "whole", "lead", "left"]) (sc := defScope s_shows_tied) (own := [("lead", 6), ("left", 7)]) (by decide +kernel)) (by decide) (fun _ _ _ _ _ => (mg_names rfl (mgs_cons (mg_name (i := 6) nd rfl (by first | exact Or.inl rfl | exact Or.inr rfl)) (mgs_cons (mg_name (i := 7) nd rfl (by first | exact Or.inl rfl | exact Or.inr rfl)) mgs_nil)))) (fun _ _ _ _ _ => mts_nil) (fun _ _ _ _ _ => (me_and (me_call C.c_is_whole hA hr takes0 (by rfl) (ma_cons (me_var (pv 7)) ma_nil)) (me_one (me_c (cm_in hr) (me_var (pv 7)) (me_call C.c_loose_by hA hr takes0 (by rfl) (ma_cons (me_var (pv 2)) (ma_cons (me_var (pv 4)) (ma_cons (me_var (pv 6)) ma_nil)))) (by rfl)))))) ma_nil)))))))))
theorem nd__law_cell_at : (["_law_script", "_law_k"] : List Str).Nodup := by decide +kernel
theorem sc__law_cell_at : FnScope ["_law_script", "_law_k"] ["_law_script", "_law_k"] (defScope s__law_cell_at) := ⟨rfl, rfl, rfl, nd__law_cell_at, rfl, by decide +kernel, by decide +kernel⟩
theorem ok__law_cell_at (g : GL K mg) (C : CL P w K mg base cf k) (hA : A.guards = some []) (hr : Room k (A.deeper (envOfC "_law_cell_at" (defScope s__law_cell_at) s.heap.objs.size f cdv))) :
    MSs (cxOf (L2.CX P w) P w K mg base ["_law_script", "_law_k"] "_law_cell_at" (defScope s__law_cell_at) f cdv A outer s H E) cf (fun c d _ H => E c d H) (defBody s__law_cell_at) F__law_cell_at :=
  have nd := nd__law_cell_at
  have tk : Takes (cxOf (L2.CX P w) P w K mg base ["_law_script", "_law_k"] "_law_cell_at" (defScope s__law_cell_at) f cdv A outer s H E) (fun c d _ H => E c d H) := takes_of rfl rfl rfl rfl
  (mss_cons (ms_if (mt_c cm_lt (me_var (pv 1)) (me_len (by rfl) g.f_len (ma_cons (me_var (pv 0)) ma_nil)) (by rfl))
  (mss_one (ms_ret (me_at (me_var (pv 0)) (me_var (pv 1)))))
  mss_nil)
  (mss_one (ms_ret me_int)))
theorem nd__law_pen : (["_law_cell"] : List Str).Nodup := by decide +kernel
theorem sc__law_pen : FnScope ["_law_cell"] ["_law_cell"] (defScope s__law_pen) := ⟨rfl, rfl, rfl, nd__law_pen, rfl, by decide +kernel, by decide +kernel⟩
theorem ok__law_pen (g : GL K mg) (C : CL P w K mg base cf k) (hA : A.guards = some []) (hr : Room k (A.deeper (envOfC "_law_pen" (defScope s__law_pen) s.heap.objs.size f cdv))) :
    MSs (cxOf (L2.CX P w) P w K mg base ["_law_cell"] "_law_pen" (defScope s__law_pen) f cdv A outer s H E) cf (fun c d _ H => E c d H) (defBody s__law_pen) F__law_pen :=
  have nd := nd__law_pen
  have tk : Takes (cxOf (L2.CX P w) P w K mg base ["_law_cell"] "_law_pen" (defScope s__law_pen) f cdv A outer s H E) (fun c d _ H => E c d H) := takes_of rfl rfl rfl rfl
  (mss_one (ms_ret (me_newL (ma_cons (me_max2 rfl (by rfl) g.f_max (ma_cons me_int (ma_cons (me_sub (me_var (pv 0)) (me_pow me_int me_int)) ma_nil))) (ma_cons (me_add (me_mod (me_var (pv 0)) me_int) me_int) (ma_cons me_int ma_nil))))))
theorem nd__law_draw : (["_law_pen_here", "_law_many_here", "_law_found", "_law_stirred"] : List Str).Nodup := by decide +kernel
theorem sc__law_draw : FnScope ["_law_pen_here", "_law_many_here", "_law_found", "_law_stirred"] ["_law_pen_here", "_law_many_here"] (defScope s__law_draw) := ⟨rfl, rfl, rfl, nd__law_draw, rfl, by decide +kernel, by decide +kernel⟩
theorem ok__law_draw (g : GL K mg) (C : CL P w K mg base cf k) (hA : A.guards = some []) (hr : Room k (A.deeper (envOfC "_law_draw" (defScope s__law_draw) s.heap.objs.size f cdv))) :
    MSs (cxOf (L2.CX P w) P w K mg base ["_law_pen_here", "_law_many_here", "_law_found", "_law_stirred"] "_law_draw" (defScope s__law_draw) f cdv A outer s H E) cf (fun c d _ H => E c d H) (defBody s__law_draw) F__law_draw :=
  have nd := nd__law_draw
  have tk : Takes (cxOf (L2.CX P w) P w K mg base ["_law_pen_here", "_law_many_here", "_law_found", "_law_stirred"] "_law_draw" (defScope s__law_draw) f cdv A outer s H E) (fun c d _ H => E c d H) := takes_of rfl rfl rfl rfl
  (mss_cons (ms_if (mt_c cm_gt (me_at (me_var (pv 0)) me_int) me_int (by rfl))
  (mss_cons (ms_set (i := 2) nd rfl (by first | exact Or.inl rfl | exact Or.inr rfl) (me_mod (me_at (me_var (pv 0)) me_int) (me_var (pv 1))))
  (mss_cons (ms_setIx (me_div (me_at (me_var (pv 0)) me_int) (me_var (pv 1))) (me_var (pv 0)) me_int)
  (mss_one (ms_ret (me_var (pv 2))))))
  mss_nil)
  (mss_cons (ms_setIx (me_add (me_at (me_var (pv 0)) me_int) me_int) (me_var (pv 0)) me_int)
  (mss_cons (ms_setIx (me_mod (me_add (me_add (me_mul (me_at (me_var (pv 0)) me_int) me_int) (me_mul me_int (me_at (me_var (pv 0)) me_int))) me_int) me_int) (me_var (pv 0)) me_int)
  (mss_cons (ms_set (i := 3) nd rfl (by first | exact Or.inl rfl | exact Or.inr rfl) (me_mod (me_add (me_add (me_mul (me_at (me_var (pv 0)) me_int) (me_at (me_var (pv 0)) me_int)) (me_mul me_int (me_at (me_var (pv 0)) me_int))) me_int) me_int))
  (mss_one (ms_ret (me_mod (me_div (me_mod (me_mul (me_var (pv 3)) me_int) me_int) me_int) (me_var (pv 1)))))))))
theorem nd__law_pick : (["_law_pen_here", "_law_some"] : List Str).Nodup := by decide +kernel
theorem sc__law_pick : FnScope ["_law_pen_here", "_law_some"] ["_law_pen_here", "_law_some"] (defScope s__law_pick) := ⟨rfl, rfl, rfl, nd__law_pick, rfl, by decide +kernel, by decide +kernel⟩
theorem ok__law_pick (g : GL K mg) (C : CL P w K mg base cf k) (hA : A.guards = some []) (hr : Room k (A.deeper (envOfC "_law_pick" (defScope s__law_pick) s.heap.objs.size f cdv))) :
    MSs (cxOf (L2.CX P w) P w K mg base ["_law_pen_here", "_law_some"] "_law_pick" (defScope s__law_pick) f cdv A outer s H E) cf (fun c d _ H => E c d H) (defBody s__law_pick) F__law_pick :=
  have nd := nd__law_pick
  have tk : Takes (cxOf (L2.CX P w) P w K mg base ["_law_pen_here", "_law_some"] "_law_pick" (defScope s__law_pick) f cdv A outer s H E) (fun c d _ H => E c d H) := takes_of rfl rfl rfl rfl
  (mss_one (ms_ret (me_at (me_var (pv 1)) (me_call C.c__law_draw hA hr tk (by rfl) (ma_cons (me_var (pv 0)) (ma_cons (me_len (by rfl) g.f_len (ma_cons (me_var (pv 1)) ma_nil)) ma_nil))))))
theorem nd__law_sky : (["_law_pen_here", "_law_most", "_law_wide", "_law_high", "_law_lights", "_law_longs", "_law_lap", "_law_speed", "_law_rows", "_law_turn"] : List Str).Nodup := by decide +kernel
theorem sc__law_sky : FnScope ["_law_pen_here", "_law_most", "_law_wide", "_law_high", "_law_lights", "_law_longs", "_law_lap", "_law_speed", "_law_rows", "_law_turn"] ["_law_pen_here", "_law_most"] (defScope s__law_sky) := ⟨rfl, rfl, rfl, nd__law_sky, rfl, by decide +kernel, by decide +kernel⟩
theorem ok__law_sky (g : GL K mg) (C : CL P w K mg base cf k) (hA : A.guards = some []) (hr : Room k (A.deeper (envOfC "_law_sky" (defScope s__law_sky) s.heap.objs.size f cdv))) :
    MSs (cxOf (L2.CX P w) P w K mg base ["_law_pen_here", "_law_most", "_law_wide", "_law_high", "_law_lights", "_law_longs", "_law_lap", "_law_speed", "_law_rows", "_law_turn"] "_law_sky" (defScope s__law_sky) f cdv A outer s H E) cf (fun c d _ H => E c d H) (defBody s__law_sky) F__law_sky :=
  have nd := nd__law_sky
  have tk : Takes (cxOf (L2.CX P w) P w K mg base ["_law_pen_here", "_law_most", "_law_wide", "_law_high", "_law_lights", "_law_longs", "_law_lap", "_law_speed", "_law_rows", "_law_turn"] "_law_sky" (defScope s__law_sky) f cdv A outer s H E) (fun c d _ H => E c d H) := takes_of rfl rfl rfl rfl
  (mss_cons (ms_parX (is := [2, 3, 4]) rfl (mao_p (me_call C.c__law_pick hA hr tk (by rfl) (ma_cons (me_var (pv 0)) (ma_cons (me_lst (ma_cons me_int (ma_cons me_int (ma_cons me_int (ma_cons me_int (ma_cons me_int (ma_cons me_int (ma_cons me_int ma_nil)))))))) ma_nil))) (mao_p (me_add me_int (me_call C.c__law_draw hA hr tk (by rfl) (ma_cons (me_var (pv 0)) (ma_cons me_int ma_nil)))) (mao_o ma_nil mao_nil))) (pgs_cons (pg_name (i := 2) nd rfl (by first | exact Or.inl rfl | exact Or.inr rfl)) (pgs_cons (pg_name (i := 3) nd rfl (by first | exact Or.inl rfl | exact Or.inr rfl)) (pgs_cons (pg_name (i := 4) nd rfl (by first | exact Or.inl rfl | exact Or.inr rfl)) pgs_nil))))
  (mss_cons (ms_set (i := 5) nd rfl (by first | exact Or.inl rfl | exact Or.inr rfl) (me_call C.c__law_pick hA hr tk (by rfl) (ma_cons (me_var (pv 0)) (ma_cons (me_lst (ma_cons (me_lst (ma_cons me_int (ma_cons me_int ma_nil))) (ma_cons (me_lst (ma_cons me_int (ma_cons me_int (ma_cons me_int ma_nil)))) (ma_cons (me_lst (ma_cons me_int (ma_cons me_int ma_nil))) (ma_cons (me_lst (ma_cons me_int (ma_cons me_int (ma_cons me_int ma_nil)))) ma_nil))))) ma_nil))))
  (mss_cons (ms_for (passes_of rfl) rfl (mi_range1 (by rfl) g.f_range (ma_cons (me_add me_int (me_call C.c__law_draw hA hr tk (by rfl) (ma_cons (me_var (pv 0)) (ma_cons (me_var (pv 1)) ma_nil)))) ma_nil)) (mg_name (i := 6) nd rfl (by first | exact Or.inl rfl | exact Or.inr rfl))
  (mss_cons (ms_set (i := 7) nd rfl (by first | exact Or.inl rfl | exact Or.inr rfl) (me_if (mt_c cm_gt (me_call C.c__law_draw hA hr tk (by rfl) (ma_cons (me_var (pv 0)) (ma_cons me_int ma_nil))) me_int (by rfl)) (me_sub (me_call C.c__law_draw hA hr tk (by rfl) (ma_cons (me_var (pv 0)) (ma_cons me_int ma_nil))) me_int) (me_sub (me_call C.c__law_draw hA hr tk (by rfl) (ma_cons (me_var (pv 0)) (ma_cons me_int ma_nil))) me_int)))
  (mss_cons (ms_set (i := 8) nd rfl (by first | exact Or.inl rfl | exact Or.inr rfl) (me_tuple (by rfl) g.f_tuple (ma_cons (me_comp (own := [("_law_turn", 9)]) rfl nd (mi_range1 (by rfl) g.f_range (ma_cons (me_call C.c__law_pick hA hr tk (by rfl) (ma_cons (me_var (pv 0)) (ma_cons (me_var (pv 5)) ma_nil))) ma_nil)) (blkOk_by (N := ["_law_pen_here", "_law_most", "_law_wide", "_law_high", "_law_lights", "_law_longs", "_law_lap", "_law_speed", "_law_rows", "_law_turn"]) (sc := defScope s__law_sky) (own := [("_law_turn", 9)]) (by decide +kernel)) (by decide) (fun _ _ _ _ _ => (mg_name (i := 9) nd rfl (by first | exact Or.inl rfl | exact Or.inr rfl))) (fun _ _ _ _ _ => mts_nil) (fun _ _ _ _ _ => (me_call C.c__law_draw hA hr takes0 (by rfl) (ma_cons (me_var (pv 0)) (ma_cons (me_var (pv 3)) ma_nil))))) ma_nil)))
  (mss_one (ms_app (pv 4) (me_tup (ma_cons (me_call C.c__law_draw hA hr tk (by rfl) (ma_cons (me_var (pv 0)) (ma_cons (me_var (pv 2)) ma_nil))) (ma_cons (me_var (pv 7)) (ma_cons (me_var (pv 8)) ma_nil)))))))))
  (mss_one (ms_ret (me_tup (ma_cons (me_var (pv 2)) (ma_cons (me_var (pv 3)) (ma_cons (me_tuple (by rfl) g.f_tuple (ma_one (me_own (pv 4)))) ma_nil)))))))))
theorem nd__law_item : (["_law_pen_here", "_law_sky_here", "_law_deep_here", "_law_far", "_law_way", "_law_turn"] : List Str).Nodup := by decide +kernel
theorem sc__law_item : FnScope ["_law_pen_here", "_law_sky_here", "_law_deep_here", "_law_far", "_law_way", "_law_turn"] ["_law_pen_here", "_law_sky_here", "_law_deep_here", "_law_far"] (defScope s__law_item) := ⟨rfl, rfl, rfl, nd__law_item, rfl, by decide +kernel, by decide +kernel⟩
theorem ok__law_item (g : GL K mg) (C : CL P w K mg base cf k) (hA : A.guards = some []) (hr : Room k (A.deeper (envOfC "_law_item" (defScope s__law_item) s.heap.objs.size f cdv))) :
    MSs (cxOf (L2.CX P w) P w K mg base ["_law_pen_here", "_law_sky_here", "_law_deep_here", "_law_far", "_law_way", "_law_turn"] "_law_item" (defScope s__law_item) f cdv A outer s H E) cf (fun c d _ H => E c d H) (defBody s__law_item) F__law_item :=
  have nd := nd__law_item
  have tk : Takes (cxOf (L2.CX P w) P w K mg base ["_law_pen_here", "_law_sky_here", "_law_deep_here", "_law_far", "_law_way", "_law_turn"] "_law_item" (defScope s__law_item) f cdv A outer s H E) (fun c d _ H => E c d H) := takes_of rfl rfl rfl rfl
  (mss_cons (ms_set (i := 4) nd rfl (by first | exact Or.inl rfl | exact Or.inr rfl) (me_call C.c__law_draw hA hr tk (by rfl) (ma_cons (me_var (pv 0)) (ma_cons (me_if (mt_c cm_gt (me_var (pv 2)) me_int (by rfl)) me_int me_int) ma_nil))))
  (mss_cons (ms_if (mt_c cm_lt (me_var (pv 4)) me_int (by rfl))
  (mss_one (ms_ret (me_add (me_tup (ma_cons me_str ma_nil)) (me_tuple (by rfl) g.f_tuple (ma_cons (me_comp (own := [("_law_turn", 5)]) rfl nd (mi_range1 (by rfl) g.f_range (ma_cons me_int ma_nil)) (blkOk_by (N := ["_law_pen_here", "_law_sky_here", "_law_deep_here", "_law_far", "_law_way", "_law_turn"]) (sc := defScope s__law_item) (own := [("_law_turn", 5)]) (by decide +kernel)) (by decide) (fun _ _ _ _ _ => (mg_name (i := 5) nd rfl (by first | exact Or.inl rfl | exact Or.inr rfl))) (fun _ _ _ _ _ => mts_nil) (fun _ _ _ _ _ => (me_sub (me_call C.c__law_draw hA hr takes0 (by rfl) (ma_cons (me_var (pv 0)) (ma_cons (me_add (me_mul me_int (me_var (pv 3))) me_int) ma_nil))) (me_var (pv 3))))) ma_nil)))))
  mss_nil)
  (mss_cons (ms_if (mt_c cm_lt (me_var (pv 4)) me_int (by rfl))
  (mss_one (ms_ret (me_at (me_lst (ma_cons (me_tup (ma_cons me_str (ma_cons (me_call C.c__law_draw hA hr tk (by rfl) (ma_cons (me_var (pv 0)) (ma_cons (me_len (by rfl) g.f_len (ma_cons (me_at (me_var (pv 1)) me_int) ma_nil)) ma_nil))) ma_nil))) (ma_cons (me_tup (ma_cons me_str ma_nil)) (ma_cons (me_tup (ma_cons me_str ma_nil)) ma_nil)))) (me_sub (me_var (pv 4)) me_int))))
  mss_nil)
  (mss_cons (ms_if (mt_c (cm_eq hr) (me_var (pv 4)) me_int (by rfl))
  (mss_one (ms_ret (me_tup (ma_cons me_str (ma_cons me_int (ma_cons me_int (ma_cons me_int ma_nil)))))))
  mss_nil)
  (mss_one (ms_ret (me_tup (ma_cons me_str (ma_cons (me_call C.c__law_pick hA hr tk (by rfl) (ma_cons (me_var (pv 0)) (ma_cons (me_lst (ma_cons me_int (ma_cons me_int (ma_cons me_int (ma_cons me_int (ma_cons (me_call C.c__law_draw hA hr tk (by rfl) (ma_cons (me_var (pv 0)) (ma_cons me_int ma_nil))) ma_nil)))))) ma_nil))) (ma_cons (me_call C.c__law_scene hA hr tk (by rfl) (ma_cons (me_var (pv 0)) (ma_cons (me_var (pv 1)) (ma_cons (me_sub (me_var (pv 2)) me_int) (ma_cons me_int (ma_cons (me_var (pv 3)) ma_nil)))))) ma_nil))))))))))
theorem nd__law_scene : (["_law_pen_here", "_law_sky_here", "_law_deep_here", "_law_most", "_law_far", "_law_lap"] : List Str).Nodup := by decide +kernel
theorem sc__law_scene : FnScope ["_law_pen_here", "_law_sky_here", "_law_deep_here", "_law_most", "_law_far", "_law_lap"] ["_law_pen_here", "_law_sky_here", "_law_deep_here", "_law_most", "_law_far"] (defScope s__law_scene) := ⟨rfl, rfl, rfl, nd__law_scene, rfl, by decide +kernel, by decide +kernel⟩
theorem ok__law_scene (g : GL K mg) (C : CL P w K mg base cf k) (hA : A.guards = some []) (hr : Room k (A.deeper (envOfC "_law_scene" (defScope s__law_scene) s.heap.objs.size f cdv))) :
    MSs (cxOf (L2.CX P w) P w K mg base ["_law_pen_here", "_law_sky_here", "_law_deep_here", "_law_most", "_law_far", "_law_lap"] "_law_scene" (defScope s__law_scene) f cdv A outer s H E) cf (fun c d _ H => E c d H) (defBody s__law_scene) F__law_scene :=
  have nd := nd__law_scene
  have tk : Takes (cxOf (L2.CX P w) P w K mg base ["_law_pen_here", "_law_sky_here", "_law_deep_here", "_law_most", "_law_far", "_law_lap"] "_law_scene" (defScope s__law_scene) f cdv A outer s H E) (fun c d _ H => E c d H) := takes_of rfl rfl rfl rfl
  (mss_one (ms_ret (me_tuple (by rfl) g.f_tuple (ma_cons (me_comp (own := [("_law_lap", 5)]) rfl nd (mi_range1 (by rfl) g.f_range (ma_cons (me_call C.c__law_draw hA hr tk (by rfl) (ma_cons (me_var (pv 0)) (ma_cons (me_add (me_var (pv 3)) me_int) ma_nil))) ma_nil)) (blkOk_by (N := ["_law_pen_here", "_law_sky_here", "_law_deep_here", "_law_most", "_law_far", "_law_lap"]) (sc := defScope s__law_scene) (own := [("_law_lap", 5)]) (by decide +kernel)) (by decide) (fun _ _ _ _ _ => (mg_name (i := 5) nd rfl (by first | exact Or.inl rfl | exact Or.inr rfl))) (fun _ _ _ _ _ => mts_nil) (fun _ _ _ _ _ => (me_call C.c__law_item hA hr takes0 (by rfl) (ma_cons (me_var (pv 0)) (ma_cons (me_var (pv 1)) (ma_cons (me_var (pv 2)) (ma_cons (me_var (pv 4)) ma_nil))))))) ma_nil))))
theorem nd__law_tune : (["_law_pen_here", "_law_most", "_law_bar"] : List Str).Nodup := by decide +kernel
theorem sc__law_tune : FnScope ["_law_pen_here", "_law_most", "_law_bar"] ["_law_pen_here"] (defScope s__law_tune) := ⟨rfl, rfl, rfl, nd__law_tune, rfl, by decide +kernel, by decide +kernel⟩
theorem ok__law_tune (g : GL K mg) (C : CL P w K mg base cf k) (hA : A.guards = some []) (hr : Room k (A.deeper (envOfC "_law_tune" (defScope s__law_tune) s.heap.objs.size f cdv))) :
    MSs (cxOf (L2.CX P w) P w K mg base ["_law_pen_here", "_law_most", "_law_bar"] "_law_tune" (defScope s__law_tune) f cdv A outer s H E) cf (fun c d _ H => E c d H) (defBody s__law_tune) F__law_tune :=
  have nd := nd__law_tune
  have tk : Takes (cxOf (L2.CX P w) P w K mg base ["_law_pen_here", "_law_most", "_law_bar"] "_law_tune" (defScope s__law_tune) f cdv A outer s H E) (fun c d _ H => E c d H) := takes_of rfl rfl rfl rfl
  (mss_cons (ms_set (i := 1) nd rfl (by first | exact Or.inl rfl | exact Or.inr rfl) (me_call C.c__law_pick hA hr tk (by rfl) (ma_cons (me_var (pv 0)) (ma_cons (me_lst (ma_cons me_int (ma_cons me_int (ma_cons me_int ma_nil)))) ma_nil))))
  (mss_one (ms_ret (me_tuple (by rfl) g.f_tuple (ma_cons (me_comp (own := [("_law_bar", 2)]) rfl nd (mi_range1 (by rfl) g.f_range (ma_cons (me_add me_int (me_call C.c__law_draw hA hr tk (by rfl) (ma_cons (me_var (pv 0)) (ma_cons (me_call C.c__law_pick hA hr tk (by rfl) (ma_cons (me_var (pv 0)) (ma_cons (me_lst (ma_cons me_int (ma_cons me_int (ma_cons me_int ma_nil)))) ma_nil))) ma_nil)))) ma_nil)) (blkOk_by (N := ["_law_pen_here", "_law_most", "_law_bar"]) (sc := defScope s__law_tune) (own := [("_law_bar", 2)]) (by decide +kernel)) (by decide) (fun _ _ _ _ _ => (mg_name (i := 2) nd rfl (by first | exact Or.inl rfl | exact Or.inr rfl))) (fun _ _ _ _ _ => mts_nil) (fun _ _ _ _ _ => (me_add me_int (me_call C.c__law_draw hA hr takes0 (by rfl) (ma_cons (me_var (pv 0)) (ma_cons (me_var (pv 1)) ma_nil)))))) ma_nil)))))
theorem nd__law_small_scene : (["_law_pen_here", "_law_sky_here", "_law_scene_here", "_law_plain"] : List Str).Nodup := by decide +kernel
theorem sc__law_small_scene : FnScope ["_law_pen_here", "_law_sky_here", "_law_scene_here", "_law_plain"] ["_law_pen_here", "_law_sky_here"] (defScope s__law_small_scene) := ⟨rfl, rfl, rfl, nd__law_small_scene, rfl, by decide +kernel, by decide +kernel⟩
theorem ok__law_small_scene (g : GL K mg) (C : CL P w K mg base cf k) (hA : A.guards = some []) (hr : Room k (A.deeper (envOfC "_law_small_scene" (defScope s__law_small_scene) s.heap.objs.size f cdv))) :
    MSs (cxOf (L2.CX P w) P w K mg base ["_law_pen_here", "_law_sky_here", "_law_scene_here", "_law_plain"] "_law_small_scene" (defScope s__law_small_scene) f cdv A outer s H E) cf (fun c d _ H => E c d H) (defBody s__law_small_scene) F__law_small_scene :=
  have nd := nd__law_small_scene
  have tk : Takes (cxOf (L2.CX P w) P w K mg base ["_law_pen_here", "_law_sky_here", "_law_scene_here", "_law_plain"] "_law_small_scene" (defScope s__law_small_scene) f cdv A outer s H E) (fun c d _ H => E c d H) := takes_of rfl rfl rfl rfl
  (mss_cons (ms_set (i := 2) nd rfl (by first | exact Or.inl rfl | exact Or.inr rfl) (me_add (me_call C.c__law_scene hA hr tk (by rfl) (ma_cons (me_var (pv 0)) (ma_cons (me_var (pv 1)) (ma_cons me_int (ma_cons me_int (ma_cons me_int ma_nil)))))) (me_mulA (me_tup (ma_cons (me_tup (ma_cons me_str ma_nil)) ma_nil)) (me_call C.c__law_draw hA hr tk (by rfl) (ma_cons (me_var (pv 0)) (ma_cons me_int ma_nil))))))
  (mss_cons (ms_set (i := 3) nd rfl (by first | exact Or.inl rfl | exact Or.inr rfl) (me_tup (ma_cons (me_tup (ma_cons me_str (ma_cons me_int (ma_cons me_int (ma_cons me_int ma_nil))))) (ma_cons (me_tup (ma_cons me_str ma_nil)) (ma_cons (me_tup (ma_cons me_str (ma_cons me_int (ma_cons (me_tup (ma_cons (me_tup (ma_cons me_str ma_nil)) (ma_cons (me_tup (ma_cons me_str (ma_cons me_int ma_nil))) ma_nil))) ma_nil)))) ma_nil)))))
  (mss_one (ms_ret (me_if (mt_c cm_lt (me_call C.c__law_many hA hr tk (by rfl) (ma_cons (me_var (pv 2)) ma_nil)) me_int (by rfl)) (me_var (pv 2)) (me_var (pv 3)))))))
theorem nd__law_many : (["_law_items", "_law_found", "_law_item_here"] : List Str).Nodup := by decide +kernel
theorem sc__law_many : FnScope ["_law_items", "_law_found", "_law_item_here"] ["_law_items"] (defScope s__law_many) := ⟨rfl, rfl, rfl, nd__law_many, rfl, by decide +kernel, by decide +kernel⟩
theorem ok__law_many (g : GL K mg) (C : CL P w K mg base cf k) (hA : A.guards = some []) (hr : Room k (A.deeper (envOfC "_law_many" (defScope s__law_many) s.heap.objs.size f cdv))) :
    MSs (cxOf (L2.CX P w) P w K mg base ["_law_items", "_law_found", "_law_item_here"] "_law_many" (defScope s__law_many) f cdv A outer s H E) cf (fun c d _ H => E c d H) (defBody s__law_many) F__law_many :=
  have nd := nd__law_many
  have tk : Takes (cxOf (L2.CX P w) P w K mg base ["_law_items", "_law_found", "_law_item_here"] "_law_many" (defScope s__law_many) f cdv A outer s H E) (fun c d _ H => E c d H) := takes_of rfl rfl rfl rfl
  (mss_cons (ms_set (i := 1) nd rfl (by first | exact Or.inl rfl | exact Or.inr rfl) me_int)
  (mss_cons (ms_for (passes_of rfl) rfl (mi_seq (me_var (pv 0))) (mg_name (i := 2) nd rfl (by first | exact Or.inl rfl | exact Or.inr rfl))
  (mss_one (ms_set (i := 1) nd rfl (by first | exact Or.inl rfl | exact Or.inr rfl) (me_add (me_var (pv 1)) (me_if (mt_c (cm_eq hr) (me_at (me_var (pv 2)) me_int) me_str (by rfl)) (me_mul (me_at (me_var (pv 2)) me_int) (me_call C.c__law_many hA hr tk (by rfl) (ma_cons (me_at (me_var (pv 2)) me_int) ma_nil))) me_int)))))
  (mss_one (ms_ret (me_var (pv 1))))))
theorem nd__law_all_leads : (["_law_sky_here", "_law_scene_here", "_law_tune_here", "_law_lead"] : List Str).Nodup := by decide +kernel
theorem sc__law_all_leads : FnScope ["_law_sky_here", "_law_scene_here", "_law_tune_here", "_law_lead"] ["_law_sky_here", "_law_scene_here", "_law_tune_here"] (defScope s__law_all_leads) := ⟨rfl, rfl, rfl, nd__law_all_leads, rfl, by decide +kernel, by decide +kernel⟩
theorem ok__law_all_leads (g : GL K mg) (C : CL P w K mg base cf k) (hA : A.guards = some []) (hr : Room k (A.deeper (envOfC "_law_all_leads" (defScope s__law_all_leads) s.heap.objs.size f cdv))) :
    MSs (cxOf (L2.CX P w) P w K mg base ["_law_sky_here", "_law_scene_here", "_law_tune_here", "_law_lead"] "_law_all_leads" (defScope s__law_all_leads) f cdv A outer s H E) cf (fun c d _ H => E c d H) (defBody s__law_all_leads) F__law_all_leads :=
  have nd := nd__law_all_leads
  have tk : Takes (cxOf (L2.CX P w) P w K mg base ["_law_sky_here", "_law_scene_here", "_law_tune_here", "_law_lead"] "_law_all_leads" (defScope s__law_all_leads) f cdv A outer s H E) (fun c d _ H => E c d H) := takes_of rfl rfl rfl rfl
  (mss_one (ms_ret (me_comp (own := [("_law_lead", 3)]) rfl nd (mi_range1 (by rfl) g.f_range (ma_cons (me_sum rfl (by rfl) g.f_sum (ma_cons (me_var (pv 2)) ma_nil)) ma_nil)) (blkOk_by (N := ["_law_sky_here", "_law_scene_here", "_law_tune_here", "_law_lead"]) (sc := defScope s__law_all_leads) (own := [("_law_lead", 3)]) (by decide +kernel)) (by decide) (fun _ _ _ _ _ => (mg_name (i := 3) nd rfl (by first | exact Or.inl rfl | exact Or.inr rfl))) (fun _ _ _ _ _ => (mts_one (mt_val (me_call C.c_shows_tied hA hr takes0 (by rfl) (ma_cons (me_var (pv 0)) (ma_cons (me_var (pv 1)) (ma_cons (me_var (pv 2)) (ma_cons (me_tup (ma_cons me_str (ma_cons (me_var (pv 3)) ma_nil))) ma_nil)))))))) (fun _ _ _ _ _ => (me_var (pv 3))))))
theorem nd__law_marks_right : (["_law_sky_here", "_law_scene_here", "_law_tune_here", "_law_ahead", "_law_whole", "_law_lefts", "_law_beats", "_law_later", "_law_twice", "_law_left"] : List Str).Nodup := by decide +kernel
theorem sc__law_marks_right : FnScope ["_law_sky_here", "_law_scene_here", "_law_tune_here", "_law_ahead", "_law_whole", "_law_lefts", "_law_beats", "_law_later", "_law_twice", "_law_left"] ["_law_sky_here", "_law_scene_here", "_law_tune_here", "_law_ahead"] (defScope s__law_marks_right) := ⟨rfl, rfl, rfl, nd__law_marks_right, rfl, by decide +kernel, by decide +kernel⟩
theorem ok__law_marks_right (g : GL K mg) (C : CL P w K mg base cf k) (hA : A.guards = some []) (hr : Room k (A.deeper (envOfC "_law_marks_right" (defScope s__law_marks_right) s.heap.objs.size f cdv))) :
    MSs (cxOf (L2.CX P w) P w K mg base ["_law_sky_here", "_law_scene_here", "_law_tune_here", "_law_ahead", "_law_whole", "_law_lefts", "_law_beats", "_law_later", "_law_twice", "_law_left"] "_law_marks_right" (defScope s__law_marks_right) f cdv A outer s H E) cf (fun c d _ H => E c d H) (defBody s__law_marks_right) F__law_marks_right :=
  have nd := nd__law_marks_right
  have tk : Takes (cxOf (L2.CX P w) P w K mg base ["_law_sky_here", "_law_scene_here", "_law_tune_here", "_law_ahead", "_law_whole", "_law_lefts", "_law_beats", "_law_later", "_law_twice", "_law_left"] "_law_marks_right" (defScope s__law_marks_right) f cdv A outer s H E) (fun c d _ H => E c d H) := takes_of rfl rfl rfl rfl
  (mss_cons (ms_unp (me_tup (ma_cons (me_sum rfl (by rfl) g.f_sum (ma_cons (me_var (pv 2)) ma_nil)) (ma_cons (me_call C.c_marks_left hA hr tk (by rfl) (ma_cons (me_var (pv 0)) (ma_cons (me_var (pv 1)) (ma_cons (me_var (pv 2)) ma_nil)))) (ma_cons (me_call C.c_beats_of hA hr tk (by rfl) (ma_cons (me_var (pv 0)) (ma_cons (me_var (pv 1)) ma_nil))) ma_nil)))) (mg_names rfl (mgs_cons (mg_name (i := 4) nd rfl (by first | exact Or.inl rfl | exact Or.inr rfl)) (mgs_cons (mg_name (i := 5) nd rfl (by first | exact Or.inl rfl | exact Or.inr rfl)) (mgs_cons (mg_name (i := 6) nd rfl (by first | exact Or.inl rfl | exact Or.inr rfl)) mgs_nil)))))
  (mss_cons (ms_if (mt_c (cm_ne hr) (me_call C.c_marks_left hA hr tk (by rfl) (ma_cons (me_var (pv 0)) (ma_cons (me_call C.c_turned_about hA hr tk (by rfl) (ma_cons (me_var (pv 0)) (ma_cons (me_var (pv 1)) ma_nil))) (ma_cons (me_var (pv 2)) ma_nil)))) (me_tuple (by rfl) g.f_tuple (ma_cons (me_sorted (by rfl) g.f_sorted (ma_cons (me_comp (own := [("_law_left", 9)]) rfl nd (mi_seq (me_var (pv 5))) (blkOk_by (N := ["_law_sky_here", "_law_scene_here", "_law_tune_here", "_law_ahead", "_law_whole", "_law_lefts", "_law_beats", "_law_later", "_law_twice", "_law_left"]) (sc := defScope s__law_marks_right) (own := [("_law_left", 9)]) (by decide +kernel)) (by decide) (fun _ _ _ _ _ => (mg_name (i := 9) nd rfl (by first | exact Or.inl rfl | exact Or.inr rfl))) (fun _ _ _ _ _ => mts_nil) (fun _ _ _ _ _ => (me_mod (me_sub (me_var (pv 6)) (me_var (pv 9))) (me_var (pv 4))))) ma_nil)) ma_nil)) (by rfl))
  (mss_one (ms_ret me_bl))
  mss_nil)
  (mss_cons (ms_set (i := 7) nd rfl (by first | exact Or.inl rfl | exact Or.inr rfl) (me_tup (ma_cons (me_tup (ma_cons me_str (ma_cons (me_var (pv 3)) (ma_cons (me_tup (ma_cons (me_tup (ma_cons me_str (ma_cons me_int ma_nil))) ma_nil)) ma_nil)))) (ma_cons (me_tup (ma_cons me_str (ma_cons me_int (ma_cons (me_var (pv 1)) ma_nil)))) ma_nil))))
  (mss_cons (ms_if (mt_c (cm_ne hr) (me_call C.c_marks_left hA hr tk (by rfl) (ma_cons (me_var (pv 0)) (ma_cons (me_var (pv 7)) (ma_cons (me_var (pv 2)) ma_nil)))) (me_tuple (by rfl) g.f_tuple (ma_cons (me_sorted (by rfl) g.f_sorted (ma_cons (me_comp (own := [("_law_left", 9)]) rfl nd (mi_seq (me_var (pv 5))) (blkOk_by (N := ["_law_sky_here", "_law_scene_here", "_law_tune_here", "_law_ahead", "_law_whole", "_law_lefts", "_law_beats", "_law_later", "_law_twice", "_law_left"]) (sc := defScope s__law_marks_right) (own := [("_law_left", 9)]) (by decide +kernel)) (by decide) (fun _ _ _ _ _ => (mg_name (i := 9) nd rfl (by first | exact Or.inl rfl | exact Or.inr rfl))) (fun _ _ _ _ _ => mts_nil) (fun _ _ _ _ _ => (me_mod (me_add (me_var (pv 9)) (me_var (pv 3))) (me_var (pv 4))))) ma_nil)) ma_nil)) (by rfl))
  (mss_one (ms_ret me_bl))
  mss_nil)
  (mss_cons (ms_set (i := 8) nd rfl (by first | exact Or.inl rfl | exact Or.inr rfl) (me_sortSetA rfl (by rfl) g.f_sorted (by rfl) g.f_set (me_add (me_list (by rfl) g.f_list (ma_cons (me_var (pv 5)) ma_nil)) (me_comp (own := [("_law_left", 9)]) rfl nd (mi_seq (me_var (pv 5))) (blkOk_by (N := ["_law_sky_here", "_law_scene_here", "_law_tune_here", "_law_ahead", "_law_whole", "_law_lefts", "_law_beats", "_law_later", "_law_twice", "_law_left"]) (sc := defScope s__law_marks_right) (own := [("_law_left", 9)]) (by decide +kernel)) (by decide) (fun _ _ _ _ _ => (mg_name (i := 9) nd rfl (by first | exact Or.inl rfl | exact Or.inr rfl))) (fun _ _ _ _ _ => mts_nil) (fun _ _ _ _ _ => (me_mod (me_add (me_var (pv 9)) (me_var (pv 6))) (me_var (pv 4))))))))
  (mss_cons (ms_if (mt_c (cm_ne hr) (me_list (by rfl) g.f_list (ma_cons (me_call C.c_marks_left hA hr tk (by rfl) (ma_cons (me_var (pv 0)) (ma_cons (me_tup (ma_cons (me_tup (ma_cons me_str (ma_cons me_int (ma_cons (me_var (pv 1)) ma_nil)))) ma_nil)) (ma_cons (me_var (pv 2)) ma_nil)))) ma_nil)) (me_var (pv 8)) (by rfl))
  (mss_one (ms_ret me_bl))
  mss_nil)
  (mss_one (ms_ret (me_c (cm_eq hr) (me_c (cm_eq hr) (me_call C.c_marks_of hA hr tk (by rfl) (ma_cons (me_var (pv 0)) (ma_cons (me_var (pv 1)) ma_nil))) me_int (by rfl)) (me_c (cm_eq hr) (me_var (pv 5)) (me_tup ma_nil) (by rfl)) (by rfl))))))))))
theorem nd__law_leads_right : (["_law_sky_here", "_law_scene_here", "_law_tune_here", "_law_ahead", "_law_whole", "_law_leads", "_law_word", "_law_thing", "_law_later", "_law_double", "_law_lead"] : List Str).Nodup := by decide +kernel
theorem sc__law_leads_right : FnScope ["_law_sky_here", "_law_scene_here", "_law_tune_here", "_law_ahead", "_law_whole", "_law_leads", "_law_word", "_law_thing", "_law_later", "_law_double", "_law_lead"] ["_law_sky_here", "_law_scene_here", "_law_tune_here", "_law_ahead"] (defScope s__law_leads_right) := ⟨rfl, rfl, rfl, nd__law_leads_right, rfl, by decide +kernel, by decide +kernel⟩
theorem ok__law_leads_right (g : GL K mg) (C : CL P w K mg base cf k) (hA : A.guards = some []) (hr : Room k (A.deeper (envOfC "_law_leads_right" (defScope s__law_leads_right) s.heap.objs.size f cdv))) :
    MSs (cxOf (L2.CX P w) P w K mg base ["_law_sky_here", "_law_scene_here", "_law_tune_here", "_law_ahead", "_law_whole", "_law_leads", "_law_word", "_law_thing", "_law_later", "_law_double", "_law_lead"] "_law_leads_right" (defScope s__law_leads_right) f cdv A outer s H E) cf (fun c d _ H => E c d H) (defBody s__law_leads_right) F__law_leads_right :=
  have nd := nd__law_leads_right
  have tk : Takes (cxOf (L2.CX P w) P w K mg base ["_law_sky_here", "_law_scene_here", "_law_tune_here", "_law_ahead", "_law_whole", "_law_leads", "_law_word", "_law_thing", "_law_later", "_law_double", "_law_lead"] "_law_leads_right" (defScope s__law_leads_right) f cdv A outer s H E) (fun c d _ H => E c d H) := takes_of rfl rfl rfl rfl
  (mss_cons (ms_unp (me_tup (ma_cons (me_sum rfl (by rfl) g.f_sum (ma_cons (me_var (pv 2)) ma_nil)) (ma_cons (me_call C.c__law_all_leads hA hr tk (by rfl) (ma_cons (me_var (pv 0)) (ma_cons (me_var (pv 1)) (ma_cons (me_var (pv 2)) ma_nil)))) ma_nil))) (mg_names rfl (mgs_cons (mg_name (i := 4) nd rfl (by first | exact Or.inl rfl | exact Or.inr rfl)) (mgs_cons (mg_name (i := 5) nd rfl (by first | exact Or.inl rfl | exact Or.inr rfl)) mgs_nil))))
  (mss_cons (ms_unp (me_call C.c_tied hA hr tk (by rfl) (ma_cons (me_var (pv 0)) (ma_cons (me_var (pv 1)) (ma_cons (me_var (pv 2)) ma_nil)))) (mg_names rfl (mgs_cons (mg_name (i := 6) nd rfl (by first | exact Or.inl rfl | exact Or.inr rfl)) (mgs_cons (mg_name (i := 7) nd rfl (by first | exact Or.inl rfl | exact Or.inr rfl)) mgs_nil))))
  (mss_cons (ms_if (mt_w (mw_or (mt_c (cm_ne hr) (me_c (cm_eq hr) (me_var (pv 6)) me_str (by rfl)) (me_c (cm_ne hr) (me_var (pv 5)) (me_lst ma_nil) (by rfl)) (by rfl)) (mw_or1 (mt_w (mw_and (mt_c (cm_eq hr) (me_var (pv 6)) me_str (by rfl)) (mw_and1 (mt_c (cm_ne hr) (me_at (me_var (pv 5)) me_int) (me_var (pv 7)) (by rfl))))))))
  (mss_one (ms_ret me_bl))
  mss_nil)
  (mss_cons (ms_set (i := 8) nd rfl (by first | exact Or.inl rfl | exact Or.inr rfl) (me_tup (ma_cons (me_tup (ma_cons me_str (ma_cons (me_var (pv 3)) (ma_cons (me_tup (ma_cons (me_tup (ma_cons me_str (ma_cons me_int ma_nil))) ma_nil)) ma_nil)))) (ma_cons (me_tup (ma_cons me_str (ma_cons me_int (ma_cons (me_var (pv 1)) ma_nil)))) ma_nil))))
  (mss_cons (ms_if (mt_c (cm_ne hr) (me_call C.c__law_all_leads hA hr tk (by rfl) (ma_cons (me_var (pv 0)) (ma_cons (me_var (pv 8)) (ma_cons (me_var (pv 2)) ma_nil)))) (me_sorted (by rfl) g.f_sorted (ma_cons (me_comp (own := [("_law_lead", 10)]) rfl nd (mi_seq (me_var (pv 5))) (blkOk_by (N := ["_law_sky_here", "_law_scene_here", "_law_tune_here", "_law_ahead", "_law_whole", "_law_leads", "_law_word", "_law_thing", "_law_later", "_law_double", "_law_lead"]) (sc := defScope s__law_leads_right) (own := [("_law_lead", 10)]) (by decide +kernel)) (by decide) (fun _ _ _ _ _ => (mg_name (i := 10) nd rfl (by first | exact Or.inl rfl | exact Or.inr rfl))) (fun _ _ _ _ _ => mts_nil) (fun _ _ _ _ _ => (me_mod (me_sub (me_var (pv 10)) (me_var (pv 3))) (me_var (pv 4))))) ma_nil)) (by rfl))
  (mss_one (ms_ret me_bl))
  mss_nil)
  (mss_cons (ms_if (mt_c (cm_ne hr) (me_call C.c__law_all_leads hA hr tk (by rfl) (ma_cons (me_var (pv 0)) (ma_cons (me_var (pv 1)) (ma_cons (me_add (me_slice (me_var (pv 2)) (mo_some me_int) mo_none) (me_slice (me_var (pv 2)) mo_none (mo_some me_int))) ma_nil)))) (me_sorted (by rfl) g.f_sorted (ma_cons (me_comp (own := [("_law_lead", 10)]) rfl nd (mi_seq (me_var (pv 5))) (blkOk_by (N := ["_law_sky_here", "_law_scene_here", "_law_tune_here", "_law_ahead", "_law_whole", "_law_leads", "_law_word", "_law_thing", "_law_later", "_law_double", "_law_lead"]) (sc := defScope s__law_leads_right) (own := [("_law_lead", 10)]) (by decide +kernel)) (by decide) (fun _ _ _ _ _ => (mg_name (i := 10) nd rfl (by first | exact Or.inl rfl | exact Or.inr rfl))) (fun _ _ _ _ _ => mts_nil) (fun _ _ _ _ _ => (me_mod (me_sub (me_var (pv 10)) (me_at (me_var (pv 2)) me_int)) (me_var (pv 4))))) ma_nil)) (by rfl))
  (mss_one (ms_ret me_bl))
  mss_nil)
  (mss_cons (ms_set (i := 9) nd rfl (by first | exact Or.inl rfl | exact Or.inr rfl) (me_add (me_var (pv 5)) (me_comp (own := [("_law_lead", 10)]) rfl nd (mi_seq (me_var (pv 5))) (blkOk_by (N := ["_law_sky_here", "_law_scene_here", "_law_tune_here", "_law_ahead", "_law_whole", "_law_leads", "_law_word", "_law_thing", "_law_later", "_law_double", "_law_lead"]) (sc := defScope s__law_leads_right) (own := [("_law_lead", 10)]) (by decide +kernel)) (by decide) (fun _ _ _ _ _ => (mg_name (i := 10) nd rfl (by first | exact Or.inl rfl | exact Or.inr rfl))) (fun _ _ _ _ _ => mts_nil) (fun _ _ _ _ _ => (me_add (me_var (pv 10)) (me_var (pv 4)))))))
  (mss_cons (ms_if (mt_w (mw_and (mt_c cm_lt (me_len (by rfl) g.f_len (ma_cons (me_var (pv 2)) ma_nil)) me_int (by rfl)) (mw_and1 (mt_c (cm_ne hr) (me_call C.c__law_all_leads hA hr tk (by rfl) (ma_cons (me_var (pv 0)) (ma_cons (me_var (pv 1)) (ma_cons (me_mul (me_var (pv 2)) me_int) ma_nil)))) (me_var (pv 9)) (by rfl)))))
  (mss_one (ms_ret me_bl))
  mss_nil)
  (mss_one (ms_ret (me_or (me_c (cm_eq hr) (me_var (pv 6)) me_str (by rfl)) (me_one (me_c (cm_ne hr) (me_call C.c_marks_left hA hr tk (by rfl) (ma_cons (me_var (pv 0)) (ma_cons (me_var (pv 1)) (ma_cons (me_var (pv 2)) ma_nil)))) (me_tup ma_nil) (by rfl))))))))))))))
theorem nd__law_flat : (["_law_scene_here"] : List Str).Nodup := by decide +kernel
theorem sc__law_flat : FnScope ["_law_scene_here"] ["_law_scene_here"] (defScope s__law_flat) := ⟨rfl, rfl, rfl, nd__law_flat, rfl, by decide +kernel, by decide +kernel⟩
theorem ok__law_flat (g : GL K mg) (C : CL P w K mg base cf k) (hA : A.guards = some []) (hr : Room k (A.deeper (envOfC "_law_flat" (defScope s__law_flat) s.heap.objs.size f cdv))) :
    MSs (cxOf (L2.CX P w) P w K mg base ["_law_scene_here"] "_law_flat" (defScope s__law_flat) f cdv A outer s H E) cf (fun c d _ H => E c d H) (defBody s__law_flat) F__law_flat :=
  have nd := nd__law_flat
  have tk : Takes (cxOf (L2.CX P w) P w K mg base ["_law_scene_here"] "_law_flat" (defScope s__law_flat) f cdv A outer s H E) (fun c d _ H => E c d H) := takes_of rfl rfl rfl rfl
  (mss_one (ms_ret (me_if (mt_c cm_lt (me_call C.c__law_deep hA hr tk (by rfl) (ma_cons (me_var (pv 0)) ma_nil)) me_int (by rfl)) (me_var (pv 0)) (me_tup (ma_cons (me_tup (ma_cons me_str ma_nil)) (ma_cons (me_tup (ma_cons me_str (ma_cons me_int (ma_cons me_int (ma_cons me_int ma_nil))))) ma_nil))))))
theorem nd__law_deep : (["_law_items", "_law_item_here"] : List Str).Nodup := by decide +kernel
theorem sc__law_deep : FnScope ["_law_items", "_law_item_here"] ["_law_items"] (defScope s__law_deep) := ⟨rfl, rfl, rfl, nd__law_deep, rfl, by decide +kernel, by decide +kernel⟩
theorem ok__law_deep (g : GL K mg) (C : CL P w K mg base cf k) (hA : A.guards = some []) (hr : Room k (A.deeper (envOfC "_law_deep" (defScope s__law_deep) s.heap.objs.size f cdv))) :
    MSs (cxOf (L2.CX P w) P w K mg base ["_law_items", "_law_item_here"] "_law_deep" (defScope s__law_deep) f cdv A outer s H E) cf (fun c d _ H => E c d H) (defBody s__law_deep) F__law_deep :=
  have nd := nd__law_deep
  have tk : Takes (cxOf (L2.CX P w) P w K mg base ["_law_items", "_law_item_here"] "_law_deep" (defScope s__law_deep) f cdv A outer s H E) (fun c d _ H => E c d H) := takes_of rfl rfl rfl rfl
  (mss_one (ms_ret (me_maxL rfl (by rfl) g.f_max (ma_cons (me_add (me_lst (ma_cons me_int ma_nil)) (me_comp (own := [("_law_item_here", 1)]) rfl nd (mi_seq (me_var (pv 0))) (blkOk_by (N := ["_law_items", "_law_item_here"]) (sc := defScope s__law_deep) (own := [("_law_item_here", 1)]) (by decide +kernel)) (by decide) (fun _ _ _ _ _ => (mg_name (i := 1) nd rfl (by first | exact Or.inl rfl | exact Or.inr rfl))) (fun _ _ _ _ _ => (mts_one (mt_c (cm_eq hr) (me_at (me_var (pv 1)) me_int) me_str (by rfl)))) (fun _ _ _ _ _ => (me_add me_int (me_call C.c__law_deep hA hr takes0 (by rfl) (ma_cons (me_at (me_var (pv 1)) me_int) ma_nil)))))) ma_nil))))
theorem nd_law : (["_law_script", "_law_k", "_law_pen_here", "_law_sky_here", "_law_one", "_law_scene_here", "_law_tune_here", "_law_ahead"] : List Str).Nodup := by decide +kernel
theorem sc_law : FnScope ["_law_script", "_law_k", "_law_pen_here", "_law_sky_here", "_law_one", "_law_scene_here", "_law_tune_here", "_law_ahead"] ["_law_script"] (defScope s_law) := ⟨rfl, rfl, rfl, nd_law, rfl, by decide +kernel, by decide +kernel⟩
theorem ok_law (g : GL K mg) (C : CL P w K mg base cf k) (hA : A.guards = some []) (hr : Room k (A.deeper (envOfC "law" (defScope s_law) s.heap.objs.size f cdv))) :
    MSs (cxOf (L2.CX P w) P w K mg base ["_law_script", "_law_k", "_law_pen_here", "_law_sky_here", "_law_one", "_law_scene_here", "_law_tune_here", "_law_ahead"] "law" (defScope s_law) f cdv A outer s H E) cf (fun c d _ H => E c d H) (defBody s_law) F_law :=
  have nd := nd_law
  have tk : Takes (cxOf (L2.CX P w) P w K mg base ["_law_script", "_law_k", "_law_pen_here", "_law_sky_here", "_law_one", "_law_scene_here", "_law_tune_here", "_law_ahead"] "law" (defScope s_law) f cdv A outer s H E) (fun c d _ H => E c d H) := takes_of rfl rfl rfl rfl
  (mss_cons (ms_for (passes_of rfl) rfl (mi_range1 (by rfl) g.f_range (ma_cons (me_max2 rfl (by rfl) g.f_max (ma_cons me_int (ma_cons (me_min2 rfl (by rfl) g.f_min (ma_cons (me_len (by rfl) g.f_len (ma_cons (me_var (pv 0)) ma_nil)) (ma_cons me_int ma_nil))) ma_nil))) ma_nil)) (mg_name (i := 1) nd rfl (by first | exact Or.inl rfl | exact Or.inr rfl))
  (mss_cons (ms_set (i := 2) nd rfl (by first | exact Or.inl rfl | exact Or.inr rfl) (me_call C.c__law_pen hA hr tk (by rfl) (ma_cons (me_call C.c__law_cell_at hA hr tk (by rfl) (ma_cons (me_var (pv 0)) (ma_cons (me_var (pv 1)) ma_nil))) ma_nil)))
  (mss_cons (ms_set (i := 3) nd rfl (by first | exact Or.inl rfl | exact Or.inr rfl) (me_call C.c__law_sky hA hr tk (by rfl) (ma_cons (me_var (pv 2)) (ma_cons me_int ma_nil))))
  (mss_cons (ms_set (i := 4) nd rfl (by first | exact Or.inl rfl | exact Or.inr rfl) (me_add (me_mulA (me_tup (ma_cons (me_tup (ma_cons me_str (ma_cons me_int (ma_cons me_int (ma_cons me_int ma_nil))))) ma_nil)) (me_call C.c__law_draw hA hr tk (by rfl) (ma_cons (me_var (pv 2)) (ma_cons me_int ma_nil)))) (me_tup (ma_cons (me_tup (ma_cons me_str ma_nil)) ma_nil))))
  (mss_one (ms_for (passes_of rfl) rfl (mi_seq (me_lst (ma_cons (me_call C.c__law_flat hA hr tk (by rfl) (ma_cons (me_call C.c__law_small_scene hA hr tk (by rfl) (ma_cons (me_var (pv 2)) (ma_cons (me_var (pv 3)) ma_nil))) ma_nil)) (ma_cons (me_var (pv 4)) (ma_cons (me_tup (ma_cons (me_tup (ma_cons me_str (ma_cons me_int (ma_cons (me_var (pv 4)) ma_nil)))) ma_nil)) ma_nil))))) (mg_name (i := 5) nd rfl (by first | exact Or.inl rfl | exact Or.inr rfl))
  (mss_cons (ms_par2 (i := 6) (j := 7) rfl nd rfl rfl (by decide) rfl rfl (ma_cons (me_call C.c__law_tune hA hr tk (by rfl) (ma_cons (me_var (pv 2)) ma_nil)) (ma_cons (me_call C.c__law_draw hA hr tk (by rfl) (ma_cons (me_var (pv 2)) (ma_cons me_int ma_nil))) ma_nil)) rfl)
  (mss_one (ms_if (mt_w (mw_or (mt_not (mt_val (me_call C.c__law_marks_right hA hr tk (by rfl) (ma_cons (me_var (pv 3)) (ma_cons (me_var (pv 5)) (ma_cons (me_var (pv 6)) (ma_cons (me_var (pv 7)) ma_nil))))))) (mw_or1 (mt_not (mt_val (me_call C.c__law_leads_right hA hr tk (by rfl) (ma_cons (me_var (pv 3)) (ma_cons (me_var (pv 5)) (ma_cons (me_var (pv 6)) (ma_cons (me_var (pv 7)) ma_nil))))))))))
  (mss_one (ms_ret me_bl))
  mss_nil)))))))))
  (mss_one (ms_ret me_bl)))
end
end Q

set_option maxHeartbeats 0
namespace Q
open PySem PySem.Spec PyProof.Rows L2
theorem ob_eq (s : PySem.W.SharedT) : ob s = hk.obs s.abs := obsQ_eq (HandSHeadRun.getT_eq s)
structure DL (K : PySem.W.Frag) (mg : Str → Option Value) : Prop where
  d_is_whole : ∃ fd, DQ K mg "is_whole" "is_whole" "is_whole" (defArgs s_is_whole) (defBody s_is_whole) (defScope s_is_whole) ["thing"] ["thing"] (He.ga K "is_whole") fd
  d_is_among : ∃ fd, DQ K mg "is_among" "is_among" "is_among" (defArgs s_is_among) (defBody s_is_among) (defScope s_is_among) ["thing", "low", "high"] ["thing", "low", "high"] (He.ga K "is_among") fd
  d_is_row : ∃ fd, DQ K mg "is_row" "is_row" "is_row" (defArgs s_is_row) (defBody s_is_row) (defScope s_is_row) ["thing", "low", "high"] ["thing", "low", "high"] (He.ga K "is_row") fd
  d_is_light_of : ∃ fd, DQ K mg "is_light_of" "is_light_of" "is_light_of" (defArgs s_is_light_of) (defBody s_is_light_of) (defScope s_is_light_of) ["thing", "wide", "high", "row"] ["thing", "wide", "high"] (He.ga K "is_light_of") fd
  d_is_sky : ∃ fd, DQ K mg "is_sky" "is_sky" "is_sky" (defArgs s_is_sky) (defBody s_is_sky) (defScope s_is_sky) ["thing", "light"] ["thing"] (He.ga K "is_sky") fd
  d_need_sky : ∃ fd, DQ K mg "need_sky" "need_sky" "need_sky" (defArgs s_need_sky) (defBody s_need_sky) (defScope s_need_sky) ["thing"] ["thing"] (He.ga K "need_sky") fd
  d_is_item : ∃ fd, DQ K mg "is_item" "is_item" "is_item" (defArgs s_is_item) (defBody s_is_item) (defScope s_is_item) ["sky", "thing", "deep", "one"] ["sky", "thing", "deep"] (He.ga K "is_item") fd
  d_are_items : ∃ fd, DQ K mg "are_items" "are_items" "are_items" (defArgs s_are_items) (defBody s_are_items) (defScope s_are_items) ["sky", "thing", "deep", "one"] ["sky", "thing", "deep"] (He.ga K "are_items") fd
  d_size_of : ∃ fd, DQ K mg "size_of" "size_of" "size_of" (defArgs s_size_of) (defBody s_size_of) (defScope s_size_of) ["items", "found", "item"] ["items"] (He.ga K "size_of") fd
  d_is_scene_by : ∃ fd, DQ K mg "is_scene_by" "is_scene_by" "is_scene_by" (defArgs s_is_scene_by) (defBody s_is_scene_by) (defScope s_is_scene_by) ["sky", "thing"] ["sky", "thing"] (He.ga K "is_scene_by") fd
  d_need_scene : ∃ fd, DQ K mg "need_scene" "need_scene" "need_scene" (defArgs s_need_scene) (defBody s_need_scene) (defScope s_need_scene) ["sky", "thing"] ["sky", "thing"] (He.ga K "need_scene") fd
  d_need_both_scenes : ∃ fd, DQ K mg "need_both_scenes" "need_both" "need_both" (defArgs s_need_both_scenes) (defBody s_need_both_scenes) (defScope s_need_both_scenes) ["sky", "scene"] ["sky", "scene"] (He.ga K "need_both_scenes") fd
  d_beats_of : ∃ fd, DQ K mg "beats_of" "beats_of" "beats_of" (defArgs s_beats_of) (defBody s_beats_of) (defScope s_beats_of) ["sky", "scene"] ["sky", "scene"] (He.ga K "beats_of") fd
  d_marks_in : ∃ fd, DQ K mg "marks_in" "marks_in" "marks_in" (defArgs s_marks_in) (defBody s_marks_in) (defScope s_marks_in) ["items", "found", "item"] ["items"] (He.ga K "marks_in") fd
  d_marks_of : ∃ fd, DQ K mg "marks_of" "marks_of" "marks_of" (defArgs s_marks_of) (defBody s_marks_of) (defScope s_marks_of) ["sky", "scene"] ["sky", "scene"] (He.ga K "marks_of") fd
  d_about : ∃ fd, DQ K mg "about" "about" "about" (defArgs s_about) (defBody s_about) (defScope s_about) ["items", "found", "item", "one"] ["items"] (He.ga K "about") fd
  d_turned_about : ∃ fd, DQ K mg "turned_about" "turned_about" "turned_about" (defArgs s_turned_about) (defBody s_turned_about) (defScope s_turned_about) ["sky", "scene"] ["sky", "scene"] (He.ga K "turned_about") fd
  d_is_tune : ∃ fd, DQ K mg "is_tune" "is_tune" "is_tune" (defArgs s_is_tune) (defBody s_is_tune) (defScope s_is_tune) ["thing", "bar"] ["thing"] (He.ga K "is_tune") fd
  d_need_tune : ∃ fd, DQ K mg "need_tune" "need_tune" "need_tune" (defArgs s_need_tune) (defBody s_need_tune) (defScope s_need_tune) ["thing"] ["thing"] (He.ga K "need_tune") fd
  d_begins_of : ∃ fd, DQ K mg "begins_of" "begins_of" "begins_of" (defArgs s_begins_of) (defBody s_begins_of) (defScope s_begins_of) ["tune", "number"] ["tune"] (He.ga K "begins_of") fd
  d_marks_by : ∃ fd, DQ K mg "marks_by" "marks_by" "marks_by" (defArgs s_marks_by) (defBody s_marks_by) (defScope s_marks_by) ["items", "whole", "found", "ahead", "item", "inner", "long", "turn", "left"] ["items", "whole"] (He.ga K "marks_by") fd
  d_need_both_tunes : ∃ fd, DQ K mg "need_both_tunes" "need_both" "need_both" (defArgs s_need_both_tunes) (defBody s_need_both_tunes) (defScope s_need_both_tunes) ["sky", "scene", "tune"] ["sky", "scene", "tune"] (He.ga K "need_both_tunes") fd
  d_lefts_by : ∃ fd, DQ K mg "lefts_by" "lefts_by" "lefts_by" (defArgs s_lefts_by) (defBody s_lefts_by) (defScope s_lefts_by) ["scene", "tune"] ["scene", "tune"] (He.ga K "lefts_by") fd
  d_marks_left : ∃ fd, DQ K mg "marks_left" "marks_left" "marks_left" (defArgs s_marks_left) (defBody s_marks_left) (defScope s_marks_left) ["sky", "scene", "tune"] ["sky", "scene", "tune"] (He.ga K "marks_left") fd
  d_is_tied : ∃ fd, DQ K mg "is_tied" "is_tied" "is_tied" (defArgs s_is_tied) (defBody s_is_tied) (defScope s_is_tied) ["tune", "left", "lead"] ["tune", "left", "lead"] (He.ga K "is_tied") fd
  d_loose_by : ∃ fd, DQ K mg "loose_by" "loose_by" "loose_by" (defArgs s_loose_by) (defBody s_loose_by) (defScope s_loose_by) ["tune", "lefts", "lead", "left"] ["tune", "lefts", "lead"] (He.ga K "loose_by") fd
  d_tied : ∃ fd, DQ K mg "tied" "tied" "tied" (defArgs s_tied) (defBody s_tied) (defScope s_tied) ["sky", "scene", "tune", "lefts", "rows", "lead", "row"] ["sky", "scene", "tune"] (He.ga K "tied") fd
  d_shows_tied : ∃ fd, DQ K mg "shows_tied" "shows_tied" "shows_tied" (defArgs s_shows_tied) (defBody s_shows_tied) (defScope s_shows_tied) ["sky", "scene", "tune", "thing", "lefts", "whole", "lead", "left"] ["sky", "scene", "tune", "thing"] (He.ga K "shows_tied") fd
  d__law_cell_at : ∃ fd, DQ K mg "_law_cell_at" "_law_cell_at" "_law_cell_at" (defArgs s__law_cell_at) (defBody s__law_cell_at) (defScope s__law_cell_at) ["_law_script", "_law_k"] ["_law_script", "_law_k"] (He.ga K "_law_cell_at") fd
  d__law_pen : ∃ fd, DQ K mg "_law_pen" "_law_pen" "_law_pen" (defArgs s__law_pen) (defBody s__law_pen) (defScope s__law_pen) ["_law_cell"] ["_law_cell"] (He.ga K "_law_pen") fd
  d__law_draw : ∃ fd, DQ K mg "_law_draw" "_law_draw" "_law_draw" (defArgs s__law_draw) (defBody s__law_draw) (defScope s__law_draw) ["_law_pen_here", "_law_many_here", "_law_found", "_law_stirred"] ["_law_pen_here", "_law_many_here"] (He.ga K "_law_draw") fd
  d__law_pick : ∃ fd, DQ K mg "_law_pick" "_law_pick" "_law_pick" (defArgs s__law_pick) (defBody s__law_pick) (defScope s__law_pick) ["_law_pen_here", "_law_some"] ["_law_pen_here", "_law_some"] (He.ga K "_law_pick") fd
  d__law_sky : ∃ fd, DQ K mg "_law_sky" "_law_sky" "_law_sky" (defArgs s__law_sky) (defBody s__law_sky) (defScope s__law_sky) ["_law_pen_here", "_law_most", "_law_wide", "_law_high", "_law_lights", "_law_longs", "_law_lap", "_law_speed", "_law_rows", "_law_turn"] ["_law_pen_here", "_law_most"] (He.ga K "_law_sky") fd
  d__law_item : ∃ fd, DQ K mg "_law_item" "_law_item" "_law_item" (defArgs s__law_item) (defBody s__law_item) (defScope s__law_item) ["_law_pen_here", "_law_sky_here", "_law_deep_here", "_law_far", "_law_way", "_law_turn"] ["_law_pen_here", "_law_sky_here", "_law_deep_here", "_law_far"] (He.ga K "_law_item") fd
  d__law_scene : ∃ fd, DQ K mg "_law_scene" "_law_scene" "_law_scene" (defArgs s__law_scene) (defBody s__law_scene) (defScope s__law_scene) ["_law_pen_here", "_law_sky_here", "_law_deep_here", "_law_most", "_law_far", "_law_lap"] ["_law_pen_here", "_law_sky_here", "_law_deep_here", "_law_most", "_law_far"] (He.ga K "_law_scene") fd
  d__law_tune : ∃ fd, DQ K mg "_law_tune" "_law_tune" "_law_tune" (defArgs s__law_tune) (defBody s__law_tune) (defScope s__law_tune) ["_law_pen_here", "_law_most", "_law_bar"] ["_law_pen_here"] (He.ga K "_law_tune") fd
  d__law_small_scene : ∃ fd, DQ K mg "_law_small_scene" "_law_small_scene" "_law_small_scene" (defArgs s__law_small_scene) (defBody s__law_small_scene) (defScope s__law_small_scene) ["_law_pen_here", "_law_sky_here", "_law_scene_here", "_law_plain"] ["_law_pen_here", "_law_sky_here"] (He.ga K "_law_small_scene") fd
  d__law_many : ∃ fd, DQ K mg "_law_many" "_law_many" "_law_many" (defArgs s__law_many) (defBody s__law_many) (defScope s__law_many) ["_law_items", "_law_found", "_law_item_here"] ["_law_items"] (He.ga K "_law_many") fd
  d__law_all_leads : ∃ fd, DQ K mg "_law_all_leads" "_law_all_leads" "_law_all_leads" (defArgs s__law_all_leads) (defBody s__law_all_leads) (defScope s__law_all_leads) ["_law_sky_here", "_law_scene_here", "_law_tune_here", "_law_lead"] ["_law_sky_here", "_law_scene_here", "_law_tune_here"] (He.ga K "_law_all_leads") fd
  d__law_marks_right : ∃ fd, DQ K mg "_law_marks_right" "_law_marks_right" "_law_marks_right" (defArgs s__law_marks_right) (defBody s__law_marks_right) (defScope s__law_marks_right) ["_law_sky_here", "_law_scene_here", "_law_tune_here", "_law_ahead", "_law_whole", "_law_lefts", "_law_beats", "_law_later", "_law_twice", "_law_left"] ["_law_sky_here", "_law_scene_here", "_law_tune_here", "_law_ahead"] (He.ga K "_law_marks_right") fd
  d__law_leads_right : ∃ fd, DQ K mg "_law_leads_right" "_law_leads_right" "_law_leads_right" (defArgs s__law_leads_right) (defBody s__law_leads_right) (defScope s__law_leads_right) ["_law_sky_here", "_law_scene_here", "_law_tune_here", "_law_ahead", "_law_whole", "_law_leads", "_law_word", "_law_thing", "_law_later", "_law_double", "_law_lead"] ["_law_sky_here", "_law_scene_here", "_law_tune_here", "_law_ahead"] (He.ga K "_law_leads_right") fd
  d__law_flat : ∃ fd, DQ K mg "_law_flat" "_law_flat" "_law_flat" (defArgs s__law_flat) (defBody s__law_flat) (defScope s__law_flat) ["_law_scene_here"] ["_law_scene_here"] (He.ga K "_law_flat") fd
  d__law_deep : ∃ fd, DQ K mg "_law_deep" "_law_deep" "_law_deep" (defArgs s__law_deep) (defBody s__law_deep) (defScope s__law_deep) ["_law_items", "_law_item_here"] ["_law_items"] (He.ga K "_law_deep") fd
  d_law : ∃ fd, DQ K mg "law" "law" "law" (defArgs s_law) (defBody s_law) (defScope s_law) ["_law_script", "_law_k", "_law_pen_here", "_law_sky_here", "_law_one", "_law_scene_here", "_law_tune_here", "_law_ahead"] ["_law_script"] (He.ga K "law") fd
theorem facts {K : PySem.W.Frag} {h : Heap} {mg : Str → Option Value} (X : K.In h) (G : h.Ns mainGlobals mg) (cx : He.SaysD fa fn K ∧ consB cs K = true) : GL K mg ∧ DL K mg := by
  obtain ⟨c, cx⟩ := cx
  refine ⟨⟨?_, ?_, ?_, ?_, ?_, ?_, ?_, ?_, ?_, ?_, ?_, ?_, ?_, ?_, ?_, ?_, ?_, ?_, ?_, ?_, ?_, ?_, ?_, ?_, ?_, ?_, ?_, ?_, ?_, ?_, ?_⟩, ⟨?_, ?_, ?_, ?_, ?_, ?_, ?_, ?_, ?_, ?_, ?_, ?_, ?_, ?_, ?_, ?_, ?_, ?_, ?_, ?_, ?_, ?_, ?_, ?_, ?_, ?_, ?_, ?_, ?_, ?_, ?_, ?_, ?_, ?_, ?_, ?_, ?_, ?_, ?_, ?_, ?_, ?_, ?_, ?_⟩⟩
  · exact He.free_ok X G (c.fact 44 (f := .free "all") rfl)
  · exact He.free_ok X G (c.fact 45 (f := .free "bool") rfl)
  · exact He.free_ok X G (c.fact 46 (f := .free "enumerate") rfl)
  · exact He.free_ok X G (c.fact 47 (f := .free "int") rfl)
  · exact He.free_ok X G (c.fact 48 (f := .free "isinstance") rfl)
  · exact He.free_ok X G (c.fact 49 (f := .free "len") rfl)
  · exact He.free_ok X G (c.fact 50 (f := .free "list") rfl)
  · exact He.free_ok X G (c.fact 51 (f := .free "max") rfl)
  · exact He.free_ok X G (c.fact 52 (f := .free "min") rfl)
  · exact He.free_ok X G (c.fact 53 (f := .free "range") rfl)
  · exact He.free_ok X G (c.fact 54 (f := .free "set") rfl)
  · exact He.free_ok X G (c.fact 55 (f := .free "sorted") rfl)
  · exact He.free_ok X G (c.fact 56 (f := .free "str") rfl)
  · exact He.free_ok X G (c.fact 57 (f := .free "sum") rfl)
  · exact He.free_ok X G (c.fact 58 (f := .free "tuple") rfl)
  · exact He.str_ok X G (c.fact 59 (f := .str "AGAIN" "again") rfl)
  · exact He.int_ok X G (c.fact 60 (f := .int "LEAST_WIDE" 4) rfl)
  · exact He.int_ok X G (c.fact 61 (f := .int "MOST_BARS" 8) rfl)
  · exact He.int_ok X G (c.fact 62 (f := .int "MOST_BEATS" 100000000000) rfl)
  · exact He.int_ok X G (c.fact 63 (f := .int "MOST_DEEP" 3) rfl)
  · exact He.int_ok X G (c.fact 64 (f := .int "MOST_GO" 99) rfl)
  · exact He.int_ok X G (c.fact 65 (f := .int "MOST_HIGH" 5) rfl)
  · exact He.int_ok X G (c.fact 66 (f := .int "MOST_ITEMS" 8) rfl)
  · exact He.int_ok X G (c.fact 67 (f := .int "MOST_LIGHTS" 6) rfl)
  · exact He.int_ok X G (c.fact 68 (f := .int "MOST_LONG" 12) rfl)
  · exact He.int_ok X G (c.fact 69 (f := .int "MOST_ROWS" 4) rfl)
  · exact He.int_ok X G (c.fact 70 (f := .int "MOST_SPEED" 9) rfl)
  · exact He.int_ok X G (c.fact 71 (f := .int "MOST_TIMES" 1000000) rfl)
  · exact He.int_ok X G (c.fact 72 (f := .int "MOST_WIDE" 12) rfl)
  · exact He.str_ok X G (c.fact 73 (f := .str "NEVER" "never") rfl)
  · exact He.str_ok X G (c.fact 74 (f := .str "TIED" "tied") rfl)
  · obtain ⟨fd, F⟩ := c.def_ 0 (d := d_is_whole) rfl
    exact ⟨fd, F, sc_is_whole, He.glo_ok X G (c.fact 0 (f := .glo "is_whole") rfl), F.bindsN fun _ _ _ _ _ _ us hl => match us, hl with | [_], _ => rfl⟩
  · obtain ⟨fd, F⟩ := c.def_ 1 (d := d_is_among) rfl
    exact ⟨fd, F, sc_is_among, He.glo_ok X G (c.fact 1 (f := .glo "is_among") rfl), F.bindsN fun _ _ _ _ _ _ us hl => match us, hl with | [_, _, _], _ => rfl⟩
  · obtain ⟨fd, F⟩ := c.def_ 2 (d := d_is_row) rfl
    exact ⟨fd, F, sc_is_row, He.glo_ok X G (c.fact 2 (f := .glo "is_row") rfl), F.bindsN fun _ _ _ _ _ _ us hl => match us, hl with | [_, _, _], _ => rfl⟩
  · obtain ⟨fd, F⟩ := c.def_ 3 (d := d_is_light_of) rfl
    exact ⟨fd, F, sc_is_light_of, He.glo_ok X G (c.fact 3 (f := .glo "is_light_of") rfl), F.bindsN fun _ _ _ _ _ _ us hl => match us, hl with | [_, _, _], _ => rfl⟩
  · obtain ⟨fd, F⟩ := c.def_ 4 (d := d_is_sky) rfl
    exact ⟨fd, F, sc_is_sky, He.glo_ok X G (c.fact 4 (f := .glo "is_sky") rfl), F.bindsN fun _ _ _ _ _ _ us hl => match us, hl with | [_], _ => rfl⟩
  · obtain ⟨fd, F⟩ := c.def_ 5 (d := d_need_sky) rfl
    exact ⟨fd, F, sc_need_sky, He.glo_ok X G (c.fact 5 (f := .glo "need_sky") rfl), F.bindsN fun _ _ _ _ _ _ us hl => match us, hl with | [_], _ => rfl⟩
  · obtain ⟨fd, F⟩ := c.def_ 6 (d := d_is_item) rfl
    exact ⟨fd, F, sc_is_item, He.glo_ok X G (c.fact 6 (f := .glo "is_item") rfl), F.bindsN fun _ _ _ _ _ _ us hl => match us, hl with | [_, _, _], _ => rfl⟩
  · obtain ⟨fd, F⟩ := c.def_ 7 (d := d_are_items) rfl
    exact ⟨fd, F, sc_are_items, He.glo_ok X G (c.fact 7 (f := .glo "are_items") rfl), F.bindsN fun _ _ _ _ _ _ us hl => match us, hl with | [_, _, _], _ => rfl⟩
  · obtain ⟨fd, F⟩ := c.def_ 8 (d := d_size_of) rfl
    exact ⟨fd, F, sc_size_of, He.glo_ok X G (c.fact 8 (f := .glo "size_of") rfl), F.bindsN fun _ _ _ _ _ _ us hl => match us, hl with | [_], _ => rfl⟩
  · obtain ⟨fd, F⟩ := c.def_ 9 (d := d_is_scene_by) rfl
    exact ⟨fd, F, sc_is_scene_by, He.glo_ok X G (c.fact 9 (f := .glo "is_scene_by") rfl), F.bindsN fun _ _ _ _ _ _ us hl => match us, hl with | [_, _], _ => rfl⟩
  · obtain ⟨fd, F⟩ := c.def_ 10 (d := d_need_scene) rfl
    exact ⟨fd, F, sc_need_scene, He.glo_ok X G (c.fact 10 (f := .glo "need_scene") rfl), F.bindsN fun _ _ _ _ _ _ us hl => match us, hl with | [_, _], _ => rfl⟩
  · obtain ⟨fd, F⟩ := c.def_ 11 (d := d_need_both_scenes) rfl
    exact ⟨fd, F, sc_need_both_scenes, He.glo_ok X G (c.fact 11 (f := .glo "need_both_scenes") rfl), F.bindsN fun _ _ _ _ _ _ us hl => match us, hl with | [_, _], _ => rfl⟩
  · obtain ⟨fd, F⟩ := c.def_ 12 (d := d_beats_of) rfl
    exact ⟨fd, F, sc_beats_of, He.glo_ok X G (c.fact 12 (f := .glo "beats_of") rfl), F.bindsN fun _ _ _ _ _ _ us hl => match us, hl with | [_, _], _ => rfl⟩
  · obtain ⟨fd, F⟩ := c.def_ 13 (d := d_marks_in) rfl
    exact ⟨fd, F, sc_marks_in, He.glo_ok X G (c.fact 13 (f := .glo "marks_in") rfl), F.bindsN fun _ _ _ _ _ _ us hl => match us, hl with | [_], _ => rfl⟩
  · obtain ⟨fd, F⟩ := c.def_ 14 (d := d_marks_of) rfl
    exact ⟨fd, F, sc_marks_of, He.glo_ok X G (c.fact 14 (f := .glo "marks_of") rfl), F.bindsN fun _ _ _ _ _ _ us hl => match us, hl with | [_, _], _ => rfl⟩
  · obtain ⟨fd, F⟩ := c.def_ 15 (d := d_about) rfl
    exact ⟨fd, F, sc_about, He.glo_ok X G (c.fact 15 (f := .glo "about") rfl), F.bindsN fun _ _ _ _ _ _ us hl => match us, hl with | [_], _ => rfl⟩
  · obtain ⟨fd, F⟩ := c.def_ 16 (d := d_turned_about) rfl
    exact ⟨fd, F, sc_turned_about, He.glo_ok X G (c.fact 16 (f := .glo "turned_about") rfl), F.bindsN fun _ _ _ _ _ _ us hl => match us, hl with | [_, _], _ => rfl⟩
  · obtain ⟨fd, F⟩ := c.def_ 17 (d := d_is_tune) rfl
    exact ⟨fd, F, sc_is_tune, He.glo_ok X G (c.fact 17 (f := .glo "is_tune") rfl), F.bindsN fun _ _ _ _ _ _ us hl => match us, hl with | [_], _ => rfl⟩
  · obtain ⟨fd, F⟩ := c.def_ 18 (d := d_need_tune) rfl
    exact ⟨fd, F, sc_need_tune, He.glo_ok X G (c.fact 18 (f := .glo "need_tune") rfl), F.bindsN fun _ _ _ _ _ _ us hl => match us, hl with | [_], _ => rfl⟩
  · obtain ⟨fd, F⟩ := c.def_ 19 (d := d_begins_of) rfl
    exact ⟨fd, F, sc_begins_of, He.glo_ok X G (c.fact 19 (f := .glo "begins_of") rfl), F.bindsN fun _ _ _ _ _ _ us hl => match us, hl with | [_], _ => rfl⟩
  · obtain ⟨fd, F⟩ := c.def_ 20 (d := d_marks_by) rfl
    exact ⟨fd, F, sc_marks_by, He.glo_ok X G (c.fact 20 (f := .glo "marks_by") rfl), F.bindsN fun _ _ _ _ _ _ us hl => match us, hl with | [_, _], _ => rfl⟩
  · obtain ⟨fd, F⟩ := c.def_ 21 (d := d_need_both_tunes) rfl
    exact ⟨fd, F, sc_need_both_tunes, He.glo_ok X G (c.fact 21 (f := .glo "need_both_tunes") rfl), F.bindsN fun _ _ _ _ _ _ us hl => match us, hl with | [_, _, _], _ => rfl⟩
  · obtain ⟨fd, F⟩ := c.def_ 22 (d := d_lefts_by) rfl
    exact ⟨fd, F, sc_lefts_by, He.glo_ok X G (c.fact 22 (f := .glo "lefts_by") rfl), F.bindsN fun _ _ _ _ _ _ us hl => match us, hl with | [_, _], _ => rfl⟩
  · obtain ⟨fd, F⟩ := c.def_ 23 (d := d_marks_left) rfl
    exact ⟨fd, F, sc_marks_left, He.glo_ok X G (c.fact 23 (f := .glo "marks_left") rfl), F.bindsN fun _ _ _ _ _ _ us hl => match us, hl with | [_, _, _], _ => rfl⟩
  · obtain ⟨fd, F⟩ := c.def_ 24 (d := d_is_tied) rfl
    exact ⟨fd, F, sc_is_tied, He.glo_ok X G (c.fact 24 (f := .glo "is_tied") rfl), F.bindsN fun _ _ _ _ _ _ us hl => match us, hl with | [_, _, _], _ => rfl⟩
  · obtain ⟨fd, F⟩ := c.def_ 25 (d := d_loose_by) rfl
    exact ⟨fd, F, sc_loose_by, He.glo_ok X G (c.fact 25 (f := .glo "loose_by") rfl), F.bindsN fun _ _ _ _ _ _ us hl => match us, hl with | [_, _, _], _ => rfl⟩
  · obtain ⟨fd, F⟩ := c.def_ 26 (d := d_tied) rfl
    exact ⟨fd, F, sc_tied, He.glo_ok X G (c.fact 26 (f := .glo "tied") rfl), F.bindsN fun _ _ _ _ _ _ us hl => match us, hl with | [_, _, _], _ => rfl⟩
  · obtain ⟨fd, F⟩ := c.def_ 27 (d := d_shows_tied) rfl
    exact ⟨fd, F, sc_shows_tied, He.glo_ok X G (c.fact 27 (f := .glo "shows_tied") rfl), F.bindsN fun _ _ _ _ _ _ us hl => match us, hl with | [_, _, _, _], _ => rfl⟩
  · obtain ⟨fd, F⟩ := c.def_ 28 (d := d__law_cell_at) rfl
    exact ⟨fd, F, sc__law_cell_at, He.glo_ok X G (c.fact 28 (f := .glo "_law_cell_at") rfl), F.bindsN fun _ _ _ _ _ _ us hl => match us, hl with | [_, _], _ => rfl⟩
  · obtain ⟨fd, F⟩ := c.def_ 29 (d := d__law_pen) rfl
    exact ⟨fd, F, sc__law_pen, He.glo_ok X G (c.fact 29 (f := .glo "_law_pen") rfl), F.bindsN fun _ _ _ _ _ _ us hl => match us, hl with | [_], _ => rfl⟩
  · obtain ⟨fd, F⟩ := c.def_ 30 (d := d__law_draw) rfl
    exact ⟨fd, F, sc__law_draw, He.glo_ok X G (c.fact 30 (f := .glo "_law_draw") rfl), F.bindsN fun _ _ _ _ _ _ us hl => match us, hl with | [_, _], _ => rfl⟩
  · obtain ⟨fd, F⟩ := c.def_ 31 (d := d__law_pick) rfl
    exact ⟨fd, F, sc__law_pick, He.glo_ok X G (c.fact 31 (f := .glo "_law_pick") rfl), F.bindsN fun _ _ _ _ _ _ us hl => match us, hl with | [_, _], _ => rfl⟩
  · obtain ⟨fd, F⟩ := c.def_ 32 (d := d__law_sky) rfl
    exact ⟨fd, F, sc__law_sky, He.glo_ok X G (c.fact 32 (f := .glo "_law_sky") rfl), F.bindsN fun _ _ _ _ _ _ us hl => match us, hl with | [_, _], _ => rfl⟩
  · obtain ⟨fd, F⟩ := c.def_ 33 (d := d__law_item) rfl
    exact ⟨fd, F, sc__law_item, He.glo_ok X G (c.fact 33 (f := .glo "_law_item") rfl), F.bindsN fun _ _ _ _ _ _ us hl => match us, hl with | [_, _, _, _], _ => rfl⟩
  · obtain ⟨fd, F⟩ := c.def_ 34 (d := d__law_scene) rfl
    exact ⟨fd, F, sc__law_scene, He.glo_ok X G (c.fact 34 (f := .glo "_law_scene") rfl), F.bindsN fun _ _ _ _ _ _ us hl => match us, hl with | [_, _, _, _, _], _ => rfl⟩
  · obtain ⟨fd, F⟩ := c.def_ 35 (d := d__law_tune) rfl
    exact ⟨fd, F, sc__law_tune, He.glo_ok X G (c.fact 35 (f := .glo "_law_tune") rfl), F.bindsN fun _ _ _ _ _ _ us hl => match us, hl with | [_], _ => rfl⟩
  · obtain ⟨fd, F⟩ := c.def_ 36 (d := d__law_small_scene) rfl
    exact ⟨fd, F, sc__law_small_scene, He.glo_ok X G (c.fact 36 (f := .glo "_law_small_scene") rfl), F.bindsN fun _ _ _ _ _ _ us hl => match us, hl with | [_, _], _ => rfl⟩
  · obtain ⟨fd, F⟩ := c.def_ 37 (d := d__law_many) rfl
    exact ⟨fd, F, sc__law_many, He.glo_ok X G (c.fact 37 (f := .glo "_law_many") rfl), F.bindsN fun _ _ _ _ _ _ us hl => match us, hl with | [_], _ => rfl⟩
  · obtain ⟨fd, F⟩ := c.def_ 38 (d := d__law_all_leads) rfl
    exact ⟨fd, F, sc__law_all_leads, He.glo_ok X G (c.fact 38 (f := .glo "_law_all_leads") rfl), F.bindsN fun _ _ _ _ _ _ us hl => match us, hl with | [_, _, _], _ => rfl⟩
  · obtain ⟨fd, F⟩ := c.def_ 39 (d := d__law_marks_right) rfl
    exact ⟨fd, F, sc__law_marks_right, He.glo_ok X G (c.fact 39 (f := .glo "_law_marks_right") rfl), F.bindsN fun _ _ _ _ _ _ us hl => match us, hl with | [_, _, _, _], _ => rfl⟩
  · obtain ⟨fd, F⟩ := c.def_ 40 (d := d__law_leads_right) rfl
    exact ⟨fd, F, sc__law_leads_right, He.glo_ok X G (c.fact 40 (f := .glo "_law_leads_right") rfl), F.bindsN fun _ _ _ _ _ _ us hl => match us, hl with | [_, _, _, _], _ => rfl⟩
  · obtain ⟨fd, F⟩ := c.def_ 41 (d := d__law_flat) rfl
    exact ⟨fd, F, sc__law_flat, He.glo_ok X G (c.fact 41 (f := .glo "_law_flat") rfl), F.bindsN fun _ _ _ _ _ _ us hl => match us, hl with | [_], _ => rfl⟩
  · obtain ⟨fd, F⟩ := c.def_ 42 (d := d__law_deep) rfl
    exact ⟨fd, F, sc__law_deep, He.glo_ok X G (c.fact 42 (f := .glo "_law_deep") rfl), F.bindsN fun _ _ _ _ _ _ us hl => match us, hl with | [_], _ => rfl⟩
  · obtain ⟨fd, F⟩ := c.def_ 43 (d := d_law) rfl
    exact ⟨fd, F, sc_law, He.glo_ok X G (c.fact 43 (f := .glo "law") rfl), F.bindsN fun _ _ _ _ _ _ us hl => match us, hl with | [_], _ => rfl⟩
section
variable {P : Program} {w : World} {K : PySem.W.Frag} {mg : Str → Option Value} {base : Heap}
theorem all_k (g : GL K mg) (D : DL K mg) : ∀ k, CL P w K mg base (callQ T k) k
  | 0 => ⟨D.d_is_whole.elim fun _ d => fn_zero d, D.d_is_among.elim fun _ d => fn_zero d, D.d_is_row.elim fun _ d => fn_zero d, D.d_is_light_of.elim fun _ d => fn_zero d, D.d_is_sky.elim fun _ d => fn_zero d, D.d_need_sky.elim fun _ d => fn_zero d, D.d_is_item.elim fun _ d => fn_zero d, D.d_are_items.elim fun _ d => fn_zero d, D.d_size_of.elim fun _ d => fn_zero d, D.d_is_scene_by.elim fun _ d => fn_zero d, D.d_need_scene.elim fun _ d => fn_zero d, D.d_need_both_scenes.elim fun _ d => fn_zero d, D.d_beats_of.elim fun _ d => fn_zero d, D.d_marks_in.elim fun _ d => fn_zero d, D.d_marks_of.elim fun _ d => fn_zero d, D.d_about.elim fun _ d => fn_zero d, D.d_turned_about.elim fun _ d => fn_zero d, D.d_is_tune.elim fun _ d => fn_zero d, D.d_need_tune.elim fun _ d => fn_zero d, D.d_begins_of.elim fun _ d => fn_zero d, D.d_marks_by.elim fun _ d => fn_zero d, D.d_need_both_tunes.elim fun _ d => fn_zero d, D.d_lefts_by.elim fun _ d => fn_zero d, D.d_marks_left.elim fun _ d => fn_zero d, D.d_is_tied.elim fun _ d => fn_zero d, D.d_loose_by.elim fun _ d => fn_zero d, D.d_tied.elim fun _ d => fn_zero d, D.d_shows_tied.elim fun _ d => fn_zero d, D.d__law_cell_at.elim fun _ d => fn_zero d, D.d__law_pen.elim fun _ d => fn_zero d, D.d__law_draw.elim fun _ d => fn_zero d, D.d__law_pick.elim fun _ d => fn_zero d, D.d__law_sky.elim fun _ d => fn_zero d, D.d__law_item.elim fun _ d => fn_zero d, D.d__law_scene.elim fun _ d => fn_zero d, D.d__law_tune.elim fun _ d => fn_zero d, D.d__law_small_scene.elim fun _ d => fn_zero d, D.d__law_many.elim fun _ d => fn_zero d, D.d__law_all_leads.elim fun _ d => fn_zero d, D.d__law_marks_right.elim fun _ d => fn_zero d, D.d__law_leads_right.elim fun _ d => fn_zero d, D.d__law_flat.elim fun _ d => fn_zero d, D.d__law_deep.elim fun _ d => fn_zero d, D.d_law.elim fun _ d => fn_zero d⟩
  | k + 1 => by
    have C := all_k g D k
    exact ⟨D.d_is_whole.elim fun _ d => fn_succ d T_is_whole rfl rfl (by decide) fun _ _ _ _ _ _ hA hr => ok_is_whole g C hA hr,
      D.d_is_among.elim fun _ d => fn_succ d T_is_among rfl rfl (by decide) fun _ _ _ _ _ _ hA hr => ok_is_among g C hA hr,
      D.d_is_row.elim fun _ d => fn_succ d T_is_row rfl rfl (by decide) fun _ _ _ _ _ _ hA hr => ok_is_row g C hA hr,
      D.d_is_light_of.elim fun _ d => fn_succ d T_is_light_of rfl rfl (by decide) fun _ _ _ _ _ _ hA hr => ok_is_light_of g C hA hr,
      D.d_is_sky.elim fun _ d => fn_succ d T_is_sky rfl rfl (by decide) fun _ _ _ _ _ _ hA hr => ok_is_sky g C hA hr,
      D.d_need_sky.elim fun _ d => fn_succ d T_need_sky rfl rfl (by decide) fun _ _ _ _ _ _ hA hr => ok_need_sky g C hA hr,
      D.d_is_item.elim fun _ d => fn_succ d T_is_item rfl rfl (by decide) fun _ _ _ _ _ _ hA hr => ok_is_item g C hA hr,
      D.d_are_items.elim fun _ d => fn_succ d T_are_items rfl rfl (by decide) fun _ _ _ _ _ _ hA hr => ok_are_items g C hA hr,
      D.d_size_of.elim fun _ d => fn_succ d T_size_of rfl rfl (by decide) fun _ _ _ _ _ _ hA hr => ok_size_of g C hA hr,
      D.d_is_scene_by.elim fun _ d => fn_succ d T_is_scene_by rfl rfl (by decide) fun _ _ _ _ _ _ hA hr => ok_is_scene_by g C hA hr,
      D.d_need_scene.elim fun _ d => fn_succ d T_need_scene rfl rfl (by decide) fun _ _ _ _ _ _ hA hr => ok_need_scene g C hA hr,
      D.d_need_both_scenes.elim fun _ d => fn_succ d T_need_both_scenes rfl rfl (by decide) fun _ _ _ _ _ _ hA hr => ok_need_both_scenes g C hA hr,
      D.d_beats_of.elim fun _ d => fn_succ d T_beats_of rfl rfl (by decide) fun _ _ _ _ _ _ hA hr => ok_beats_of g C hA hr,
      D.d_marks_in.elim fun _ d => fn_succ d T_marks_in rfl rfl (by decide) fun _ _ _ _ _ _ hA hr => ok_marks_in g C hA hr,
      D.d_marks_of.elim fun _ d => fn_succ d T_marks_of rfl rfl (by decide) fun _ _ _ _ _ _ hA hr => ok_marks_of g C hA hr,
      D.d_about.elim fun _ d => fn_succ d T_about rfl rfl (by decide) fun _ _ _ _ _ _ hA hr => ok_about g C hA hr,
      D.d_turned_about.elim fun _ d => fn_succ d T_turned_about rfl rfl (by decide) fun _ _ _ _ _ _ hA hr => ok_turned_about g C hA hr,
      D.d_is_tune.elim fun _ d => fn_succ d T_is_tune rfl rfl (by decide) fun _ _ _ _ _ _ hA hr => ok_is_tune g C hA hr,
      D.d_need_tune.elim fun _ d => fn_succ d T_need_tune rfl rfl (by decide) fun _ _ _ _ _ _ hA hr => ok_need_tune g C hA hr,
      D.d_begins_of.elim fun _ d => fn_succ d T_begins_of rfl rfl (by decide) fun _ _ _ _ _ _ hA hr => ok_begins_of g C hA hr,
      D.d_marks_by.elim fun _ d => fn_succ d T_marks_by rfl rfl (by decide) fun _ _ _ _ _ _ hA hr => ok_marks_by g C hA hr,
      D.d_need_both_tunes.elim fun _ d => fn_succ d T_need_both_tunes rfl rfl (by decide) fun _ _ _ _ _ _ hA hr => ok_need_both_tunes g C hA hr,
      D.d_lefts_by.elim fun _ d => fn_succ d T_lefts_by rfl rfl (by decide) fun _ _ _ _ _ _ hA hr => ok_lefts_by g C hA hr,
      D.d_marks_left.elim fun _ d => fn_succ d T_marks_left rfl rfl (by decide) fun _ _ _ _ _ _ hA hr => ok_marks_left g C hA hr,
      D.d_is_tied.elim fun _ d => fn_succ d T_is_tied rfl rfl (by decide) fun _ _ _ _ _ _ hA hr => ok_is_tied g C hA hr,
      D.d_loose_by.elim fun _ d => fn_succ d T_loose_by rfl rfl (by decide) fun _ _ _ _ _ _ hA hr => ok_loose_by g C hA hr,
      D.d_tied.elim fun _ d => fn_succ d T_tied rfl rfl (by decide) fun _ _ _ _ _ _ hA hr => ok_tied g C hA hr,
      D.d_shows_tied.elim fun _ d => fn_succ d T_shows_tied rfl rfl (by decide) fun _ _ _ _ _ _ hA hr => ok_shows_tied g C hA hr,
      D.d__law_cell_at.elim fun _ d => fn_succ d T__law_cell_at rfl rfl (by decide) fun _ _ _ _ _ _ hA hr => ok__law_cell_at g C hA hr,
      D.d__law_pen.elim fun _ d => fn_succ d T__law_pen rfl rfl (by decide) fun _ _ _ _ _ _ hA hr => ok__law_pen g C hA hr,
      D.d__law_draw.elim fun _ d => fn_succ d T__law_draw rfl rfl (by decide) fun _ _ _ _ _ _ hA hr => ok__law_draw g C hA hr,
      D.d__law_pick.elim fun _ d => fn_succ d T__law_pick rfl rfl (by decide) fun _ _ _ _ _ _ hA hr => ok__law_pick g C hA hr,
      D.d__law_sky.elim fun _ d => fn_succ d T__law_sky rfl rfl (by decide) fun _ _ _ _ _ _ hA hr => ok__law_sky g C hA hr,
      D.d__law_item.elim fun _ d => fn_succ d T__law_item rfl rfl (by decide) fun _ _ _ _ _ _ hA hr => ok__law_item g C hA hr,
      D.d__law_scene.elim fun _ d => fn_succ d T__law_scene rfl rfl (by decide) fun _ _ _ _ _ _ hA hr => ok__law_scene g C hA hr,
      D.d__law_tune.elim fun _ d => fn_succ d T__law_tune rfl rfl (by decide) fun _ _ _ _ _ _ hA hr => ok__law_tune g C hA hr,
      D.d__law_small_scene.elim fun _ d => fn_succ d T__law_small_scene rfl rfl (by decide) fun _ _ _ _ _ _ hA hr => ok__law_small_scene g C hA hr,
      D.d__law_many.elim fun _ d => fn_succ d T__law_many rfl rfl (by decide) fun _ _ _ _ _ _ hA hr => ok__law_many g C hA hr,
      D.d__law_all_leads.elim fun _ d => fn_succ d T__law_all_leads rfl rfl (by decide) fun _ _ _ _ _ _ hA hr => ok__law_all_leads g C hA hr,
      D.d__law_marks_right.elim fun _ d => fn_succ d T__law_marks_right rfl rfl (by decide) fun _ _ _ _ _ _ hA hr => ok__law_marks_right g C hA hr,
      D.d__law_leads_right.elim fun _ d => fn_succ d T__law_leads_right rfl rfl (by decide) fun _ _ _ _ _ _ hA hr => ok__law_leads_right g C hA hr,
      D.d__law_flat.elim fun _ d => fn_succ d T__law_flat rfl rfl (by decide) fun _ _ _ _ _ _ hA hr => ok__law_flat g C hA hr,
      D.d__law_deep.elim fun _ d => fn_succ d T__law_deep rfl rfl (by decide) fun _ _ _ _ _ _ hA hr => ok__law_deep g C hA hr,
      D.d_law.elim fun _ d => fn_succ d T_law rfl rfl (by decide) fun _ _ _ _ _ _ hA hr => ok_law g C hA hr⟩
end
end Q

open PySem PySem.W PySem.Calls PyProof.Rows
theorem PySem.Challenge.cw_domelights_k37_whole_leads_of_scenes_tur_holds : PySem.Challenge.rw_domelights_k37_whole_leads_of_scenes_tur.Holds := by
  w_on; o_law
  refine HandSHeadRun.head_any (r := OpenLaw.row PySem.Challenge.rw_domelights_k37_whole_leads_of_scenes_tur) (q := view (OpenLaw.row PySem.Challenge.rw_domelights_k37_whole_leads_of_scenes_tur).prog [70]) (H := Q.hk) (ob := Q.ob) (M := 40000) (loose := Q.loose) (d := HandSHeadRun.topDef (OpenLaw.row PySem.Challenge.rw_domelights_k37_whole_leads_of_scenes_tur).prog 70) (kwd := []) Q.ob_eq
    (by kernel_rfl) (fun s => by kernel_rfl) Q.run (by kernel_rfl) (by kernel_rfl) (by kernel_rfl) (by rfl) (by first | assumption | decide +kernel) (by decide +kernel) ⟨rfl, rfl, rfl, rfl, rfl, by decide +kernel⟩ ?hw ?hc
  case hw => w_witness2
  case hc =>
    refine Q.walk_G (l := PySem.Challenge.rw_domelights_k37_whole_leads_of_scenes_tur) (n := 63) (k := 40) (x := "_law_script") rfl (by decide) (by kernel_rfl) ⟨rfl, by decide, by decide⟩ ?F
    intro w mg fa h Y G hmg0
    obtain ⟨K, KX, c⟩ := Y
    have hmg : mg ("law" : PySem.Str) = some (.ref fa) := by
      have e : (HandSHeadRun.topDef (OpenLaw.row PySem.Challenge.rw_domelights_k37_whole_leads_of_scenes_tur).prog 70).name = ("law" : PySem.Str) := by kernel_rfl
      rw [← e]
      exact hmg0
    obtain ⟨g, D⟩ := Q.facts KX G c
    obtain ⟨fd, dl⟩ := D.d_law
    have e := hmg.symm.trans dl.g
    cases e
    have b := L2.FunD.bindsA (ps := ["_law_script"]) dl.F fun _ _ _ _ _ _ us hl => match us, hl with | [_], _ => rfl
    exact ⟨K, fd, _, KX, fun s v => b s [v] rfl, fun H a ns hl hO hS => Q.law_sp (mg := mg) (k := 40) Q.law_true H a ns hl hO hS,
      fun base _ _ => Q.fn_succG dl Q.T_law rfl rfl (by decide) fun _ _ _ _ _ _ hA hr => Q.ok_law g (Q.all_k g D 39) hA hr⟩
