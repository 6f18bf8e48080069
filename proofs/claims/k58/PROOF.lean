import PyProof.Rows.All
import HandS.ForMost
import HandS.ForExc
import HandS.Flow
import HandS.Style
import HandS.Zip
import HandS.TupAny
import HandS.TupMul
import HandS.Wide
import HandS.Lambda
import HandS.HeadHook1
import HandS.HeadHook2
import HandS.HeadHook4
import HandS.Defaults
import HandS.Ends
import HandS.HeadEnd
import HandS.IsInst
import HandS.SortInts
import HandS.Deep
import PyProof.SumWalkG
import PyProof.ReprRoads
import PyProof.FitsInt
import HandS.Iter
import KE.GoesEnum
import KE.GoesMore
import HandS.SortRule
import HandS.TupSets
import HandS.Dict
import HandS.More
import HandS.Conv
import HandS.List
import HandS.SetFor
import KE.KRevSl
import KE.GoesEnumKw
import HandS.Head0
import HandS.Head1
import HandS.Head2
import HandS.Exc
import HandS.ExcOwn
import PyProof.ExcBaseAll.ValueError
import HandS.Flt
import HandS.WideBits
import HandS.DictComp
import PyProof.DictUpdate
import PyProof.Rows.SortShellAny
import KE.DataCmp
import KE.DataMinMax
import HandS.SortKw
import PyProof.EqKinds
import HandS.DictTup
import Wide.All
import OpenK.AllK
import Wide.FinOn
import KE.KStateDown
import HandS.Base
import HandS.Call
import HandS.Words
import HandS.WordsExc
import PySem.Challenge.RW_domelights_k58_scenes_known_and_counted
set_option Elab.async false
set_option linter.all false
set_option maxRecDepth 100000
set_option maxHeartbeats 4000000
namespace Q
open PySem PySem.Spec PyProof.Rows L2

abbrev D := PyData
/-- what a lambda that was made stands on: its object, its code object, its name, what it took along -/
structure Clo where
  f : Addr
  c : Addr
  q : Str
  vs : List V
/-- what a slot or an expression holds -/
inductive W where
  | d (x : D)
  | ref (n : Nat)
  | own (xs : List D)
  | ownd (kvs : List (Key × D))
  | dn (ds : List (D × D))
  | tw (xs : List W)
  | fn (x : String)
  | scr (xs : List Int)
  | clo (j : Clo) (y : String) (ws : List W)
  | err (a : Addr) (c : String)
/-- what the store holds -/
inductive O where
  | lst (xs : List D)
  | dct (ks : List (List (Int ⊕ List Int)))
  | dcm (kvs : List (PyData × PyData))
  | ins (C : String) (fs : List (Str × W))
  | tab (x z : String)
/-- keys of dicts that are changed: tuples of ints and of tuples of ints -/
abbrev NK := List (Int ⊕ List Int)
def enc1 : Int ⊕ List Int → D
  | .inl i => .int i
  | .inr ns => .tuple (ns.map .int)
def encN (ks : NK) : D := .tuple (ks.map enc1)
def hash1 : Int ⊕ List Int → Int
  | .inl i => hashInt i
  | .inr ns => reduceHash (Builtin.Tuple.tupleHashOf (ns.map hashInt))
def hashN (ks : NK) : Int := reduceHash (Builtin.Tuple.tupleHashOf (ks.map hash1))
/-- the dict at a has just these keys, True at each -/
def NestD (a : Addr) (es : List (NK × Addr)) (h : Heap) : Prop :=
  (a == sysModules) = false ∧ (es.map (·.1)).Nodup ∧ ∃ (o : Obj) (ar : Array DictEntry) (ep : Nat), h.get? a = some o ∧ o.ExactDict ∧ o.data = .dict ar ep ∧ ar.toList = es.map fun e => { hash := hashN e.1, key := .ref e.2, val := .bool true }
/-- the dict at a has just these keys (where they stand), these values -/
def NestM (a : Addr) (es : List (NK × Addr × Value)) (h : Heap) : Prop :=
  (a == sysModules) = false ∧ (es.map (·.1)).Nodup ∧ ∃ (o : Obj) (ar : Array DictEntry) (ep : Nat), h.get? a = some o ∧ o.ExactDict ∧ o.data = .dict ar ep ∧ ar.toList = es.map fun e => { hash := hashN e.1, key := .ref e.2.1, val := e.2.2 }
abbrev EnvQ := List (Option W)
abbrev Sto := List O
inductive R (α : Type) where
  | ok (a : α) (S : Sto)
  | exc (c : String) (S : Sto)
  | stuck
abbrev CF := String → List W → Sto → R W
/-- a list, a tuple that stays: read, and not among what changes (N); or written by the top -/
def RdL (K : PySem.W.Frag) (H : Hp) (N : Addr → Prop) (a : Addr) (xs : List V) : Prop := ¬ N a ∧ H a = some (.lst xs)
def RdT (K : PySem.W.Frag) (H : Hp) (N : Addr → Prop) (a : Addr) (xs : List V) : Prop := (¬ N a ∧ Rd H a (.tup xs)) ∨ SqT K (fun _ => none) a xs
/-- a dict's flat values, its keys as data -/
inductive Fl : V → D → Prop
  | non : Fl .non .none
  | bl (b : Bool) : Fl (.bl b) (.bool b)
  | int (i : Int) : Fl (.int i) (.int i)
  | str (x : Str) : Fl (.str x) (.str x)
def keyD : Key → D
  | .inl i => .int i
  | .inr x => .str x
inductive KvF : List (Key × V) → List (D × D) → Prop
  | nil : KvF [] []
  | cons (k : Key) {v : V} {d : D} {vs : List (Key × V)} {ds : List (D × D)} : Fl v d → KvF vs ds → KvF ((k, v) :: vs) ((keyD k, d) :: ds)
mutual
inductive Dn (K : PySem.W.Frag) (H : Hp) (N : Addr → Prop) : V → D → Prop
  | non : Dn K H N .non .none
  | bl (b : Bool) : Dn K H N (.bl b) (.bool b)
  | int (i : Int) : Dn K H N (.int i) (.int i)
  | str (x : Str) : Dn K H N (.str x) (.str x)
  | lst {a : Addr} {xs : List V} {ds : List D} : RdL K H N a xs → DnAll K H N xs ds → Dn K H N (.ref a) (.list ds)
  | tup {a : Addr} {xs : List V} {ds : List D} : RdT K H N a xs → DnAll K H N xs ds → Dn K H N (.ref a) (.tuple ds)
  | dic {a : Addr} {o : Obj} {vs : List (Key × V)} {ds : List (D × D)} : ¬ N a → H a = some (.frz o (.dK vs)) → KvF vs ds → Dn K H N (.ref a) (.dict ds)
inductive DnAll (K : PySem.W.Frag) (H : Hp) (N : Addr → Prop) : List V → List D → Prop
  | nil : DnAll K H N [] []
  | cons {v : V} {vs : List V} {d : D} {ds : List D} : Dn K H N v d → DnAll K H N vs ds → DnAll K H N (v :: vs) (d :: ds)
end
/-- a dict's entries: keys, where they stand, values -/
inductive KvN (K : PySem.W.Frag) (H : Hp) (N : Addr → Prop) : List (NK × Addr × Value) → List (D × D) → Prop
  | nil : KvN K H N [] []
  | cons {k : NK} {ka : Addr} {v : V} {u : Value} {d : D} {xs : List (NK × Addr × Value)} {ds : List (D × D)} : Dn K H N (.ref ka) (encN k) → RelV v u → Dn K H N v d → KvN K H N xs ds → KvN K H N ((k, ka, u) :: xs) ((encN k, d) :: ds)
/-- a dict's keys and values -/
inductive KvR (K : PySem.W.Frag) (H : Hp) (N : Addr → Prop) : List (Key × V) → List (Key × D) → Prop
  | nil : KvR K H N [] []
  | cons (k : Key) {v : V} {d : D} {vs : List (Key × V)} {ds : List (Key × D)} : Dn K H N v d → KvR K H N vs ds → KvR K H N ((k, v) :: vs) ((k, d) :: ds)
/-- a list that is read, in whatever way it stands (the script) -/
def RdF (K : PySem.W.Frag) (H : Hp) (N : Addr → Prop) (a : Addr) (xs : List V) : Prop := (¬ N a ∧ Rd H a (.lst xs)) ∨ SqL K (fun _ => none) a xs
/-- what was tracked and does not change stays as it is -/
def Keep (N : Addr → Prop) (H : Hp) (N' : Addr → Prop) (H' : Hp) : Prop := ∀ a o, ¬ N a → H a = some o → H' a = some o ∧ ¬ N' a
theorem Keep.trans {N N1 N2 : Addr → Prop} {H H1 H2 : Hp} (x : Keep N H N1 H1) (y : Keep N1 H1 N2 H2) : Keep N H N2 H2 := fun a o n e =>
  let z := x a o n e
  y a o z.2 z.1
section
variable {K : PySem.W.Frag} {mg : Str → Option Value} {H H' : Hp} {N N' : Addr → Prop}
theorem RdL.keep {a : Addr} {xs : List V} (k : Keep N H N' H') (h : RdL K H N a xs) : RdL K H' N' a xs := ⟨(k a _ h.1 h.2).2, (k a _ h.1 h.2).1⟩
theorem RdF.keep {a : Addr} {xs : List V} (k : Keep N H N' H') (h : RdF K H N a xs) : RdF K H' N' a xs := by
  rcases h with ⟨n, h | ⟨o, h⟩⟩ | h
  · obtain ⟨e, n'⟩ := k a _ n h
    exact .inl ⟨n', .inl e⟩
  · obtain ⟨e, n'⟩ := k a _ n h
    exact .inl ⟨n', .inr ⟨o, e⟩⟩
  · exact .inr h
theorem RdT.keep {a : Addr} {xs : List V} (k : Keep N H N' H') (h : RdT K H N a xs) : RdT K H' N' a xs := by
  rcases h with ⟨n, h | ⟨o, h⟩⟩ | h
  · obtain ⟨e, n'⟩ := k a _ n h
    exact .inl ⟨n', .inl e⟩
  · obtain ⟨e, n'⟩ := k a _ n h
    exact .inl ⟨n', .inr ⟨o, e⟩⟩
  · exact .inr h
mutual
theorem Dn.keep (k : Keep N H N' H') : ∀ {v : V} {d : D}, Dn K H N v d → Dn K H' N' v d
  | _, _, .non => .non
  | _, _, .bl b => .bl b
  | _, _, .int i => .int i
  | _, _, .str x => .str x
  | _, _, .lst h t => .lst (h.keep k) (DnAll.keep k t)
  | _, _, .tup h t => .tup (h.keep k) (DnAll.keep k t)
  | _, _, .dic n h f => .dic (k _ _ n h).2 (k _ _ n h).1 f
theorem DnAll.keep (k : Keep N H N' H') : ∀ {vs : List V} {ds : List D}, DnAll K H N vs ds → DnAll K H' N' vs ds
  | _, _, .nil => .nil
  | _, _, .cons h t => .cons (Dn.keep k h) (DnAll.keep k t)
end
theorem KvN.keep (k : Keep N H N' H') : ∀ {xs : List (NK × Addr × Value)} {ds : List (D × D)}, KvN K H N xs ds → KvN K H' N' xs ds
  | _, _, .nil => .nil
  | _, _, .cons h r g t => .cons (Dn.keep k h) r (Dn.keep k g) (KvN.keep k t)
theorem KvR.keep (k : Keep N H N' H') : ∀ {vs : List (Key × V)} {ds : List (Key × D)}, KvR K H N vs ds → KvR K H' N' vs ds
  | _, _, .nil => .nil
  | _, _, .cons i h t => .cons i (Dn.keep k h) (KvR.keep k t)
theorem KvR.length : ∀ {vs : List (Key × V)} {ds : List (Key × D)}, KvR K H N vs ds → vs.length = ds.length
  | _, _, .nil => rfl
  | _, _, .cons _ _ t => congrArg (· + 1) (KvR.length t)
theorem DnAll.length : ∀ {vs : List V} {ds : List D}, DnAll K H N vs ds → vs.length = ds.length
  | _, _, .nil => rfl
  | _, _, .cons _ t => congrArg (· + 1) (DnAll.length t)
end

mutual
inductive RW (K : PySem.W.Frag) (mg : Str → Option Value) (H : Hp) (N : Addr → Prop) (μ : List Addr) : V → W → Prop
  | d {v : V} {x : D} : Dn K H N v x → RW K mg H N μ v (.d x)
  | ref {a : Addr} {n : Nat} : μ[n]? = some a → RW K mg H N μ (.ref a) (.ref n)
  | own {a : Addr} {vs : List V} {xs : List D} : H a = some (.lst vs) → DnAll K H N vs xs → RW K mg H N μ (.ref a) (.own xs)
  | ownd {a : Addr} {vs : List (Key × V)} {ds : List (Key × D)} : H a = some (.dK vs) → KvR K H N vs ds → RW K mg H N μ (.ref a) (.ownd ds)
  | dn {a : Addr} {xs : List (NK × Addr × Value)} {ds : List (D × D)} : ¬ N a → H a = some (.ext (NestM a xs)) → KvN K H N xs ds → RW K mg H N μ (.ref a) (.dn ds)
  | tw {a : Addr} {vs : List V} {ws : List W} : ¬ N a → H a = some (.tup vs) → RWs K mg H N μ vs ws → RW K mg H N μ (.ref a) (.tw ws)
  | fn {a : Addr} {x : String} : mg (Str.ofString x) = some (.ref a) → RW K mg H N μ (.ref a) (.fn x)
  | scr {a : Addr} {xs : List Int} : RdF K H N a (xs.map V.int) → RW K mg H N μ (.ref a) (.scr xs)
  | clo {j : Clo} {y : String} {ws : List W} : ¬ N j.c → H j.c = some (LamX.CodeO j.c j.q) → RWs K mg H N μ j.vs ws → RW K mg H N μ (.ref j.f) (.clo j y ws)
  | err {a : Addr} {c : String} : RW K mg H N μ (.ref a) (.err a c)
inductive RWs (K : PySem.W.Frag) (mg : Str → Option Value) (H : Hp) (N : Addr → Prop) (μ : List Addr) : List V → List W → Prop
  | nil : RWs K mg H N μ [] []
  | cons {v : V} {vs : List V} {w : W} {ws : List W} : RW K mg H N μ v w → RWs K mg H N μ vs ws → RWs K mg H N μ (v :: vs) (w :: ws)
end
mutual
/-- without anything of one's own -/
def W.plain : W → Bool
  | .d _ => true
  | .ref _ => true
  | .own _ => false
  | .ownd _ => false
  | .dn _ => true
  | .tw xs => W.plains xs
  | .fn _ => true
  | .scr _ => true
  | .clo _ _ ws => W.plains ws
  | .err _ _ => true
def W.plains : List W → Bool
  | [] => true
  | w :: ws => W.plain w && W.plains ws
end
section
variable {K : PySem.W.Frag} {mg : Str → Option Value} {H H' : Hp} {N N' : Addr → Prop} {μ μ' : List Addr}
theorem pre_get {μ μ' : List Addr} (p : μ <+: μ') {n : Nat} {a : Addr} (h : μ[n]? = some a) : μ'[n]? = some a := by
  obtain ⟨t, rfl⟩ := p
  have hl : n < μ.length := by
    rcases Nat.lt_or_ge n μ.length with q | q
    · exact q
    · rw [List.getElem?_eq_none q] at h; cases h
  rw [List.getElem?_append_left hl]
  exact h
mutual
theorem RW.keep (k : Keep N H N' H') (p : μ <+: μ') : ∀ {v : V} {w : W}, RW K mg H N μ v w → w.plain = true → RW K mg H' N' μ' v w
  | _, _, .d h, _ => .d (h.keep k)
  | _, _, .ref h, _ => .ref (pre_get p h)
  | _, _, .own _ _, e => by simp [W.plain] at e
  | _, _, .ownd _ _, e => by simp [W.plain] at e
  | _, _, .dn n h t, _ => .dn (k _ _ n h).2 (k _ _ n h).1 (t.keep k)
  | _, _, .tw n h t, e => .tw (k _ _ n h).2 (k _ _ n h).1 (RWs.keep k p t (by simpa [W.plain] using e))
  | _, _, .fn h, _ => .fn h
  | _, _, .scr h, _ => .scr (h.keep k)
  | _, _, .clo n h t, e => .clo (k _ _ n h).2 (k _ _ n h).1 (RWs.keep k p t (by simpa [W.plain] using e))
  | _, _, .err, _ => .err
theorem RWs.keep (k : Keep N H N' H') (p : μ <+: μ') : ∀ {vs : List V} {ws : List W}, RWs K mg H N μ vs ws → W.plains ws = true → RWs K mg H' N' μ' vs ws
  | _, _, .nil, _ => .nil
  | _, _, .cons h t, e => by
    simp only [W.plains, Bool.and_eq_true] at e
    exact .cons (RW.keep k p h e.1) (RWs.keep k p t e.2)
end
theorem RWs.length : ∀ {vs : List V} {ws : List W}, RWs K mg H N μ vs ws → vs.length = ws.length
  | _, _, .nil => rfl
  | _, _, .cons _ t => congrArg (· + 1) (RWs.length t)
end

def W.isOwn : W → Bool
  | .own _ => true
  | .ownd _ => true
  | _ => false
/-- plain or one's own -/
def W.fine (w : W) : Bool := w.plain || w.isOwn
def OwnAt (σ : L2.St) (env : EnvQ) (i : Nat) (a : Addr) : Prop := σ[i]? = some (some (.ref a)) ∧ ∃ w, env[i]? = some (some w) ∧ w.isOwn = true
/-- what this code may change: the store, its own slots -/
def MM (μ : List Addr) (σ : L2.St) (env : EnvQ) : Addr → Prop := fun a => a ∈ μ ∨ ∃ i, OwnAt σ env i a
/-- .. and what its callers may (F): data hang on none of these -/
def NN (F : Addr → Prop) (μ : List Addr) (σ : L2.St) (env : EnvQ) : Addr → Prop := fun a => MM μ σ env a ∨ F a
/-- the name of the lambdas that the def z makes -/
abbrev lamQ (z : String) : Str := Str.ofString z ++ ".<locals>." ++ "<lambda>"
/-- the table at P tells code objects of the name q, which stay -/
def TabN (H : Hp) (N : Addr → Prop) (P : Addr) (q : Str) : Prop := ∃ ps : Array Value, H P = some (.tbl ps) ∧ TriplesOk ps.toList ∧ ∀ (pos : Pos) (cv : Value), codeAmong pos ps.toList = some cv → ∃ c, cv = .ref c ∧ ¬ N c ∧ H c = some (LamX.CodeO c q)
theorem TabN.keep {H H' : Hp} {N N' : Addr → Prop} {P : Addr} {q : Str} (t : TabN H N P q) (h : ∀ {ps}, H P = some (.tbl ps) → H' P = some (.tbl ps)) (k : Keep N H N' H') : TabN H' N' P q := by
  obtain ⟨ps, h1, h2, h3⟩ := t
  refine ⟨ps, h h1, h2, fun pos cv e => ?_⟩
  obtain ⟨c, e1, n, e2⟩ := h3 pos cv e
  exact ⟨c, e1, (k c _ n e2).2, (k c _ n e2).1⟩
theorem TabN.s {H : Hp} {N : Addr → Prop} {P : Addr} {q : Str} (t : TabN H N P q) : LamX.TabS H P q := by
  obtain ⟨ps, h1, h2, h3⟩ := t
  refine ⟨ps, h1, h2, fun pos cv e => ?_⟩
  obtain ⟨c, e1, _, e2⟩ := h3 pos cv e
  exact ⟨c, e1, e2⟩
/-- where the table of the def x stands -/
def tabA (K : PySem.W.Frag) (x : String) : Addr := (He.cT K (Str.ofString x, none)).2
inductive RO (K : PySem.W.Frag) (mg : Str → Option Value) (H : Hp) (N : Addr → Prop) (μ : List Addr) (a : Addr) : O → Prop
  | lst {vs : List V} {xs : List D} : H a = some (.lst vs) → DnAll K H N vs xs → RO K mg H N μ a (.lst xs)
  | ins {C : String} {c dx : Addr} {fvs : List (Str × V)} {fs : List (Str × W)} : mg (Str.ofString C) = some (.ref c) → H a = some (.ins c dx fvs) → fvs.map (·.1) = fs.map (·.1) →
      RWs K mg H N μ (fvs.map (·.2)) (fs.map (·.2)) → W.plains (fs.map (·.2)) = true → RO K mg H N μ a (.ins C fs)
  | dct {es : List (NK × Addr)} : H a = some (.ext (NestD a es)) → (∀ e ∈ es, Dn K H N (.ref e.2) (encN e.1)) → RO K mg H N μ a (.dct (es.map (·.1)))
  | dcm {xs : List (NK × Addr × Value)} {ds : List (D × D)} : H a = some (.ext (NestM a xs)) → KvN K H N xs ds → RO K mg H N μ a (.dcm ds)
  | tab {x z : String} : a = tabA K x → TabN H N a (lamQ z) → RO K mg H N μ a (.tab x z)
/-- the store -/
structure SimS (K : PySem.W.Frag) (mg : Str → Option Value) (H : Hp) (N : Addr → Prop) (S : Sto) (μ : List Addr) : Prop where
  len : μ.length = S.length
  nd : μ.Nodup
  obj : ∀ (n : Nat) (o : O), S[n]? = some o → ∃ a, μ[n]? = some a ∧ RO K mg H N μ a o
structure Sim (K : PySem.W.Frag) (mg : Str → Option Value) (F : Addr → Prop) (σ : L2.St) (H : Hp) (env : EnvQ) (S : Sto) (μ : List Addr) : Prop where
  len : σ.length = env.length
  slot : ∀ (i : Nat) (w : W), env[i]? = some (some w) → ∃ v, σ[i]? = some (some v) ∧ RW K mg H (NN F μ σ env) μ v w
  fin : ∀ (i : Nat) (w : W), env[i]? = some (some w) → w.fine = true
  inj : ∀ (i j : Nat) (a : Addr), OwnAt σ env i a → OwnAt σ env j a → i = j
  apart : ∀ (i : Nat) (a : Addr), OwnAt σ env i a → a ∉ μ
  st : SimS K mg H (NN F μ σ env) S μ
  ftr : ∀ a, F a → ∃ u, H a = some u
  fdis : ∀ a, F a → ¬ MM μ σ env a
/-- from one state to a later one, the slots as they were -/
structure Ext (σ : L2.St) (env : EnvQ) (H : Hp) (μ : List Addr) (H' : Hp) (μ' : List Addr) : Prop where
  keep : Keep (MM μ σ env) H (MM μ' σ env) H'
  pre : μ <+: μ'
theorem Ext.trans {σ : L2.St} {env : EnvQ} {H H1 H2 : Hp} {μ μ1 μ2 : List Addr} (x : Ext σ env H μ H1 μ1) (y : Ext σ env H1 μ1 H2 μ2) : Ext σ env H μ H2 μ2 :=
  ⟨x.keep.trans y.keep, List.IsPrefix.trans x.pre y.pre⟩
section
variable (K : PySem.W.Frag) (mg : Str → Option Value) (EX : WX)
def Post {α : Type} (F : Addr → Prop) (σ : L2.St) (env : EnvQ) (H : Hp) (μ : List Addr) (r : R α) (P : α → Sto → Hp → List Addr → Prop) : Prop :=
  match r with
  | .ok a S' => ∀ H' μ', Sim K mg F σ H' env S' μ' → Ext σ env H μ H' μ' → P a S' H' μ'
  | .exc c S' => ∀ C H' μ', mg (Str.ofString c) = some (.ref C) → Sim K mg F σ H' env S' μ' → Ext σ env H μ H' μ' → EX (.ref C) none σ H'
  | .stuck => False
end
section
variable {K : PySem.W.Frag} {mg : Str → Option Value} {EX : WX} {F : Addr → Prop} {σ : L2.St} {env : EnvQ} {H H' : Hp} {S : Sto} {μ μ' : List Addr} {α β : Type}
theorem Post.ext {r : R α} {P : α → Sto → Hp → List Addr → Prop} (h : Post K mg EX F σ env H μ r P) (x : Ext σ env H μ H' μ') : Post K mg EX F σ env H' μ' r P := by
  cases r with
  | ok a S' => exact fun H2 μ2 s2 x2 => h H2 μ2 s2 (x.trans x2)
  | exc c S' => exact fun C H2 μ2 g s2 x2 => h C H2 μ2 g s2 (x.trans x2)
  | stuck => exact h
end

end Q

namespace Q
open PySem PySem.Spec PyProof.Rows L2

def NR (F : Addr → Prop) (μ : List Addr) : Addr → Prop := fun a => a ∈ μ ∨ F a
structure SimR (K : PySem.W.Frag) (mg : Str → Option Value) (F : Addr → Prop) (H : Hp) (S : Sto) (μ : List Addr) : Prop where
  st : SimS K mg H (NR F μ) S μ
  ftr : ∀ a, F a → ∃ u, H a = some u
  fdis : ∀ a, F a → a ∉ μ
section
variable {X : Cx} {cf : CF} {EX : WX} {F : Addr → Prop} {σ : L2.St} {env : EnvQ} {S S' : Sto} {H H' : Hp} {μ μ' : List Addr} {K : PySem.W.Frag} {mg : Str → Option Value}
/-- what one's own thing holds -/
inductive OwnR (K : PySem.W.Frag) (H : Hp) (N : Addr → Prop) : HO → W → Prop
  | lst {vs : List V} {xs : List D} : DnAll K H N vs xs → OwnR K H N (.lst vs) (.own xs)
  | dct {vs : List (Key × V)} {ds : List (Key × D)} : KvR K H N vs ds → OwnR K H N (.dK vs) (.ownd ds)
theorem OwnR.keep {N N' : Addr → Prop} {H' : Hp} {o : HO} {w : W} (k : Keep N H N' H') (h : OwnR K H N o w) : OwnR K H' N' o w := by
  cases h with
  | lst t => exact .lst (t.keep k)
  | dct t => exact .dct (t.keep k)
end
end Q

namespace Q
open PySem PySem.Spec PyProof.Rows L2

inductive RS where
  | next (env : EnvQ) (S : Sto)
  | ret (w : W) (S : Sto)
  | brk (env : EnvQ) (S : Sto)
  | cont (env : EnvQ) (S : Sto)
  | exc (c : String) (env : EnvQ) (S : Sto)
  | stuck
def RS.seq (r : RS) (f : EnvQ → Sto → RS) : RS := match r with
  | .next env S => f env S
  | r => r
structure ExS (σ : L2.St) (env : EnvQ) (H : Hp) (μ : List Addr) (σ' : L2.St) (env' : EnvQ) (H' : Hp) (μ' : List Addr) : Prop where
  keep : Keep (MM μ σ env) H (MM μ' σ' env') H'
  pre : μ <+: μ'
theorem ExS.trans {σ σ1 σ2 : L2.St} {env env1 env2 : EnvQ} {H H1 H2 : Hp} {μ μ1 μ2 : List Addr} (x : ExS σ env H μ σ1 env1 H1 μ1) (y : ExS σ1 env1 H1 μ1 σ2 env2 H2 μ2) : ExS σ env H μ σ2 env2 H2 μ2 :=
  ⟨x.keep.trans y.keep, List.IsPrefix.trans x.pre y.pre⟩
theorem Ext.s {σ : L2.St} {env : EnvQ} {H H' : Hp} {μ μ' : List Addr} (x : Ext σ env H μ H' μ') : ExS σ env H μ σ env H' μ' := ⟨x.keep, x.pre⟩
section
variable (K : PySem.W.Frag) (mg : Str → Option Value) (EX : WX)
def PostS (F : Addr → Prop) (σ : L2.St) (env : EnvQ) (H : Hp) (μ : List Addr) (r : RS) (D : Ends) : Prop :=
  match r with
  | .next env' S' => ∀ σ' H' μ', Sim K mg F σ' H' env' S' μ' → ExS σ env H μ σ' env' H' μ' → D.nx σ' H'
  | .brk env' S' => ∀ σ' H' μ', Sim K mg F σ' H' env' S' μ' → ExS σ env H μ σ' env' H' μ' → D.bk σ' H'
  | .cont env' S' => ∀ σ' H' μ', Sim K mg F σ' H' env' S' μ' → ExS σ env H μ σ' env' H' μ' → D.ct σ' H'
  | .ret w S' => ∀ v H' μ', SimR K mg F H' S' μ' → Keep (MM μ σ env) H (· ∈ μ') H' → μ <+: μ' → RW K mg H' (NR F μ') μ' v w → D.rt v H'
  | .exc c env' S' => ∀ C σ' H' μ', mg (Str.ofString c) = some (.ref C) → Sim K mg F σ' H' env' S' μ' → ExS σ env H μ σ' env' H' μ' → EX (.ref C) none σ' H'
  | .stuck => False
end
section
variable {K : PySem.W.Frag} {mg : Str → Option Value} {EX : WX} {F : Addr → Prop} {σ σ' : L2.St} {env env' : EnvQ} {H H' : Hp} {S : Sto} {μ μ' : List Addr} {D D' : Ends}
theorem PostS.ext {r : RS} (h : PostS K mg EX F σ env H μ r D) (x : ExS σ env H μ σ' env' H' μ') : PostS K mg EX F σ' env' H' μ' r D := by
  cases r with
  | next e S' => exact fun σ2 H2 μ2 s2 x2 => h σ2 H2 μ2 s2 (x.trans x2)
  | brk e S' => exact fun σ2 H2 μ2 s2 x2 => h σ2 H2 μ2 s2 (x.trans x2)
  | cont e S' => exact fun σ2 H2 μ2 s2 x2 => h σ2 H2 μ2 s2 (x.trans x2)
  | ret w S' => exact fun v H2 μ2 s2 k2 p2 => h v H2 μ2 s2 (x.keep.trans k2) (List.IsPrefix.trans x.pre p2)
  | exc c e S' => exact fun C σ2 H2 μ2 g s2 x2 => h C σ2 H2 μ2 g s2 (x.trans x2)
  | stuck => exact h
theorem PostS.seq {r : RS} {f : EnvQ → Sto → RS} (h : PostS K mg EX F σ env H μ (r.seq f) D) : PostS K mg EX F σ env H μ r { D with nx := fun σ' H' => ∃ env' S' μ', Sim K mg F σ' H' env' S' μ' ∧ PostS K mg EX F σ' env' H' μ' (f env' S') D } := by
  cases r with
  | next e S' => exact fun σ2 H2 μ2 s2 x2 => ⟨e, S', μ2, s2, PostS.ext h x2⟩
  | brk e S' => exact h
  | cont e S' => exact h
  | ret w S' => exact h
  | exc c e S' => exact h
  | stuck => exact h
end
end Q

namespace Q
open PySem PySem.Spec PyProof.Rows L2
mutual
/-- the value as the top left it is this datum -/
def datB (K : PySem.W.Frag) : D → Value → Bool
  | .none, .none => true
  | .bool b, .bool c => b == c
  | .int i, .int j _ => decide (i = j)
  | .str i, .str j _ => decide (i = j)
  | .tuple ds, .ref a => (match K.lookup a with
    | some ⟨.type c, _, .seq us _, _⟩ => decide (c = "tuple") && (decide (us.size ≤ sizeLine) && datsB K ds us.toList)
    | _ => false)
  | _, _ => false
def datsB (K : PySem.W.Frag) : List D → List Value → Bool
  | [], [] => true
  | d :: ds, u :: us => datB K d u && datsB K ds us
  | _, _ => false
end
/-- the module's name x holds this datum -/
def conB (K : PySem.W.Frag) (x : Str) (d : D) : Bool := datB K d (.ref (He.ga K x))
def consB (cs : List (Str × D)) (K : PySem.W.Frag) : Bool := cs.all fun p => conB K p.1 p.2
abbrev AlQ : Type := He.AlD × Bool
end Q

namespace Q
open PySem PySem.Spec PyProof.Rows L2
def oneB (cs : List (Str × D)) (K : PySem.W.Frag) : Bool := (K.lookup 1).isSome && consB cs K
abbrev obs1 (n : Nat) (fa : List He.Fa) (fn : List He.DefD) (ex : PySem.W.Frag → Bool) (g : Addr → Option Obj) : AlQ := (He.obsD fa fn (He.frG g (He.asD g n ++ [1])), ex (He.frG g (He.asD g n ++ [1])))
def hookQ1 (n : Nat) (fa : List He.Fa) (fn : List He.DefD) (ex : PySem.W.Frag → Bool) : PySem.W.Hook where
  α := AlQ
  obs := fun s => obs1 n fa fn ex s.heap.get?
  val := fun _ => (He.valD fn, true)
  says := fun _ h => ∃ K : PySem.W.Frag, K.In h ∧ He.SaysD fa fn K ∧ ex K = true
  of := fun _ _ e => ⟨_, He.frG_in, congrArg (fun z : AlQ => z.1) e, congrArg (fun z : AlQ => z.2) e⟩
  keeps := fun _ _ _ ⟨K, hK, c⟩ k => ⟨K, PySem.W.Frag.In.keeps hK k, c⟩
end Q

namespace Q
open PySem PySem.Spec PyProof.Rows L2
def top (i : Nat) : Stmt := PySem.Challenge.pw_domelights_k58_scenes_known_and_counted.main.body.getD i (.Pass ⟨0, 0, 0, 0⟩)
abbrev s_is_whole : Stmt := top 11
abbrev s_is_among : Stmt := top 12
abbrev s_is_row : Stmt := top 13
abbrev s_is_light_of : Stmt := top 14
abbrev s_is_sky : Stmt := top 15
abbrev s_need_sky : Stmt := top 16
abbrev s_is_item : Stmt := top 24
abbrev s_are_items : Stmt := top 25
abbrev s_size_of : Stmt := top 26
abbrev s_is_scene_by : Stmt := top 27
abbrev s_is_scene : Stmt := top 28
abbrev s_need_scene : Stmt := top 29
abbrev s_need_both : Stmt := top 30
abbrev s_beats_of : Stmt := top 31
abbrev s_marks_in : Stmt := top 32
abbrev s_marks_of : Stmt := top 33
abbrev s__law_cell_at : Stmt := top 35
abbrev s__law_pen : Stmt := top 36
abbrev s__law_draw : Stmt := top 37
abbrev s__law_sky : Stmt := top 38
abbrev s__law_go : Stmt := top 39
abbrev s__law_items : Stmt := top 40
abbrev s__law_whole : Stmt := top 41
abbrev s__law_within : Stmt := top 42
abbrev s__law_odd : Stmt := top 43
abbrev s__law_bent : Stmt := top 44
abbrev s__law_are_items : Stmt := top 45
abbrev s__law_is_item : Stmt := top 46
abbrev s__law_counted : Stmt := top 47
abbrev s__law_by_hand : Stmt := top 48
abbrev s__law_right : Stmt := top 49
abbrev s_law : Stmt := top 50
end Q

set_option maxHeartbeats 0
namespace Q
open PySem PySem.Spec PyProof.Rows L2
def d_is_whole : He.DefD := ⟨("is_whole", none), "is_whole", "is_whole", defArgs s_is_whole, defBody s_is_whole, defScope s_is_whole, [], []⟩
def d_is_among : He.DefD := ⟨("is_among", none), "is_among", "is_among", defArgs s_is_among, defBody s_is_among, defScope s_is_among, [], []⟩
def d_is_row : He.DefD := ⟨("is_row", none), "is_row", "is_row", defArgs s_is_row, defBody s_is_row, defScope s_is_row, [], []⟩
def d_is_light_of : He.DefD := ⟨("is_light_of", none), "is_light_of", "is_light_of", defArgs s_is_light_of, defBody s_is_light_of, defScope s_is_light_of, [], []⟩
def d_is_sky : He.DefD := ⟨("is_sky", none), "is_sky", "is_sky", defArgs s_is_sky, defBody s_is_sky, defScope s_is_sky, [], []⟩
def d_need_sky : He.DefD := ⟨("need_sky", none), "need_sky", "need_sky", defArgs s_need_sky, defBody s_need_sky, defScope s_need_sky, [], []⟩
def d_is_item : He.DefD := ⟨("is_item", none), "is_item", "is_item", defArgs s_is_item, defBody s_is_item, defScope s_is_item, [], []⟩
def d_are_items : He.DefD := ⟨("are_items", none), "are_items", "are_items", defArgs s_are_items, defBody s_are_items, defScope s_are_items, [], []⟩
def d_size_of : He.DefD := ⟨("size_of", none), "size_of", "size_of", defArgs s_size_of, defBody s_size_of, defScope s_size_of, [], []⟩
def d_is_scene_by : He.DefD := ⟨("is_scene_by", none), "is_scene_by", "is_scene_by", defArgs s_is_scene_by, defBody s_is_scene_by, defScope s_is_scene_by, [], []⟩
def d_is_scene : He.DefD := ⟨("is_scene", none), "is_scene", "is_scene", defArgs s_is_scene, defBody s_is_scene, defScope s_is_scene, [], []⟩
def d_need_scene : He.DefD := ⟨("need_scene", none), "need_scene", "need_scene", defArgs s_need_scene, defBody s_need_scene, defScope s_need_scene, [], []⟩
def d_need_both : He.DefD := ⟨("need_both", none), "need_both", "need_both", defArgs s_need_both, defBody s_need_both, defScope s_need_both, [], []⟩
def d_beats_of : He.DefD := ⟨("beats_of", none), "beats_of", "beats_of", defArgs s_beats_of, defBody s_beats_of, defScope s_beats_of, [], []⟩
def d_marks_in : He.DefD := ⟨("marks_in", none), "marks_in", "marks_in", defArgs s_marks_in, defBody s_marks_in, defScope s_marks_in, [], []⟩
def d_marks_of : He.DefD := ⟨("marks_of", none), "marks_of", "marks_of", defArgs s_marks_of, defBody s_marks_of, defScope s_marks_of, [], []⟩
def d__law_cell_at : He.DefD := ⟨("_law_cell_at", none), "_law_cell_at", "_law_cell_at", defArgs s__law_cell_at, defBody s__law_cell_at, defScope s__law_cell_at, [], []⟩
def d__law_pen : He.DefD := ⟨("_law_pen", none), "_law_pen", "_law_pen", defArgs s__law_pen, defBody s__law_pen, defScope s__law_pen, [], []⟩
def d__law_draw : He.DefD := ⟨("_law_draw", none), "_law_draw", "_law_draw", defArgs s__law_draw, defBody s__law_draw, defScope s__law_draw, [], []⟩
def d__law_sky : He.DefD := ⟨("_law_sky", none), "_law_sky", "_law_sky", defArgs s__law_sky, defBody s__law_sky, defScope s__law_sky, [], []⟩
def d__law_go : He.DefD := ⟨("_law_go", none), "_law_go", "_law_go", defArgs s__law_go, defBody s__law_go, defScope s__law_go, [], []⟩
def d__law_items : He.DefD := ⟨("_law_items", none), "_law_items", "_law_items", defArgs s__law_items, defBody s__law_items, defScope s__law_items, [], []⟩
def d__law_whole : He.DefD := ⟨("_law_whole", none), "_law_whole", "_law_whole", defArgs s__law_whole, defBody s__law_whole, defScope s__law_whole, [], []⟩
def d__law_within : He.DefD := ⟨("_law_within", none), "_law_within", "_law_within", defArgs s__law_within, defBody s__law_within, defScope s__law_within, [], []⟩
def d__law_odd : He.DefD := ⟨("_law_odd", none), "_law_odd", "_law_odd", defArgs s__law_odd, defBody s__law_odd, defScope s__law_odd, [], []⟩
def d__law_bent : He.DefD := ⟨("_law_bent", none), "_law_bent", "_law_bent", defArgs s__law_bent, defBody s__law_bent, defScope s__law_bent, [], []⟩
def d__law_are_items : He.DefD := ⟨("_law_are_items", none), "_law_are_items", "_law_are_items", defArgs s__law_are_items, defBody s__law_are_items, defScope s__law_are_items, [], []⟩
def d__law_is_item : He.DefD := ⟨("_law_is_item", none), "_law_is_item", "_law_is_item", defArgs s__law_is_item, defBody s__law_is_item, defScope s__law_is_item, [], []⟩
def d__law_counted : He.DefD := ⟨("_law_counted", none), "_law_counted", "_law_counted", defArgs s__law_counted, defBody s__law_counted, defScope s__law_counted, [], []⟩
def d__law_by_hand : He.DefD := ⟨("_law_by_hand", none), "_law_by_hand", "_law_by_hand", defArgs s__law_by_hand, defBody s__law_by_hand, defScope s__law_by_hand, [], []⟩
def d__law_right : He.DefD := ⟨("_law_right", none), "_law_right", "_law_right", defArgs s__law_right, defBody s__law_right, defScope s__law_right, [], []⟩
def d_law : He.DefD := ⟨("law", none), "law", "law", defArgs s_law, defBody s_law, defScope s_law, [], []⟩
def fn0 : List He.DefD := [d_is_whole, d_is_among, d_is_row, d_is_light_of, d_is_sky, d_need_sky, d_is_item, d_are_items, d_size_of, d_is_scene_by, d_is_scene, d_need_scene, d_need_both, d_beats_of, d_marks_in, d_marks_of, d__law_cell_at, d__law_pen, d__law_draw, d__law_sky]
def fn1 : List He.DefD := [d__law_go, d__law_items, d__law_whole, d__law_within, d__law_odd, d__law_bent, d__law_are_items, d__law_is_item, d__law_counted, d__law_by_hand, d__law_right, d_law]
def fn : List He.DefD := fn0 ++ fn1
def fa0 : List He.Fa := [.glo "is_whole", .glo "is_among", .glo "is_row", .glo "is_light_of", .glo "is_sky", .glo "need_sky", .glo "is_item", .glo "are_items", .glo "size_of", .glo "is_scene_by", .glo "is_scene", .glo "need_scene", .glo "need_both", .glo "beats_of", .glo "marks_in", .glo "marks_of", .glo "_law_cell_at", .glo "_law_pen", .glo "_law_draw", .glo "_law_sky"]
def fa1 : List He.Fa := [.glo "_law_go", .glo "_law_items", .glo "_law_whole", .glo "_law_within", .glo "_law_odd", .glo "_law_bent", .glo "_law_are_items", .glo "_law_is_item", .glo "_law_counted", .glo "_law_by_hand", .glo "_law_right", .glo "law", .free "all", .free "bool", .free "int", .free "isinstance", .free "len", .free "list", .free "max", .free "min"]
def fa2 : List He.Fa := [.free "range", .free "repr", .free "str", .free "tuple", .str "AGAIN" "again", .int "LEAST_WIDE" 4, .int "MOST_BEATS" 100000000000, .int "MOST_DEEP" 3, .int "MOST_GO" 99, .int "MOST_HIGH" 5, .int "MOST_ITEMS" 8, .int "MOST_LIGHTS" 6, .int "MOST_ROWS" 4, .int "MOST_SPEED" 9, .int "MOST_TIMES" 1000000, .int "MOST_WIDE" 12, .glo "NoScene", .exc "NoScene", .glo "NoSky", .exc "NoSky"]
def fa : List He.Fa := fa0 ++ fa1 ++ fa2
def loose0 : List Str := ["_law_are_items", "_law_bent", "_law_by_hand", "_law_cell_at", "_law_counted", "_law_draw", "_law_go", "_law_is_item", "_law_items", "_law_odd", "_law_pen", "_law_right", "_law_sky", "_law_whole", "_law_within", "are_items", "beats_of", "is_among", "is_item", "is_light_of"]
def loose1 : List Str := ["is_row", "is_scene", "is_scene_by", "is_sky", "is_whole", "marks_in", "marks_of", "need_both", "need_scene", "need_sky", "size_of", "LEAST_WIDE", "MOST_WIDE", "MOST_HIGH", "MOST_LIGHTS", "MOST_SPEED", "MOST_ROWS", "MOST_GO", "MOST_TIMES", "MOST_ITEMS"]
def loose2 : List Str := ["MOST_DEEP", "MOST_BEATS", "AGAIN", "DomeError", "NoSky", "NoScene"]
def loose : List Str := loose0 ++ loose1 ++ loose2
abbrev RR : PySem.W.OpenRow := PySem.W.OpenLaw.row PySem.Challenge.rw_domelights_k58_scenes_known_and_counted
def cs : List (Str × D) := []
abbrev hk : PySem.W.Hook := hookQ1 4 fa fn (oneB cs)
def ob (s : PySem.W.SharedT) : AlQ := obs1 4 fa fn (oneB cs) (HandSHeadRun.getT s)
theorem run (w : World) : HandSHeadRun.RunEq RR (PySem.W.view RR.prog [50]) hk ob 40000 loose w := by
  intro os
  kernel_rfl
end Q

open PySem PySem.W PySem.Calls PyProof.Rows
set_option maxHeartbeats 4000000
namespace Q
open PySem PySem.Spec PyProof.Rows L2

def R.bind {α β : Type} : R α → (α → Sto → R β) → R β
  | .ok a S, f => f a S
  | .exc c S, _ => .exc c S
  | .stuck, _ => .stuck
@[simp] theorem R.bind_ok {α β : Type} (a : α) (S : Sto) (f : α → Sto → R β) : (R.ok a S).bind f = f a S := rfl
@[simp] theorem R.bind_exc {α β : Type} (c : String) (S : Sto) (f : α → Sto → R β) : (R.exc c S : R α).bind f = .exc c S := rfl
@[simp] theorem R.bind_stuck {α β : Type} (f : α → Sto → R β) : (R.stuck : R α).bind f = .stuck := rfl
abbrev SE := CF → EnvQ → Sto → R W
abbrev ST := CF → EnvQ → Sto → R Bool
abbrev SA := CF → EnvQ → Sto → R (List W)

theorem Keep.refl (N : Addr → Prop) (H : Hp) : Keep N H N H := fun _ _ n e => ⟨e, n⟩
section
variable {K : PySem.W.Frag} {mg : Str → Option Value} {H H' : Hp} {N N' : Addr → Prop}
theorem sqL_none {a : Addr} {xs : List V} (h : SqL K (fun _ => none) a xs) (H : Hp) : SqL K H a xs := by
  rcases h with (h | ⟨_, h⟩) | h
  · cases h
  · cases h
  · exact .inr h
theorem sqT_none {a : Addr} {xs : List V} (h : SqT K (fun _ => none) a xs) (H : Hp) : SqT K H a xs := by
  rcases h with (h | ⟨_, h⟩) | h
  · cases h
  · cases h
  · exact .inr h
theorem RdL.sq {a : Addr} {xs : List V} (h : RdL K H N a xs) : SqL K H a xs := SqL.of h.2
theorem RdT.sq {a : Addr} {xs : List V} (h : RdT K H N a xs) : SqT K H a xs := h.elim (fun h => .inl h.2) fun h => sqT_none h H
theorem RdF.sq {a : Addr} {xs : List V} (h : RdF K H N a xs) : SqL K H a xs := h.elim (fun h => .inl h.2) fun h => sqL_none h H
theorem KvR.keys : ∀ {vs : List (Key × V)} {ds : List (Key × D)}, KvR K H N vs ds → vs.map (·.1) = ds.map (·.1)
  | _, _, .nil => rfl
  | _, _, .cons i _ t => congrArg (i :: ·) (KvR.keys t)
theorem DnAll.get : ∀ {vs : List V} {ds : List D} {i : Nat} {d : D}, DnAll K H N vs ds → ds[i]? = some d → ∃ v, vs[i]? = some v ∧ Dn K H N v d
  | _, _, _, _, .nil, e => by simp at e
  | _, _, 0, _, .cons h _, e => by simp at e; subst e; exact ⟨_, rfl, h⟩
  | _, _, i + 1, d, .cons _ t, e => by
    obtain ⟨v, h1, h2⟩ := DnAll.get (i := i) (d := d) t (by simpa using e)
    exact ⟨v, by simpa using h1, h2⟩
theorem DnAll.append : ∀ {xs ys : List V} {ds es : List D}, DnAll K H N xs ds → DnAll K H N ys es → DnAll K H N (xs ++ ys) (ds ++ es)
  | _, _, _, _, .nil, h => h
  | _, _, _, _, .cons r t, h => .cons r (DnAll.append t h)
theorem DnAll.take : ∀ {xs : List V} {ds : List D} (n : Nat), DnAll K H N xs ds → DnAll K H N (xs.take n) (ds.take n)
  | _, _, 0, _ => by simpa using DnAll.nil
  | _, _, _ + 1, .nil => by simpa using DnAll.nil
  | _, _, n + 1, .cons r t => by simpa using DnAll.cons r (DnAll.take n t)
theorem DnAll.drop : ∀ {xs : List V} {ds : List D} (n : Nat), DnAll K H N xs ds → DnAll K H N (xs.drop n) (ds.drop n)
  | _, _, 0, h => by simpa using h
  | _, _, _ + 1, .nil => by simpa using DnAll.nil
  | _, _, n + 1, .cons _ t => by simpa using DnAll.drop n t
theorem DnAll.set {v : V} {d : D} (r : Dn K H N v d) : ∀ {xs : List V} {ds : List D} (i : Nat), DnAll K H N xs ds → DnAll K H N (xs.set i v) (ds.set i d)
  | _, _, _, .nil => by simpa using DnAll.nil
  | _, _, 0, .cons _ t => by simpa using DnAll.cons r t
  | _, _, i + 1, .cons q t => by simpa using DnAll.cons q (DnAll.set r i t)
theorem DnAll.reverse {xs : List V} {ds : List D} (h : DnAll K H N xs ds) : DnAll K H N xs.reverse ds.reverse := by
  induction xs generalizing ds with
  | nil => cases h; exact .nil
  | cons v vs ih =>
    cases h with
    | cons r t =>
      rw [List.reverse_cons, List.reverse_cons]
      exact (ih t).append (.cons r .nil)
mutual
theorem Dn.dp : ∀ {v : V} {d : D}, Dn K H N v d → (∀ kvs, d ≠ .dict kvs) → d.hasDict = false → Dp K H v d
  | _, _, .non, _, _ => .non
  | _, _, .bl b, _, _ => .bl b
  | _, _, .int i, _, _ => .int i
  | _, _, .str x, _, _ => .str x
  | _, _, .lst h t, _, e => .lst h.sq (DnAll.dp t (by simpa [PyData.hasDict] using e))
  | _, _, .tup h t, _, e => .tup h.sq (DnAll.dp t (by simpa [PyData.hasDict] using e))
  | _, _, .dic _ _ _, h, _ => absurd rfl (h _)
theorem DnAll.dp : ∀ {vs : List V} {ds : List D}, DnAll K H N vs ds → PyData.hasDictAll ds = false → DpAll K H vs ds
  | _, _, .nil, _ => .nil
  | _, d :: ds, .cons h t, e => by
    have e' : d.hasDict = false ∧ PyData.hasDictAll ds = false := by simpa [PyData.hasDictAll] using e
    exact .cons (Dn.dp h (fun kvs q => by subst q; simp [PyData.hasDict] at e') e'.1) (DnAll.dp t e'.2)
end
end

section
variable {K : PySem.W.Frag} {mg : Str → Option Value} {H H' : Hp} {N N' : Addr → Prop} {μ μ' : List Addr}
end

theorem Ext.nn {σ : L2.St} {env : EnvQ} {H H1 : Hp} {μ μ1 : List Addr} (x : Ext σ env H μ H1 μ1) (F : Addr → Prop) : Keep (NN F μ σ env) H (NN F μ1 σ env) H1 := fun a o n e =>
  let z := x.keep a o (fun q => n (.inl q)) e
  ⟨z.1, fun q => q.elim z.2 fun q => n (.inr q)⟩
theorem Ext.refl (σ : L2.St) (env : EnvQ) (H : Hp) (μ : List Addr) : Ext σ env H μ H μ := ⟨Keep.refl _ _, List.prefix_refl _⟩
section
variable {K : PySem.W.Frag} {mg : Str → Option Value} {F : Addr → Prop} {σ : L2.St} {env : EnvQ} {H H' : Hp} {S : Sto} {μ μ' : List Addr}
theorem RO.tracked {N : Addr → Prop} {a : Addr} {o : O} (h : RO K mg H N μ a o) : ∃ u, H a = some u := by
  cases h with
  | lst h _ => exact ⟨_, h⟩
  | ins _ h _ _ _ => exact ⟨_, h⟩
  | dct h _ => exact ⟨_, h⟩
  | dcm h _ => exact ⟨_, h⟩
  | tab _ t => exact ⟨_, t.choose_spec.1⟩
theorem SimS.tracked {N : Addr → Prop} (h : SimS K mg H N S μ) {a : Addr} (m : a ∈ μ) : ∃ u, H a = some u := by
  obtain ⟨n, hn⟩ := List.getElem?_of_mem m
  have hl : n < S.length := by
    rw [← h.len]
    rcases Nat.lt_or_ge n μ.length with q | q
    · exact q
    · rw [List.getElem?_eq_none q] at hn; cases hn
  obtain ⟨b, hb, ro⟩ := h.obj n S[n] (by simp [hl])
  rw [hn] at hb
  cases hb
  exact ro.tracked
theorem RW.ownTracked {N : Addr → Prop} {a : Addr} {w : W} (h : RW K mg H N μ (.ref a) w) (o : w.isOwn = true) : ∃ u, H a = some u := by
  cases h with
  | own e _ => exact ⟨_, e⟩
  | ownd e _ => exact ⟨_, e⟩
  | d _ => simp [W.isOwn] at o
  | dn _ _ _ => simp [W.isOwn] at o
  | ref _ => simp [W.isOwn] at o
  | tw _ _ _ => simp [W.isOwn] at o
  | fn _ => simp [W.isOwn] at o
  | scr _ => simp [W.isOwn] at o
  | clo _ _ _ => simp [W.isOwn] at o
  | err => simp [W.isOwn] at o
theorem Sim.tracked (h : Sim K mg F σ H env S μ) {a : Addr} (n : NN F μ σ env a) : ∃ u, H a = some u := by
  rcases n with (m | ⟨i, e, w, hw, o⟩) | f
  · exact h.st.tracked m
  · obtain ⟨v, hv, r⟩ := h.slot i w hw
    rw [e] at hv
    cases hv
    exact r.ownTracked o
  · exact h.ftr a f
theorem Sim.fresh (h : Sim K mg F σ H env S μ) {p : Addr} (n : H p = none) : ¬ NN F μ σ env p := fun q => by
  obtain ⟨u, e⟩ := h.tracked q
  rw [n] at e
  cases e
theorem Keep.upd_new {N : Addr → Prop} {p : Addr} {o : HO} (n : H p = none) : Keep N H N (upd H p o) := fun a u na e => by
  refine ⟨?_, na⟩
  rw [upd_ne (ne_of_none e n)]
  exact e
theorem ext_new {p : Addr} {o : HO} (n : H p = none) : Ext σ env H μ (upd H p o) μ := ⟨Keep.upd_new n, List.prefix_refl _⟩
theorem Same.upd_new {p : Addr} {o : HO} (n : H p = none) : Same H (upd H p o) := fun a u e => by
  rw [upd_ne (ne_of_none e n)]
  exact e
mutual
theorem RW.same {N : Addr → Prop} (s : Same H H') : ∀ {v : V} {w : W}, RW K mg H N μ v w → RW K mg H' N μ v w
  | _, _, .d h => .d (h.keep fun a o n e => ⟨s a o e, n⟩)
  | _, _, .ref h => .ref h
  | _, _, .own h t => .own (s _ _ h) (t.keep fun a o n e => ⟨s a o e, n⟩)
  | _, _, .ownd h t => .ownd (s _ _ h) (t.keep fun a o n e => ⟨s a o e, n⟩)
  | _, _, .dn n h t => .dn n (s _ _ h) (t.keep fun a o n e => ⟨s a o e, n⟩)
  | _, _, .tw n h t => .tw n (s _ _ h) (RWs.same s t)
  | _, _, .fn h => .fn h
  | _, _, .scr h => .scr (h.keep fun a o n e => ⟨s a o e, n⟩)
  | _, _, .clo n h t => .clo n (s _ _ h) (RWs.same s t)
  | _, _, .err => .err
theorem RWs.same {N : Addr → Prop} (s : Same H H') : ∀ {vs : List V} {ws : List W}, RWs K mg H N μ vs ws → RWs K mg H' N μ vs ws
  | _, _, .nil => .nil
  | _, _, .cons h t => .cons (RW.same s h) (RWs.same s t)
end
theorem RO.same {N : Addr → Prop} (s : Same H H') {a : Addr} {o : O} (h : RO K mg H N μ a o) : RO K mg H' N μ a o := by
  cases h with
  | lst h t => exact .lst (s _ _ h) (t.keep fun a o n e => ⟨s a o e, n⟩)
  | ins g h m t p => exact .ins g (s _ _ h) m (RWs.same s t) p
  | dct h t => exact .dct (s _ _ h) fun x hx => (t x hx).keep fun a o n e => ⟨s a o e, n⟩
  | dcm h t => exact .dcm (s _ _ h) (t.keep fun a o n e => ⟨s a o e, n⟩)
  | tab e t => exact .tab e (t.keep (fun h => s _ _ h) fun a o n e => ⟨s a o e, n⟩)
/-- what was tracked is still there: the state stands -/
theorem Sim.same (h : Sim K mg F σ H env S μ) (s : Same H H') : Sim K mg F σ H' env S μ where
  len := h.len
  slot := fun i w e => let ⟨v, hv, r⟩ := h.slot i w e; ⟨v, hv, RW.same s r⟩
  fin := h.fin
  inj := h.inj
  apart := h.apart
  st := ⟨h.st.len, h.st.nd, fun n o e => let ⟨a, ha, r⟩ := h.st.obj n o e; ⟨a, ha, r.same s⟩⟩
  ftr := fun a f => let ⟨u, e⟩ := h.ftr a f; ⟨u, s a u e⟩
  fdis := h.fdis
theorem Sim.new (h : Sim K mg F σ H env S μ) {p : Addr} {o : HO} (n : H p = none) : Sim K mg F σ (upd H p o) env S μ := h.same (Same.upd_new n)
theorem Ext.same (s : Same H H') : Ext σ env H μ H' μ := ⟨fun a o n e => ⟨s a o e, n⟩, List.prefix_refl _⟩
end

section
variable (K : PySem.W.Frag) (mg : Str → Option Value) (EX : WX)
end
section
variable {K : PySem.W.Frag} {mg : Str → Option Value} {EX : WX} {F : Addr → Prop} {σ : L2.St} {env : EnvQ} {H H' : Hp} {S : Sto} {μ μ' : List Addr} {α β : Type}
theorem Post.bind {r : R α} {g : α → Sto → R β} {P : β → Sto → Hp → List Addr → Prop} (h : Post K mg EX F σ env H μ (r.bind g) P) :
    Post K mg EX F σ env H μ r (fun a S' H' μ' => Post K mg EX F σ env H' μ' (g a S') P) := by
  cases r with
  | ok a S' => exact fun H2 μ2 s2 x2 => Post.ext h x2
  | exc c S' => exact h
  | stuck => exact h
theorem Post.mono {r : R α} {P P' : α → Sto → Hp → List Addr → Prop} (h : Post K mg EX F σ env H μ r P) (f : ∀ a S' H' μ', Sim K mg F σ H' env S' μ' → Ext σ env H μ H' μ' → P a S' H' μ' → P' a S' H' μ') :
    Post K mg EX F σ env H μ r P' := by
  cases r with
  | ok a S' => exact fun H2 μ2 s2 x2 => f _ _ _ _ s2 x2 (h H2 μ2 s2 x2)
  | exc c S' => exact h
  | stuck => exact h
theorem Post.ok {a : α} {P : α → Sto → Hp → List Addr → Prop} (h : Post K mg EX F σ env H μ (.ok a S) P) (s : Sim K mg F σ H' env S μ') (x : Ext σ env H μ H' μ') : P a S H' μ' := h H' μ' s x
end

section
variable (K : PySem.W.Frag) (mg : Str → Option Value) (cf : CF) (EX : WX)
def tE (f : SE) : TE := fun σ H Q => ∃ env S μ F, Sim K mg F σ H env S μ ∧ Post K mg EX F σ env H μ (f cf env S) fun w _ H' μ' => ∀ v, RW K mg H' (NN F μ' σ env) μ' v w → Q v H'
def tT (f : ST) : TT := fun σ H Q => ∃ env S μ F, Sim K mg F σ H env S μ ∧ Post K mg EX F σ env H μ (f cf env S) fun b _ H' _ => Q b H'
def tA (f : SA) : TA := fun σ H Q => ∃ env S μ F, Sim K mg F σ H env S μ ∧ Post K mg EX F σ env H μ (f cf env S) fun ws _ H' μ' => ∀ vs, RWs K mg H' (NN F μ' σ env) μ' vs ws → Q vs H'
end
def ME (X : Cx) (cf : CF) (EX : WX) (e : Expr) (f : SE) : Prop := PE X e (tE X.K X.mg cf EX f)
def MT (X : Cx) (cf : CF) (EX : WX) (e : Expr) (f : ST) : Prop := PT X e (tT X.K X.mg cf EX f)
def MW (X : Cx) (cf : CF) (EX : WX) (e : Expr) (f : ST) : Prop := PW X e (tT X.K X.mg cf EX f)
def MA (X : Cx) (cf : CF) (EX : WX) (es : List Expr) (f : SA) : Prop := PA X es (tA X.K X.mg cf EX f)
theorem PE.weak {X : Cx} {e : Expr} {t t' : TE} (h : PE X e t) (w : ∀ σ H Q, t' σ H Q → t σ H Q) : PE X e t' := ⟨fun pins s σ H Q I q => h.run pins s σ H Q I (w σ H Q q)⟩
theorem PT.weak {X : Cx} {e : Expr} {t t' : TT} (h : PT X e t) (w : ∀ σ H Q, t' σ H Q → t σ H Q) : PT X e t' := ⟨fun pins s σ H Q I q => h.run pins s σ H Q I (w σ H Q q)⟩
theorem PW.weak {X : Cx} {e : Expr} {t t' : TT} (h : PW X e t) (w : ∀ σ H Q, t' σ H Q → t σ H Q) : PW X e t' := ⟨fun wh pins s σ H Q I q => h.run wh pins s σ H Q I (w σ H Q q)⟩
theorem PA.weak {X : Cx} {es : List Expr} {t t' : TA} (h : PA X es t) (w : ∀ σ H Q, t' σ H Q → t σ H Q) : PA X es t' := ⟨fun pos pins s σ H Q I q => h.run pos pins s σ H Q I (w σ H Q q)⟩
theorem PS.weak {X : Cx} {st : Stmt} {t t' : TS} (h : PS X st t) (w : ∀ D σ H, t' D σ H → t D σ H) : PS X st t' := ⟨fun pins s σ H D I q => h.run pins s σ H D I (w D σ H q)⟩
theorem PSs.weak {X : Cx} {st : List Stmt} {t t' : TS} (h : PSs X st t) (w : ∀ D σ H, t' D σ H → t D σ H) : PSs X st t' := ⟨fun pins s σ H D I q => h.run pins s σ H D I (w D σ H q)⟩
end Q

namespace Q
open PySem PySem.Spec PyProof.Rows L2

/-- as FnOk, of calls without a guard around -/
structure FnG (P : Program) (w : World) (K : PySem.W.Frag) (mg : Str → Option Value) (base : Heap) (CX : CXT) (k : Nat) (f : Addr) (fd : FuncData) (ps : List Str) (sp : Sp) : Prop where
  len : ∀ vs H Q E, sp vs H Q E → vs.length = ps.length
  run : ∀ (A : Around) (outer : List Env) (s : Shared) (H : Hp) (args : Args) (us : List Value) (vs : List V) (Q : VK) (E : XK), A.guards = some [] → Room k A → Env0 P w K mg base A outer s H → BindsTo s fd args (ps.zip us) → Vals vs us → sp vs H Q E →
    codeAny (model P w) A (.call (.ref f) args) (CR CX outer P w H s Q E) s
section
variable {X : Cx} {k : Nat} {f : Addr} {fd : FuncData} {ps : List Str} {sp : Sp} {EX : WX} {x : Str} {p pos : Pos} {e : Expr} {es : List Expr} {t : TA}
theorem run_G {pins : List (Addr × Obj)} {σ : L2.St} {H : Hp} {s : Shared} {Q : VK} {us : List Value} {vs : List V} (F : FnG X.prog X.w X.K X.mg X.base (L2.CX X.prog X.w) k f fd ps sp) (hg : X.A.guards = some []) (hr : Room k X.A) (hb : Binds X.K fd ps []) (tk : Takes X EX)
    (I : Inv X pins σ H s) (r : Vals vs us) (h : sp vs H Q (WE EX σ)) : wpAny (model X.prog X.w) X.A (call (.ref f) us) (EP X pins σ Q) X.xe s := by
  have hl : us.length = ps.length := by
    rw [← r.length]
    exact F.len _ _ _ _ h
  have bt := hb s us I.kIn (by simpa using hl)
  rw [List.append_nil] at bt
  apply wpAny_call
  apply codeAny_mono (F.run X.A X.stack s H ⟨us, []⟩ us vs Q (WE EX σ) hg hr I.env0 bt r h)
  rintro (e | fl) s' hq
  · exact passAt tk σ pins H s e s' I hq
  · cases fl with
    | ret u => exact I.after hq
    | _ => exact hq.elim
theorem pe_callG (F : FnG X.prog X.w X.K X.mg X.base (L2.CX X.prog X.w) k f fd ps sp) (hA : X.A.guards = some []) (hr : Room k X.A) (hg : Gl X x) (hm : X.mg x = some (.ref f)) (hk : PySem.W.keepIn X.K (.ref f) = true) (hb : Binds X.K fd ps []) (tk : Takes X EX)
    (ha : PA X (e :: es) t) (hdb : (x == ("__debug__" : Str)) = false) (he : starEach (e :: es) X.env = (false, eval e X.env) :: starEach es X.env) (hpl : (backTo pos (starEach es X.env)).any (·.1) = false) :
    PE X (.Call (.Name x p) (e :: es) [] pos) (tCallS sp (WE EX) t) := by
  constructor
  intro pins s σ H Q I h
  apply wpAny_Call_Name_kw
  apply ld_glob I hg hm _ hdb
  exact PySem.W.callWith_K (h₀ := X.base) I.ok.mod.kin hk (thn (ha.run pos pins s σ H _ I h) fun us s1 ⟨vs, H1, I1, r, q⟩ => ⟨I1.kIn, run_G F hA hr hb tk I1 r q⟩) he hpl
theorem pe_call0G (F : FnG X.prog X.w X.K X.mg X.base (L2.CX X.prog X.w) k f fd ps sp) (hA : X.A.guards = some []) (hr : Room k X.A) (hg : Gl X x) (hm : X.mg x = some (.ref f)) (hk : PySem.W.keepIn X.K (.ref f) = true) (hb : Binds X.K fd ps []) (tk : Takes X EX)
    (hdb : (x == ("__debug__" : Str)) = false) : PE X (.Call (.Name x p) [] [] pos) (tCallS sp (WE EX) tNil) := by
  constructor
  intro pins s σ H Q I h
  apply wpAny_Call_Name_kw
  apply ld_glob I hg hm _ hdb
  exact PySem.W.callWith_K0 I.kIn hk (run_G (us := []) F hA hr hb tk I .nil h)
end
/-- a def's body keeps its promise -/
theorem ok_G {CX : CXT} {P : Program} {w : World} {K : PySem.W.Frag} {mg : Str → Option Value} {base : Heap} {k : Nat} {f : Addr} {fd : FuncData} {x qual : Str} {params : Arguments} {body : List Stmt} {scope : Scope} {dvs : List V} {kws : List (Str × V)} {N ps : List Str} {sp : Sp} (F : FunD K x qual params body scope dvs kws f fd) (S : FnScope N ps scope)
    (len : ∀ vs H Q E, sp vs H Q E → vs.length = ps.length)
    (hbody : ∀ (cdv : Value) (A : Around) (outer : List Env) (s : Shared) (H : Hp) (vs : List V) (Q : VK) (E : XK), A.guards = some [] → Room k (A.deeper (envOfC qual scope s.heap.objs.size f cdv)) → sp vs H Q E →
      ∃ t, PSs (cxOf CX P w K mg base N qual scope f cdv A outer s H E) body t ∧ t { nx := fun _ H' => Q .non H', rt := Q } (start N vs) H) : FnG P w K mg base CX (k + 1) f fd ps sp := by
  obtain ⟨oc, od, dV, kV, doc, pm, an, cdv, ct, osl, rfl, lk, hcd, _, _⟩ := F.ex
  refine ⟨len, ?_⟩
  intro A outer s H args us vs Q E hg hr e0 hb r hsp
  have up : ∀ b o, base.get? b = some o → s.heap.get? b = some o := fun b o e => (e0.bs b o e).1
  have KX : K.In s.heap := e0.mod.kin.keeps up
  apply codeAny_call_function hr.depth (KX _ _ lk) rfl S.co S.gen rfl (PySem.W.codeRec_of KX hcd)
  apply hb
  have kinds : ∀ y ∈ ps.zip us, scope.names.lookup y.1 = some .local ∨ (scope.names.lookup y.1 = some .cell ∧ ((cellsFrom (s.heap.objs.size + 1) scope.names []).lookup y.1).isSome = true) := by
    rintro ⟨n, v⟩ hy
    rcases S.par n (List.of_mem_zip hy).1 with q | q
    · exact .inl q
    · exact .inr ⟨q, PySem.W.cellsFrom_some _ _ _ (.inl q)⟩
  apply wpAny_newFunctionEnv_cells S.kind kinds
  rintro env rfl s1 xx
  refine ⟨(e0.mod.nolimit.keeps up).keeps xx.toInCall.keep, codeAny_func ?_⟩
  obtain ⟨t, ht, hq⟩ := hbody cdv A outer s H vs Q E hg (hr.deeper _) hsp
  have I : Inv (cxOf CX P w K mg base N qual scope f cdv A outer s H E) [] (start N vs) H s1 := inv_start S hr.hd e0 (len _ _ _ _ hsp) r xx
  apply wpAny_mono (ht.run [] s1 (start N vs) H _ I hq)
  · intro fl s' hs
    cases fl with
    | ret u =>
      obtain ⟨v, σ', H', J, rv, q⟩ := hs
      exact ⟨v, H', J.os, J.bare, J.base, J.hok, rv, q⟩
    | next =>
      obtain ⟨σ', H', J, q⟩ := hs
      exact ⟨V.non, H', J.os, J.bare, J.base, J.hok, rfl, q⟩
    | brk =>
      obtain ⟨_, _, _, q⟩ := hs
      exact q.elim
    | cont =>
      obtain ⟨_, _, _, q⟩ := hs
      exact q.elim
  · exact fun _ _ h => h
section
variable {P : Program} {w : World} {K : PySem.W.Frag} {mg mb : Str → Option Value} {k : Nat} {fa a : Addr} {fd : FuncData} {x : Str} {sp : Sp} {s₁ : Shared} {vs : List Value} {ns : List Int}
/-- what a law's end asks of the state behind the call -/
abbrev EndG (s₁ : Shared) : Result → Shared → Prop := fun r s' => r = .ok (.ret (.bool true)) ∧ OldK s₁.heap s'.heap ∧ s'.os = s₁.os ∧ AllBare s'.gens
/-- from a tracked heap that holds nothing but the script -/
theorem end_core (KX : K.In s₁.heap) (hns : s₁.heap.Ns mainGlobals mg) (hb : s₁.heap.Ns builtinsNs mb) (hbb : ∀ x : Str, x ≠ "__name__" → mb x = bootBuiltins x) (hlim : s₁.heap.NoLimit) (hg : s₁.gens = #[])
    (ha : s₁.heap.get? a = some { cls := .type "list", data := .seq vs.toArray }) (hr : Room k callerA)
    (F : ∀ base : Heap, K.In base → base.Ns mainGlobals mg → FnG P w K mg base (L2.CX P w) k fa fd [x] sp) (hbind : ∀ (s : Shared) (u : Value), BindsTo s fd ⟨[u], []⟩ [(x, u)])
    (hsp : ∀ H : Hp, Only H → SqL K H a (ns.map V.int) → sp [.ref a] H (fun v _ => v = .bl true) fun _ _ _ => False)
    (H : Hp) (hO : Only H) (hS : SqL K H a (ns.map V.int)) (hok : HOk P w H s₁.heap) (hA : ∀ b, H b ≠ none → b = a) (hK : H a ≠ none → K.lookup a = none) :
    codeAny (model P w) callerA (.call (.ref fa) ⟨[.ref a], []⟩) (EndG s₁) s₁ := by
  have off : ∀ {b : Addr} {o : Obj} {es : Array DictEntry} {ep : Nat}, s₁.heap.get? b = some o → o.data = .dict es ep → H b = none := by
    intro b o es ep e d
    by_cases q : H b = none
    · exact q
    · have z := hA b q
      subst z
      rw [ha] at e
      cases e
      cases d
  have ns : ∀ {b : Addr} {m : Str → Option Value}, s₁.heap.Ns b m → (hidT s₁.heap H).Ns b m := by
    rintro b m ⟨o, es, ep, e, d, r⟩
    exact ⟨o, es, ep, hidT_get e (off e d), d, r⟩
  have hKb : K.In (hidT s₁.heap H) := by
    intro b o e
    apply hidT_get (KX b o e)
    by_cases q : H b = none
    · exact q
    · have z := hA b q
      subst z
      rw [hK q] at e
      cases e
  have lim : (hidT s₁.heap H).NoLimit := by
    obtain ⟨mc, h1, h2⟩ := hlim
    exact ⟨mc, ns h1, h2⟩
  have e0 : Env0 P w K mg (hidT s₁.heap H) callerA [] s₁ H :=
    { frames := rfl, mod := ⟨hKb, ns hns, ⟨mb, ns hb, hbb⟩, lim⟩, bs := fun b o e => of_hidT e, bsz := Nat.le_of_eq (hidT_size _ _), funs := trivial, frf := fun b hb => absurd hb (by simp [frs]), hok := hok, bare := .of_eq hg }
  apply codeAny_mono ((F _ hKb (ns hns)).run callerA [] s₁ H ⟨[.ref a], []⟩ [.ref a] [.ref a] _ _ rfl hr e0 (hbind s₁ (.ref a)) (.cons rfl .nil) (hsp H hO hS))
  rintro (e | fl) s' h
  · obtain ⟨_, _, _, _, _, _, _, _, _, _, _, _, z⟩ := h
    exact z.elim
  · cases fl with
    | ret u =>
      obtain ⟨v, H', os, bare, un, hok', r', rfl⟩ := h
      cases r'
      refine ⟨rfl, OldK.of_keep ?_, os, bare⟩
      intro b o e
      by_cases q : H b = none
      · exact un.keep b o e q (by simp [frs]) (by simp)
      · rcases hO b with z | ⟨ob, xs, z⟩
        · exact absurd z q
        · obtain ⟨e1, _⟩ := hok b _ z
          obtain ⟨e2, _⟩ := hok' b _ (un.frzs b ob _ z)
          rw [e] at e1
          cases e1
          exact e2
    | _ => exact h.elim
theorem law_G (KX : K.In s₁.heap) (hns : s₁.heap.Ns mainGlobals mg) (hb : s₁.heap.Ns builtinsNs mb) (hbb : ∀ x : Str, x ≠ "__name__" → mb x = bootBuiltins x) (hlim : s₁.heap.NoLimit) (hg : s₁.gens = #[])
    (ha : s₁.heap.get? a = some { cls := .type "list", data := .seq vs.toArray }) (hi : IntsAre vs ns) (hl : ns.length ≤ sizeLine) (hr : Room k callerA)
    (F : ∀ base : Heap, K.In base → base.Ns mainGlobals mg → FnG P w K mg base (L2.CX P w) k fa fd [x] sp) (hbind : ∀ (s : Shared) (u : Value), BindsTo s fd ⟨[u], []⟩ [(x, u)])
    (hsp : ∀ H : Hp, Only H → SqL K H a (ns.map V.int) → sp [.ref a] H (fun v _ => v = .bl true) fun _ _ _ => False) :
    codeAny (model P w) callerA (.call (.ref fa) ⟨[.ref a], []⟩) (EndG s₁) s₁ := by
  have rv := vals_ints hi
  have core := end_core KX hns hb hbb hlim hg ha hr F hbind hsp
  cases hk : K.lookup a with
  | some o =>
    have e := KX a o hk
    rw [ha] at e
    cases e
    apply core (fun _ => none)
    · exact fun _ => .inl rfl
    · exact .inr ⟨_, vs.toArray, _, hk, rfl, rfl, rfl, by rw [List.size_toArray, hi.length]; exact hl, by simpa using rv⟩
    · intro b u z
      cases z
    · exact fun b z => absurd rfl z
    · exact fun z => absurd rfl z
  | none =>
    have at_a : upd (fun _ => none) a (.frz { cls := .type "list", data := .seq vs.toArray } (.lst (ns.map V.int))) a = some (.frz { cls := .type "list", data := .seq vs.toArray } (.lst (ns.map V.int))) := upd_same
    apply core (upd (fun _ => none) a (.frz { cls := .type "list", data := .seq vs.toArray } (.lst (ns.map V.int))))
    · intro b
      by_cases hb : b = a
      · subst hb
        exact .inr ⟨_, _, at_a⟩
      · exact .inl (upd_ne hb)
    · exact .inl (.inr ⟨_, at_a⟩)
    · intro b u z
      by_cases hb : b = a
      · subst hb
        rw [at_a] at z
        cases z
        exact ⟨ha, by rw [List.length_map]; exact hl, vs, _, rv, ha⟩
      · rw [upd_ne hb] at z
        cases z
    · intro b z
      by_cases hb : b = a
      · exact hb
      · exact absurd (upd_ne hb) z
    · exact fun _ => hk
end
theorem walk_G {l : PySem.W.OpenLaw} {n k : Nat} {q : Program} {loose : List Str} {XP : (Str → Option Value) → Heap → Prop} {YP : World → Heap → Prop} {d : DefRec} {x : Str}
    (hn : l.most = some n) (hn2 : n ≤ sizeLine) (hdf : d.params.defaults = []) (hr : Room k callerA)
    (F : ∀ (w : World) (mg : Str → Option Value) (fa : Addr) (h : Heap), YP w h → h.Ns mainGlobals mg → mg d.name = some (.ref fa) →
      ∃ (K : PySem.W.Frag) (fd : FuncData) (sp : Sp), K.In h ∧ (∀ (s : Shared) (u : Value), BindsTo s fd ⟨[u], []⟩ [(x, u)]) ∧
        (∀ (H : Hp) (a : Addr) (ns : List Int), ns.length ≤ n → Only H → SqL K H a (ns.map V.int) → sp [.ref a] H (fun v _ => v = .bl true) fun _ _ _ => False) ∧
        ∀ base : Heap, K.In base → base.Ns mainGlobals mg → FnG l.prog w K mg base (L2.CX l.prog w) k fa fd [x] sp) :
    PySem.W.WalkO q loose XP YP l.row.toRowW d [] (fun f vs => PySem.call f vs) := by
  apply Att.attach_call hn hdf
  intro w s₀ s₁ mg mb fa o pm cd doc a vs ns G Y ho hd hcd hmg hobj hints hlen hg
  obtain ⟨K, fd, sp, KX, hb, hsp, hF⟩ := F w mg fa _ Y G.T.g hmg
  exact law_G KX G.T.g G.T.b G.T.builtins G.T.nolimit hg hobj hints (Nat.le_trans hlen hn2) hr hF hb fun H hO hS => hsp H a ns hlen hO hS
end Q

namespace Q
open PySem PySem.Spec PyProof.Rows L2

def fW (w : W) : SE := fun _ _ S => .ok w S
def fInt (i : Int) : SE := fW (.d (.int i))
def fBl (b : Bool) : SE := fW (.d (.bool b))
def fNon : SE := fW (.d .none)
def fStr (s : Str) : SE := fW (.d (.str s))
def fVar (i : Nat) : SE := fun _ env S => match env[i]? with
  | some (some w) => if w.plain then .ok w S else .stuck
  | _ => .stuck
abbrev G2 := W → W → Sto → R W
def fBin (g : G2) (a b : SE) : SE := fun cf env S => (a cf env S).bind fun x S1 => (b cf env S1).bind fun y S2 => g x y S2
abbrev LIM : Nat := 16777216
def gAdd : G2
  | .d (.int i), .d (.int j), S => .ok (.d (.int (i + j))) S
  | .d (.str a), .d (.str b), S => if a.length + b.length ≤ LIM then .ok (.d (.str (a ++ b))) S else .stuck
  | .d (.tuple a), .d (.tuple b), S => if a.length + b.length ≤ LIM then .ok (.d (.tuple (a ++ b))) S else .stuck
  | .d (.list a), .d (.list b), S => if a.length + b.length ≤ LIM then .ok (.d (.list (a ++ b))) S else .stuck
  | _, _, _ => .stuck
def gSub : G2
  | .d (.int i), .d (.int j), S => .ok (.d (.int (i - j))) S
  | _, _, _ => .stuck
/-- a number small enough for products -/
def sm (i : Int) : Bool := Nat.ble i.natAbs 18446744073709551615
theorem sm_iff {i : Int} (h : sm i = true) : -(2 ^ 64) < i ∧ i < 2 ^ 64 := by
  have := Nat.le_of_ble_eq_true h
  omega
def gMod : G2
  | .d (.int i), .d (.int j), S => if 0 < j then .ok (.d (.int (i % j))) S else .stuck
  | _, _, _ => .stuck
def gDiv : G2
  | .d (.int i), .d (.int j), S => if 0 < j ∧ Nat.ble j.natAbs 18446744073709551615 = true then .ok (.d (.int (i / j))) S else .stuck
  | _, _, _ => .stuck
def gPow : G2
  | .d (.int i), .d (.int j), S => if 0 ≤ j ∧ j ≤ 1000000 ∧ i.natAbs < 2 ^ 64 then .ok (.d (.int (i ^ j.toNat))) S else .stuck
  | _, _, _ => .stuck
def gCmp (p : Int → Int → Bool) : G2
  | .d (.int i), .d (.int j), S => .ok (.d (.bool (p i j))) S
  | _, _, _ => .stuck
def gLt : G2 := gCmp fun i j => decide (i < j)
def gLe : G2 := gCmp fun i j => decide (i ≤ j)
def gGt : G2 := gCmp fun i j => decide (j < i)
def gGe : G2 := gCmp fun i j => decide (j ≤ i)
/-- data that == may look at -/
def okEq (d : D) : Bool := d.canLay0 && decide (d.depth ≤ 64)
def gEq : G2
  | .d (.str a), .d (.str b), S => .ok (.d (.bool (decide (a = b)))) S
  | .d x, .d y, S => if okEq x && okEq y then .ok (.d (.bool (PyData.eqv x y))) S else .stuck
  | _, _, _ => .stuck
def gNe : G2
  | .d (.str a), .d (.str b), S => .ok (.d (.bool (!decide (a = b)))) S
  | .d x, .d y, S => if okEq x && okEq y then .ok (.d (.bool (!PyData.eqv x y))) S else .stuck
  | _, _, _ => .stuck
def W.isNone : W → Bool
  | .d .none => true
  | _ => false
def fIsNone (a : SE) : SE := fun cf env S => (a cf env S).bind fun x S1 => .ok (.d (.bool x.isNone)) S1
def fNotNone (a : SE) : SE := fun cf env S => (a cf env S).bind fun x S1 => .ok (.d (.bool (!x.isNone))) S1
def fNeg (a : SE) : SE := fun cf env S => (a cf env S).bind fun x S1 => match x with
  | .d (.int i) => .ok (.d (.int (-i))) S1
  | _ => .stuck
/-- tests -/
def cVal (a : SE) : ST := fun cf env S => (a cf env S).bind fun x S1 => match x with
  | .d (.bool b) => .ok b S1
  | _ => .stuck
def cNot (a : ST) : ST := fun cf env S => (a cf env S).bind fun b S1 => .ok (!b) S1
def cAnd (a b : ST) : ST := fun cf env S => (a cf env S).bind fun x S1 => if x = true then b cf env S1 else .ok false S1
def cOr (a b : ST) : ST := fun cf env S => (a cf env S).bind fun x S1 => if x = true then .ok true S1 else b cf env S1
def fAnd (a b : SE) : SE := fun cf env S => (a cf env S).bind fun x S1 => match x with
  | .d (.bool c) => if c = true then b cf env S1 else .ok (.d (.bool false)) S1
  | _ => .stuck
def fOr (a b : SE) : SE := fun cf env S => (a cf env S).bind fun x S1 => match x with
  | .d (.bool c) => if c = true then .ok (.d (.bool true)) S1 else b cf env S1
  | _ => .stuck
def fNot (a : SE) : SE := fun cf env S => (a cf env S).bind fun x S1 => match x with
  | .d (.bool c) => .ok (.d (.bool (!c))) S1
  | _ => .stuck
def fIf (c : ST) (a b : SE) : SE := fun cf env S => (c cf env S).bind fun x S1 => if x = true then a cf env S1 else b cf env S1
def aNil : SA := fun _ _ S => .ok [] S
def aCons (a : SE) (r : SA) : SA := fun cf env S => (a cf env S).bind fun x S1 => (r cf env S1).bind fun xs S2 => if x.plain then .ok (x :: xs) S2 else .stuck
def datas : List W → Option (List D)
  | [] => some []
  | .d x :: ws => (datas ws).map (x :: ·)
  | _ :: _ => none
def fTup (a : SA) : SE := fun cf env S => (a cf env S).bind fun ws S1 => if ws.length ≤ LIM then (match datas ws with
  | some ds => .ok (.d (.tuple ds)) S1
  | none => .ok (.tw ws) S1) else .stuck
def fLst (a : SA) : SE := fun cf env S => (a cf env S).bind fun ws S1 => if ws.length ≤ LIM then (match datas ws with
  | some ds => .ok (.d (.list ds)) S1
  | none => .stuck) else .stuck
def tyName : D → String
  | .none => "NoneType" | .bool _ => "bool" | .int _ => "int" | .str _ => "str" | .list _ => "list" | .tuple _ => "tuple" | .dict _ => "dict"
def isTy (T : String) (d : D) : Bool := tyName d == T || (tyName d == "bool" && T == "int")
def fIsI (T : String) (a : SE) : SE := fun cf env S => (a cf env S).bind fun x S1 => match x with
  | .d d => .ok (.d (.bool (isTy T d))) S1
  | _ => .stuck

section
variable {X : Cx} {cf : CF} {EX : WX} {e a b c : Expr} {es : List Expr} {fa fb fc : SE} {ga gb gc : ST} {ha hb : SA} {pos p : Pos}
theorem me_w {v : V} {w : W} (h : PE X e (tC v)) (r : ∀ H N μ, RW X.K X.mg H N μ v w) : ME X cf EX e (fW w) :=
  PE.weak h fun σ H Q ⟨env, S, μ, F, s, q⟩ => q H μ s (Ext.refl _ _ _ _) v (r _ _ _)
theorem me_int {i : Int} {j} : ME X cf EX (.Constant (.int i) j pos) (fInt i) := me_w pe_int fun _ _ _ => .d (.int i)
theorem me_bl {k : Bool} {j} : ME X cf EX (.Constant (.bool k) j pos) (fBl k) := me_w pe_bl fun _ _ _ => .d (.bl k)
theorem me_non {j} : ME X cf EX (.Constant .none j pos) fNon := me_w pe_non fun _ _ _ => .d .non
theorem me_str {x : Str} {j} : ME X cf EX (.Constant (.str x) j pos) (fStr x) := me_w pe_str fun _ _ _ => .d (.str x)
theorem me_var {i : Nat} {x : Str} (h : PE X (.Name x pos) (tVar i)) : ME X cf EX (.Name x pos) (fVar i) :=
  PE.weak h fun σ H Q ⟨env, S, μ, F, s, q⟩ => by
    unfold fVar at q
    cases e : env[i]? with
    | none => rw [e] at q; exact q.elim
    | some ow =>
      cases ow with
      | none => rw [e] at q; exact q.elim
      | some w =>
        rw [e] at q
        simp only at q
        cases pw : w.plain with
        | false => rw [pw] at q; exact q.elim
        | true =>
          rw [pw] at q
          obtain ⟨v, hv, r⟩ := s.slot i w e
          exact ⟨v, hv, q H μ s (Ext.refl _ _ _ _) v r⟩
/-- a module's whole number -/
theorem me_globI {x : Str} {i : Int} (hg : Gl X x) (hm : ∃ t, X.mg x = some (.int i t)) (hd : (x == ("__debug__" : Str)) = false := by decide) : ME X cf EX (.Name x pos) (fInt i) :=
  let ⟨t, e⟩ := hm; me_w (pe_glob (v := .int i) hg e ⟨_, rfl⟩ hd) fun _ _ _ => .d (.int i)
theorem me_globS {x y : Str} (hg : Gl X x) (hm : ∃ t, X.mg x = some (.str y t)) (hd : (x == ("__debug__" : Str)) = false := by decide) : ME X cf EX (.Name x pos) (fStr y) :=
  let ⟨t, e⟩ := hm; me_w (pe_glob (v := .str y) hg e ⟨_, rfl⟩ hd) fun _ _ _ => .d (.str y)
/-- a rule by values says no more than g -/
def Op (X : Cx) (EX : WX) (r : R2) (g : G2) : Prop := ∀ (F : Addr → Prop) (σ : L2.St) (env : EnvQ) (S : Sto) (H : Hp) (μ : List Addr) (x y : V) (w u : W) (Q : VK), Sim X.K X.mg F σ H env S μ → RW X.K X.mg H (NN F μ σ env) μ x w → w.plain = true → RW X.K X.mg H (NN F μ σ env) μ y u → u.plain = true →
  Post X.K X.mg EX F σ env H μ (g w u S) (fun w _ H' μ' => ∀ v, RW X.K X.mg H' (NN F μ' σ env) μ' v w → Q v H') → r x y H Q
theorem tE_bin {r : R2} {g : G2} (o : Op X EX r g) (hp : ∀ w u S, w.plain = false ∨ u.plain = false → g w u S = .stuck) (σ : L2.St) (H : Hp) (Q : VK) (q : tE X.K X.mg cf EX (fBin g fa fb) σ H Q) : tOp r (tE X.K X.mg cf EX fa) (tE X.K X.mg cf EX fb) σ H Q := by
  obtain ⟨env, S, μ, F, s, q⟩ := q
  refine ⟨env, S, μ, F, s, (Post.bind q).mono fun w S1 H1 μ1 s1 x1 q1 v rv => ?_⟩
  refine ⟨env, S1, μ1, F, s1, (Post.bind q1).mono fun u S2 H2 μ2 s2 x2 q2 v2 rv2 => ?_⟩
  by_cases pw : w.plain = true
  · by_cases pu : u.plain = true
    · exact o F σ env S2 H2 μ2 v v2 w u Q s2 (RW.keep (x2.nn F) x2.pre rv pw) pw rv2 pu q2
    · rw [hp w u S2 (.inr (by simpa using pu))] at q2
      exact q2.elim
  · rw [hp w u S2 (.inl (by simpa using pw))] at q2
    exact q2.elim
theorem me_bin {op : Operator} {r : R2} {g : G2} (ho : OpR X (binaryOp op) r) (o : Op X EX r g) (hp : ∀ w u S, w.plain = false ∨ u.plain = false → g w u S = .stuck) (h1 : ME X cf EX a fa) (h2 : ME X cf EX b fb) : ME X cf EX (.BinOp a op b pos) (fBin g fa fb) :=
  PE.weak (pe_op ho h1 h2) (tE_bin o hp)
theorem me_cmp {op : CmpOp} {r : R2} {g : G2} (ho : OpR X (compareOp op) r) (o : Op X EX r g) (hp : ∀ w u S, w.plain = false ∨ u.plain = false → g w u S = .stuck) (h1 : ME X cf EX a fa) (h2 : ME X cf EX b fb) (hm : behindInMarks op b = false) : ME X cf EX (.Compare a [op] [b] pos) (fBin g fa fb) :=
  PE.weak (pe_cmpR ho h1 h2 hm) (tE_bin o hp)
/-- ints -/
theorem rw_int {K : PySem.W.Frag} {mg : Str → Option Value} {H : Hp} {N : Addr → Prop} {μ : List Addr} {v : V} {i : Int} (h : RW K mg H N μ v (.d (.int i))) : v = .int i := by
  cases h with | d h => cases h; rfl
theorem rw_bl {K : PySem.W.Frag} {mg : Str → Option Value} {H : Hp} {N : Addr → Prop} {μ : List Addr} {v : V} {i : Bool} (h : RW K mg H N μ v (.d (.bool i))) : v = .bl i := by
  cases h with | d h => cases h; rfl
theorem rw_str {K : PySem.W.Frag} {mg : Str → Option Value} {H : Hp} {N : Addr → Prop} {μ : List Addr} {v : V} {i : Str} (h : RW K mg H N μ v (.d (.str i))) : v = .str i := by
  cases h with | d h => cases h; rfl
theorem lim_line : LIM = sizeLine := sizeLine_eq.symm
end
end Q

namespace Q
open PySem PySem.Spec PyProof.Rows L2
section
variable {X : Cx} {cf : CF} {EX : WX} {F : Addr → Prop} {K : PySem.W.Frag} {mg : Str → Option Value} {H : Hp} {N : Addr → Prop} {μ : List Addr} {v : V}
theorem rw_tup {xs : List D} (h : RW K mg H N μ v (.d (.tuple xs))) : ∃ a vs, v = .ref a ∧ RdT K H N a vs ∧ DnAll K H N vs xs := by
  cases h with | d h => cases h with | tup h t => exact ⟨_, _, rfl, h, t⟩
theorem rw_lst {xs : List D} (h : RW K mg H N μ v (.d (.list xs))) : ∃ a vs, v = .ref a ∧ ¬ N a ∧ H a = some (.lst vs) ∧ DnAll K H N vs xs := by
  cases h with | d h => cases h with | lst h t => exact ⟨_, _, rfl, h.1, h.2, t⟩
/-- a new tuple, a new list -/
theorem post_tup {α : Type} {σ : L2.St} {env : EnvQ} {S : Sto} {xs : List D} {vs : List V} {P : V → Hp → Prop} (s : Sim K mg F σ H env S μ) (t : DnAll K H (NN F μ σ env) vs xs)
    (q : Post K mg EX F σ env H μ (.ok (.d (.tuple xs)) S) (fun w _ H' μ' => ∀ v, RW K mg H' (NN F μ' σ env) μ' v w → P v H')) {p : Addr} (n : H p = none) : P (.ref p) (upd H p (.tup vs)) :=
  q _ μ (s.new n) (ext_new n) _ (.d (.tup (.inl ⟨s.fresh n, .inl upd_same⟩) (t.keep (Keep.upd_new n))))
theorem post_lst {σ : L2.St} {env : EnvQ} {S : Sto} {xs : List D} {vs : List V} {P : V → Hp → Prop} (s : Sim K mg F σ H env S μ) (t : DnAll K H (NN F μ σ env) vs xs)
    (q : Post K mg EX F σ env H μ (.ok (.d (.list xs)) S) (fun w _ H' μ' => ∀ v, RW K mg H' (NN F μ' σ env) μ' v w → P v H')) {p : Addr} (n : H p = none) : P (.ref p) (upd H p (.lst vs)) :=
  q _ μ (s.new n) (ext_new n) _ (.d (.lst ⟨s.fresh n, upd_same⟩ (t.keep (Keep.upd_new n))))
theorem post_here {σ : L2.St} {env : EnvQ} {S : Sto} {w : W} {P : V → Hp → Prop} (s : Sim K mg F σ H env S μ) (r : RW K mg H (NN F μ σ env) μ v w)
    (q : Post K mg EX F σ env H μ (.ok w S) (fun w _ H' μ' => ∀ v, RW K mg H' (NN F μ' σ env) μ' v w → P v H')) : P v H := q H μ s (Ext.refl _ _ _ _) v r

theorem o_add : Op X EX (fun x y H Q => (rI0 fun i j => .int (i + j)) x y H Q ∨ (∃ i j, x = .str i ∧ y = .str j ∧ i.length + j.length ≤ sizeLine ∧ Q (.str (i ++ j)) H) ∨ rCatA X.K x y H Q ∨ rCat x y H Q) gAdd := by
  intro F σ env S H μ x y w u Q s rx pw ry pu q
  unfold gAdd at q
  split at q
  · rw [rw_int rx, rw_int ry]
    exact .inl ⟨_, _, rfl, rfl, post_here s (.d (.int _)) q⟩
  · rw [rw_str rx, rw_str ry]
    split at q
    · rename_i h
      exact .inr (.inl ⟨_, _, rfl, rfl, by rw [← lim_line]; exact h, post_here s (.d (.str _)) q⟩)
    · exact q.elim
  · obtain ⟨a, vs, rfl, ha, ta⟩ := rw_tup rx
    obtain ⟨b, us, rfl, hb, tb⟩ := rw_tup ry
    split at q
    · rename_i h
      refine .inr (.inr (.inl ⟨a, b, vs, us, rfl, rfl, ha.sq, hb.sq, by rw [← lim_line, ta.length, tb.length]; exact h, fun e => ?_, fun e1 e2 => ?_, fun _ _ p n => post_tup (α := Unit) s (ta.append tb) q n⟩))
      · subst e
        cases ta
        exact post_here s ry q
      · subst e2
        cases tb
        rw [List.append_nil] at q
        exact post_here s rx q
    · exact q.elim
  · obtain ⟨a, vs, rfl, na, ha, ta⟩ := rw_lst rx
    obtain ⟨b, us, rfl, nb, hb, tb⟩ := rw_lst ry
    split at q
    · rename_i h
      exact .inr (.inr (.inr ⟨a, b, vs, us, rfl, rfl, ha, hb, by rw [← lim_line, ta.length, tb.length]; exact h, fun p n => post_lst s (ta.append tb) q n⟩))
    · exact q.elim
  · exact q.elim
theorem g_plain (g : G2) (h : ∀ w u S, g w u S ≠ .stuck → w.plain = true ∧ u.plain = true) : ∀ w u S, w.plain = false ∨ u.plain = false → g w u S = .stuck := by
  intro w u S e
  by_cases k : g w u S = .stuck
  · exact k
  · obtain ⟨h1, h2⟩ := h w u S k
    rcases e with e | e
    · rw [h1] at e; cases e
    · rw [h2] at e; cases e
theorem gp_add : ∀ w u S, w.plain = false ∨ u.plain = false → gAdd w u S = .stuck := g_plain _ fun w u S k => by
  unfold gAdd at k
  split at k <;> first | exact ⟨rfl, rfl⟩ | exact absurd rfl k
theorem me_add {a b : Expr} {fa fb : SE} {pos : Pos} (h1 : ME X cf EX a fa) (h2 : ME X cf EX b fb) : ME X cf EX (.BinOp a .Add b pos) (fBin gAdd fa fb) :=
  me_bin (OpR.or op_add (OpR.or op_add_str (OpR.or op_catA op_cat))) o_add gp_add h1 h2
/-- ints -/
theorem o_int {C : Int → Int → Prop} {g : Int → Int → V} {gg : G2} (h : ∀ w u S, (∃ i j, w = .d (.int i) ∧ u = .d (.int j) ∧ C i j ∧ ∃ x, (∀ H N, Dn X.K H N (g i j) x) ∧ gg w u S = .ok (.d x) S) ∨ gg w u S = .stuck) : Op X EX (rI C g) gg := by
  intro F σ env S H μ x y w u Q s rx pw ry pu q
  rcases h w u S with ⟨i, j, rfl, rfl, c, z, r, e⟩ | e
  · rw [e] at q
    rw [rw_int rx, rw_int ry]
    exact ⟨i, j, rfl, rfl, c, post_here s (.d (r _ _)) q⟩
  · rw [e] at q
    exact q.elim
theorem o_int0 {g : Int → Int → V} {gg : G2} (h : ∀ w u S, (∃ i j, w = .d (.int i) ∧ u = .d (.int j) ∧ ∃ x, (∀ H N, Dn X.K H N (g i j) x) ∧ gg w u S = .ok (.d x) S) ∨ gg w u S = .stuck) : Op X EX (rI0 g) gg := by
  intro F σ env S H μ x y w u Q s rx pw ry pu q
  rcases h w u S with ⟨i, j, rfl, rfl, z, r, e⟩ | e
  · rw [e] at q
    rw [rw_int rx, rw_int ry]
    exact ⟨i, j, rfl, rfl, post_here s (.d (r _ _)) q⟩
  · rw [e] at q
    exact q.elim
theorem gp_int {gg : G2} (h : ∀ w u S, gg w u S ≠ .stuck → ∃ i j, w = .d (.int i) ∧ u = .d (.int j)) : ∀ w u S, w.plain = false ∨ u.plain = false → gg w u S = .stuck := g_plain _ fun w u S k => by
  obtain ⟨i, j, rfl, rfl⟩ := h w u S k
  exact ⟨rfl, rfl⟩
section
variable {a b : Expr} {fa fb : SE} {pos : Pos}
theorem me_sub (h1 : ME X cf EX a fa) (h2 : ME X cf EX b fb) : ME X cf EX (.BinOp a .Sub b pos) (fBin gSub fa fb) := by
  refine me_bin op_sub (o_int0 fun w u S => ?_) (gp_int fun w u S k => ?_) h1 h2
  · unfold gSub
    split
    · exact .inl ⟨_, _, rfl, rfl, _, fun _ _ => .int _, rfl⟩
    · exact .inr rfl
  · unfold gSub at k
    split at k
    · exact ⟨_, _, rfl, rfl⟩
    · exact absurd rfl k
theorem sm_ok {i j : Int} (h : (sm i || sm j) = true) : CMul i j := by
  rw [Bool.or_eq_true] at h
  exact h.elim (fun h => .inl (sm_iff h)) fun h => .inr (sm_iff h)
theorem me_mod (h1 : ME X cf EX a fa) (h2 : ME X cf EX b fb) : ME X cf EX (.BinOp a .Mod b pos) (fBin gMod fa fb) := by
  refine me_bin op_mod (o_int fun w u S => ?_) (gp_int fun w u S k => ?_) h1 h2
  · unfold gMod
    split
    · split
      · rename_i h
        exact .inl ⟨_, _, rfl, rfl, h, _, fun _ _ => .int _, rfl⟩
      · exact .inr rfl
    · exact .inr rfl
  · unfold gMod at k
    split at k
    · exact ⟨_, _, rfl, rfl⟩
    · exact absurd rfl k
theorem noPyl {x y : Int} (h : y.natAbs < 18446744073709551616) : Builtin.divisionGoesByPylong x y = false := by
  have k : ¬ (if (y == 0) = true then 0 else y.natAbs.log2 / 30 + 1) > 300 := by
    split
    · omega
    · rename_i z
      have hz : y.natAbs ≠ 0 := by
        intro q
        exact z (by simp; omega)
      have : y.natAbs.log2 < 64 := (Nat.log2_lt hz).mpr h
      omega
  unfold Builtin.divisionGoesByPylong
  show (decide ((if (y == 0) = true then 0 else y.natAbs.log2 / 30 + 1) > 300) && _) = false
  rw [decide_eq_false k, Bool.false_and]
def CDivW (i j : Int) : Prop := 0 < j ∧ j < 18446744073709551616
theorem op_fdivW : OpR X (binaryOp .FloorDiv) (rI CDivW fun i j => .int (i / j)) := opI fun i j _ _ _ _ _ hc q => by
  have h1 : (0 : Int) < j := hc.1
  have h2 : j < 18446744073709551616 := hc.2
  exact floordiv_int (by omega) (by rw [Int.fdiv_eq_ediv_of_nonneg i (by omega)]; exact q) (.inl (noPyl (by omega)))
theorem me_div (h1 : ME X cf EX a fa) (h2 : ME X cf EX b fb) : ME X cf EX (.BinOp a .FloorDiv b pos) (fBin gDiv fa fb) := by
  refine me_bin op_fdivW (o_int fun w u S => ?_) (gp_int fun w u S k => ?_) h1 h2
  · unfold gDiv
    split
    · split
      · rename_i h
        exact .inl ⟨_, _, rfl, rfl, ⟨h.1, by have := Nat.le_of_ble_eq_true h.2; omega⟩, _, fun _ _ => .int _, rfl⟩
      · exact .inr rfl
    · exact .inr rfl
  · unfold gDiv at k
    split at k
    · exact ⟨_, _, rfl, rfl⟩
    · exact absurd rfl k
theorem me_pow (h1 : ME X cf EX a fa) (h2 : ME X cf EX b fb) : ME X cf EX (.BinOp a .Pow b pos) (fBin gPow fa fb) := by
  refine me_bin op_pow (o_int fun w u S => ?_) (gp_int fun w u S k => ?_) h1 h2
  · unfold gPow
    split
    · split
      · rename_i h
        exact .inl ⟨_, _, rfl, rfl, h, _, fun _ _ => .int _, rfl⟩
      · exact .inr rfl
    · exact .inr rfl
  · unfold gPow at k
    split at k
    · exact ⟨_, _, rfl, rfl⟩
    · exact absurd rfl k
/-- products: of ints, a list so often, a tuple so often -/
def gMul2 : G2
  | .d (.int i), .d (.int j), S => if sm i || sm j then .ok (.d (.int (i * j))) S else .stuck
  | .d (.list xs), .d (.int k), S => if (Nat.ble k.natAbs 9223372036854775807 && Nat.ble (xs.length * k.toNat) LIM) = true then .ok (.d (.list (List.replicate k.toNat xs).flatten)) S else .stuck
  | .d (.tuple xs), .d (.int k), S => if xs ≠ [] ∧ 2 ≤ k ∧ k ≤ 1000 ∧ xs.length ≤ 1000 then .ok (.d (.tuple (List.replicate k.toNat xs).flatten)) S else .stuck
  | _, _, _ => .stuck
theorem DnAll.rep {vs : List V} {xs : List D} (t : DnAll K H N vs xs) : ∀ n : Nat, DnAll K H N (List.replicate n vs).flatten (List.replicate n xs).flatten
  | 0 => by simpa using DnAll.nil
  | n + 1 => by
    rw [List.replicate_succ, List.replicate_succ, List.flatten_cons, List.flatten_cons]
    exact t.append (DnAll.rep t n)
theorem o_mul : Op X EX (fun x y H Q => (rI CMul fun i j => .int (i * j)) x y H Q ∨ rRep x y H Q ∨ rRepT X.K x y H Q) gMul2 := by
  intro F σ env S H μ x y w u Q s rx pw ry pu q
  unfold gMul2 at q
  split at q
  · rw [rw_int rx, rw_int ry]
    split at q
    · rename_i h
      exact .inl ⟨_, _, rfl, rfl, sm_ok h, post_here s (.d (.int _)) q⟩
    · exact q.elim
  · obtain ⟨a, vs, rfl, na, ha, ta⟩ := rw_lst rx
    rw [rw_int ry]
    split at q
    · rename_i h
      rw [Bool.and_eq_true] at h
      have h1 := Nat.le_of_ble_eq_true h.1
      have h2 := Nat.le_of_ble_eq_true h.2
      exact .inr (.inl ⟨a, _, vs, rfl, rfl, ha, by omega, by omega, by rw [← lim_line, ta.length]; exact h2, fun p n => post_lst s (ta.rep _) q n⟩)
    · exact q.elim
  · obtain ⟨a, vs, rfl, ha, ta⟩ := rw_tup rx
    rw [rw_int ry]
    split at q
    · rename_i h
      refine .inr (.inr ⟨a, _, vs, rfl, rfl, ha.sq, fun e => h.1 ?_, h.2.1, h.2.2.1, by rw [ta.length]; exact h.2.2.2, fun p n => post_tup (α := Unit) s (ta.rep _) q n⟩)
      subst e
      cases ta
      rfl
    · exact q.elim
  · exact q.elim
theorem gp_mul : ∀ w u S, w.plain = false ∨ u.plain = false → gMul2 w u S = .stuck := g_plain _ fun w u S k => by
  unfold gMul2 at k
  split at k <;> first | exact ⟨rfl, rfl⟩ | exact absurd rfl k
theorem me_mul (h1 : ME X cf EX a fa) (h2 : ME X cf EX b fb) : ME X cf EX (.BinOp a .Mult b pos) (fBin gMul2 fa fb) :=
  me_bin (OpR.or op_mul (OpR.or op_rep op_repT)) o_mul gp_mul h1 h2
/-- order -/
theorem o_cmp {p : Int → Int → Bool} : Op X EX (rI0 fun i j => .bl (p i j)) (gCmp p) := o_int0 fun w u S => by
  unfold gCmp
  split
  · exact .inl ⟨_, _, rfl, rfl, _, fun _ _ => .bl _, rfl⟩
  · exact .inr rfl
theorem gp_cmp {p : Int → Int → Bool} : ∀ w u S, w.plain = false ∨ u.plain = false → gCmp p w u S = .stuck := gp_int fun w u S k => by
  unfold gCmp at k
  split at k
  · exact ⟨_, _, rfl, rfl⟩
  · exact absurd rfl k
/-- == of data -/
theorem noDict_of {d : D} (h : d.canLay0 = true) : d.hasDict = false := PyData.hasDict_of_canLay d h
theorem dn_dp {x : V} {d : D} (h : Dn K H N x d) (e : okEq d = true) : Dp K H x d ∧ SeqAt.shaped d = true := by
  have e' : (d.canLay0 && decide (d.depth ≤ 64)) = true := e
  refine ⟨Dn.dp h (fun kvs q => ?_) (noDict_of (by rw [Bool.and_eq_true] at e'; exact e'.1)), e'⟩
  subst q
  simp [PyData.canLay0] at e'
theorem o_eq : Op X EX (fun x y H Q => rEqD X.K x y H Q ∨ rEq x y H Q) gEq := by
  intro F σ env S H μ x y w u Q s rx pw ry pu q
  unfold gEq at q
  split at q
  · rename_i a b S
    cases rx with
    | d hx =>
      cases ry with
      | d hy =>
        cases hx
        cases hy
        refine .inr ⟨rfl, post_here (EX := EX) s (.d (.bl _)) ?_⟩
        simpa [V.str.injEq] using q
  · split at q
    · rename_i h
      rw [Bool.and_eq_true] at h
      cases rx with
      | d hx =>
        cases ry with
        | d hy =>
          obtain ⟨p1, s1⟩ := dn_dp hx h.1
          obtain ⟨p2, s2⟩ := dn_dp hy h.2
          exact .inl ⟨_, _, p1, p2, s1, s2, post_here s (.d (.bl _)) q⟩
    · exact q.elim
  · exact q.elim
theorem o_ne : Op X EX (fun x y H Q => rNeD X.K x y H Q ∨ rNe x y H Q) gNe := by
  intro F σ env S H μ x y w u Q s rx pw ry pu q
  unfold gNe at q
  split at q
  · rename_i a b S
    cases rx with
    | d hx =>
      cases ry with
      | d hy =>
        cases hx
        cases hy
        refine .inr ⟨rfl, post_here (EX := EX) s (.d (.bl _)) ?_⟩
        simpa [V.str.injEq] using q
  · split at q
    · rename_i h
      rw [Bool.and_eq_true] at h
      cases rx with
      | d hx =>
        cases ry with
        | d hy =>
          obtain ⟨p1, s1⟩ := dn_dp hx h.1
          obtain ⟨p2, s2⟩ := dn_dp hy h.2
          exact .inl ⟨_, _, p1, p2, s1, s2, post_here s (.d (.bl _)) q⟩
    · exact q.elim
  · exact q.elim
theorem gp_eq : ∀ w u S, w.plain = false ∨ u.plain = false → gEq w u S = .stuck := g_plain _ fun w u S k => by
  unfold gEq at k
  split at k <;> first | exact ⟨rfl, rfl⟩ | exact absurd rfl k
theorem gp_ne : ∀ w u S, w.plain = false ∨ u.plain = false → gNe w u S = .stuck := g_plain _ fun w u S k => by
  unfold gNe at k
  split at k <;> first | exact ⟨rfl, rfl⟩ | exact absurd rfl k
theorem op_eqU {k : Nat} (hr : Room k X.A) : OpR X (compareOp .Eq) (fun x y H Q => rEqD X.K x y H Q ∨ rEq x y H Q) := fun pins s σ H x y v u Q I rx ry h => h.elim (op_eqD hr.units pins s σ H x y v u Q I rx ry) (op_eq pins s σ H x y v u Q I rx ry)
theorem op_neU {k : Nat} (hr : Room k X.A) : OpR X (compareOp .NotEq) (fun x y H Q => rNeD X.K x y H Q ∨ rNe x y H Q) := fun pins s σ H x y v u Q I rx ry h => h.elim (op_neD hr.units pins s σ H x y v u Q I rx ry) (op_ne pins s σ H x y v u Q I rx ry)
end
end
end Q

namespace Q
open PySem PySem.Spec PyProof.Rows L2
section
variable {X : Cx} {cf : CF} {EX : WX} {F : Addr → Prop} {e a b c : Expr} {es : List Expr} {fa fb fc : SE} {ga gb gc : ST} {ha hb : SA} {pos p : Pos} {x : Str}

theorem mt_val (h : ME X cf EX e fa) (he : ∀ whole, isTrue e X.env whole = (do let v ← whole; standAt e.pos; holding [v] (truthy v)) := by intro _; rfl) : MT X cf EX e (cVal fa) :=
  PT.weak (pt_val h he) fun σ H Q ⟨env, S, μ, F, s, q⟩ => ⟨env, S, μ, F, s, (Post.bind q).mono fun w S1 H1 μ1 s1 x1 q1 v rv => by
    split at q1
    · exact ⟨_, rw_bl rv, q1 H1 μ1 s1 (Ext.refl _ _ _ _)⟩
    · exact q1.elim⟩
/-- a comparison as a test -/
theorem mt_cmp {op : CmpOp} {r : R2} {g : G2} (ho : OpR X (compareOp op) r) (o : Op X EX r g) (hp : ∀ w u S, w.plain = false ∨ u.plain = false → g w u S = .stuck) (h1 : ME X cf EX a fa) (h2 : ME X cf EX b fb) (hm : behindInMarks op b = false) : MT X cf EX (.Compare a [op] [b] pos) (cVal (fBin g fa fb)) :=
  PT.weak (pt_cmpR ho h1 h2 hm) fun σ H Q ⟨env, S, μ, F, s, q⟩ => tE_bin o hp σ H _ ⟨env, S, μ, F, s, (Post.bind q).mono fun w S1 H1 μ1 s1 x1 q1 v rv => by
    split at q1
    · exact ⟨_, rw_bl rv, q1 H1 μ1 s1 (Ext.refl _ _ _ _)⟩
    · exact q1.elim⟩
/-- comparisons, by one fact each -/
structure Cm (X : Cx) (EX : WX) (op : CmpOp) (g : G2) : Prop where
  ex : ∃ r, OpR X (compareOp op) r ∧ Op X EX r g
  pl : ∀ w u S, w.plain = false ∨ u.plain = false → g w u S = .stuck
theorem cm_lt : Cm X EX .Lt gLt := ⟨⟨_, op_lt, o_cmp⟩, gp_cmp⟩
theorem cm_le : Cm X EX .LtE gLe := ⟨⟨_, op_le, o_cmp⟩, gp_cmp⟩
theorem cm_gt : Cm X EX .Gt gGt := ⟨⟨_, op_gt, o_cmp⟩, gp_cmp⟩
theorem cm_eq {k : Nat} (hr : Room k X.A) : Cm X EX .Eq gEq := ⟨⟨_, op_eqU hr, o_eq⟩, gp_eq⟩
theorem cm_ne {k : Nat} (hr : Room k X.A) : Cm X EX .NotEq gNe := ⟨⟨_, op_neU hr, o_ne⟩, gp_ne⟩
theorem me_c {op : CmpOp} {g : G2} (h : Cm X EX op g) (h1 : ME X cf EX a fa) (h2 : ME X cf EX b fb) (hm : behindInMarks op b = false) : ME X cf EX (.Compare a [op] [b] pos) (fBin g fa fb) :=
  let ⟨_, ho, o⟩ := h.ex; me_cmp ho o h.pl h1 h2 hm
theorem mt_c {op : CmpOp} {g : G2} (h : Cm X EX op g) (h1 : ME X cf EX a fa) (h2 : ME X cf EX b fb) (hm : behindInMarks op b = false) : MT X cf EX (.Compare a [op] [b] pos) (cVal (fBin g fa fb)) :=
  let ⟨_, ho, o⟩ := h.ex; mt_cmp ho o h.pl h1 h2 hm
/-- a < b < c -/
def fChain (g g' : G2) (a b c : SE) : SE := fun cf env S => (a cf env S).bind fun x S1 => (b cf env S1).bind fun y S2 => (g x y S2).bind fun z S3 => match z with
  | .d (.bool k) => if k = true then (c cf env S3).bind fun w S4 => g' y w S4 else .ok (.d (.bool false)) S3
  | _ => .stuck
theorem tE_chain {r r' : R2} {g g' : G2} (o : Op X EX r g) (o' : Op X EX r' g') (hp : ∀ w u S, w.plain = false ∨ u.plain = false → g w u S = .stuck) (hp' : ∀ w u S, w.plain = false ∨ u.plain = false → g' w u S = .stuck)
    (σ : L2.St) (H : Hp) (Q : VK) (q : tE X.K X.mg cf EX (fChain g g' fa fb fc) σ H Q) : tChain r r' (tE X.K X.mg cf EX fa) (tE X.K X.mg cf EX fb) (tE X.K X.mg cf EX fc) σ H Q := by
  obtain ⟨env, S, μ, F, s, q⟩ := q
  refine ⟨env, S, μ, F, s, (Post.bind q).mono fun w S1 H1 μ1 s1 x1 q1 v rv => ?_⟩
  refine ⟨env, S1, μ1, F, s1, (Post.bind q1).mono fun u S2 H2 μ2 s2 x2 q2 v2 rv2 => ?_⟩
  have pl : w.plain = true ∧ u.plain = true := by
    by_cases pw : w.plain = true
    · by_cases pu : u.plain = true
      · exact ⟨pw, pu⟩
      · rw [hp w u S2 (.inr (by simpa using pu))] at q2
        exact q2.elim
    · rw [hp w u S2 (.inl (by simpa using pw))] at q2
      exact q2.elim
  refine o F σ env S2 H2 μ2 v v2 w u _ s2 (RW.keep (x2.nn F) x2.pre rv pl.1) pl.1 rv2 pl.2 ((Post.bind q2).mono fun z S3 H3 μ3 s3 x3 q3 v3 rv3 => ?_)
  split at q3
  · rename_i k
    refine ⟨k, rw_bl rv3, ?_⟩
    cases k with
    | false =>
      rw [if_neg Bool.false_ne_true] at q3 ⊢
      exact post_here s3 (.d (.bl false)) q3
    | true =>
      rw [if_pos rfl] at q3 ⊢
      refine ⟨env, S3, μ3, F, s3, (Post.bind q3).mono fun t S4 H4 μ4 s4 x4 q4 v4 rv4 => ?_⟩
      by_cases pt : t.plain = true
      · exact o' F σ env S4 H4 μ4 v2 v4 u t Q s4 (RW.keep ((x3.nn F).trans (x4.nn F)) (List.IsPrefix.trans x3.pre x4.pre) rv2 pl.2) pl.2 rv4 pt q4
      · rw [hp' u t S4 (.inr (by simpa using pt))] at q4
        exact q4.elim
  · exact q3.elim
theorem me_chain {op op' : CmpOp} {g g' : G2} (h : Cm X EX op g) (h' : Cm X EX op' g') (h1 : ME X cf EX a fa) (h2 : ME X cf EX b fb) (h3 : ME X cf EX c fc) (hm : lastMarks [op, op'] [b, c] = false := by rfl) :
    ME X cf EX (.Compare a [op, op'] [b, c] pos) (fChain g g' fa fb fc) := by
  obtain ⟨_, ho, o⟩ := h.ex
  obtain ⟨_, ho', o'⟩ := h'.ex
  exact PE.weak (pe_chain ho ho' h1 h2 h3 hm) (tE_chain o o' h.pl h'.pl)
theorem mt_not (h : MT X cf EX a ga) : MT X cf EX (.UnaryOp .Not a pos) (cNot ga) :=
  PT.weak (pt_not h) fun σ H Q ⟨env, S, μ, F, s, q⟩ => ⟨env, S, μ, F, s, (Post.bind q).mono fun w S1 H1 μ1 s1 x1 q1 => q1 H1 μ1 s1 (Ext.refl _ _ _ _)⟩
theorem mw_and1 (h : MT X cf EX a ga) : MW X cf EX (.BoolOp .And [a] pos) ga := pw_and1 h
theorem mw_or1 (h : MT X cf EX a ga) : MW X cf EX (.BoolOp .Or [a] pos) ga := pw_or1 h
theorem mw_and {rest : List Expr} (h1 : MT X cf EX a ga) (h2 : MW X cf EX (.BoolOp .And (b :: rest) pos) gb) : MW X cf EX (.BoolOp .And (a :: b :: rest) pos) (cAnd ga gb) :=
  PW.weak (pw_and h1 h2) fun σ H Q ⟨env, S, μ, F, s, q⟩ => ⟨env, S, μ, F, s, (Post.bind q).mono fun w S1 H1 μ1 s1 x1 q1 => by
    cases w with
    | true => rw [if_pos rfl] at q1 ⊢; exact ⟨env, S1, μ1, F, s1, q1⟩
    | false => rw [if_neg Bool.false_ne_true] at q1 ⊢; exact q1 H1 μ1 s1 (Ext.refl _ _ _ _)⟩
theorem mw_or {rest : List Expr} (h1 : MT X cf EX a ga) (h2 : MW X cf EX (.BoolOp .Or (b :: rest) pos) gb) : MW X cf EX (.BoolOp .Or (a :: b :: rest) pos) (cOr ga gb) :=
  PW.weak (pw_or h1 h2) fun σ H Q ⟨env, S, μ, F, s, q⟩ => ⟨env, S, μ, F, s, (Post.bind q).mono fun w S1 H1 μ1 s1 x1 q1 => by
    cases w with
    | false => rw [if_neg Bool.false_ne_true] at q1 ⊢; exact ⟨env, S1, μ1, F, s1, q1⟩
    | true => rw [if_pos rfl] at q1 ⊢; exact q1 H1 μ1 s1 (Ext.refl _ _ _ _)⟩
theorem mt_w (h : MW X cf EX a ga) : MT X cf EX a ga := PW.pt h
theorem me_one {op} (h : ME X cf EX a fa) : ME X cf EX (.BoolOp op [a] pos) fa := pe_one h
theorem me_and {rest : List Expr} (h1 : ME X cf EX a fa) (h2 : ME X cf EX (.BoolOp .And (b :: rest) pos) fb) : ME X cf EX (.BoolOp .And (a :: b :: rest) pos) (fAnd fa fb) :=
  PE.weak (pe_and h1 h2) fun σ H Q ⟨env, S, μ, F, s, q⟩ => ⟨env, S, μ, F, s, (Post.bind q).mono fun w S1 H1 μ1 s1 x1 q1 v rv => by
    split at q1
    · rename_i k
      refine ⟨k, rw_bl rv, ?_⟩
      cases k with
      | true => rw [if_pos rfl] at q1 ⊢; exact ⟨env, S1, μ1, F, s1, q1⟩
      | false => rw [if_neg Bool.false_ne_true] at q1 ⊢; exact post_here s1 (.d (.bl false)) q1
    · exact q1.elim⟩
theorem me_not (h : ME X cf EX a fa) : ME X cf EX (.UnaryOp .Not a pos) (fNot fa) :=
  PE.weak (pe_not h) fun σ H Q ⟨env, S, μ, F, s, q⟩ => ⟨env, S, μ, F, s, (Post.bind q).mono fun w S1 H1 μ1 s1 x1 q1 v rv => by
    split at q1
    · exact ⟨_, rw_bl rv, post_here s1 (.d (.bl _)) q1⟩
    · exact q1.elim⟩
theorem me_neg (h : ME X cf EX a fa) : ME X cf EX (.UnaryOp .USub a pos) (fNeg fa) :=
  PE.weak (pe_un un_neg h) fun σ H Q ⟨env, S, μ, F, s, q⟩ => ⟨env, S, μ, F, s, (Post.bind q).mono fun w S1 H1 μ1 s1 x1 q1 v rv => by
    split at q1
    · exact ⟨_, rw_int rv, post_here s1 (.d (.int _)) q1⟩
    · exact q1.elim⟩

theorem ma_nil : MA X cf EX [] aNil := PA.weak pa_nil fun σ H Q ⟨env, S, μ, F, s, q⟩ => q H μ s (Ext.refl _ _ _ _) [] .nil
theorem ma_cons (h1 : ME X cf EX e fa) (h2 : MA X cf EX es ha) (hs : starEach (e :: es) X.env = (false, eval e X.env) :: starEach es X.env := by rfl) : MA X cf EX (e :: es) (aCons fa ha) :=
  PA.weak (pa_cons h1 h2 hs) fun σ H Q ⟨env, S, μ, F, s, q⟩ => ⟨env, S, μ, F, s, (Post.bind q).mono fun w S1 H1 μ1 s1 x1 q1 v rv => ⟨env, S1, μ1, F, s1, (Post.bind q1).mono fun ws S2 H2 μ2 s2 x2 q2 vs rvs => by
    split at q2
    · rename_i pw
      exact q2 H2 μ2 s2 (Ext.refl _ _ _ _) _ (.cons (RW.keep (x2.nn F) x2.pre rv pw) rvs)
    · exact q2.elim⟩⟩
theorem datas_dn {K : PySem.W.Frag} {mg : Str → Option Value} {H : Hp} {N : Addr → Prop} {μ : List Addr} : ∀ {vs : List V} {ws : List W} {ds : List D}, RWs K mg H N μ vs ws → datas ws = some ds → DnAll K H N vs ds
  | _, _, _, .nil, e => by
    simp only [datas, Option.some.injEq] at e
    subst e
    exact .nil
  | _, _, _, .cons (ws := ws) (.d h) t, e => by
    cases q : datas ws with
    | none => simp [datas, q] at e
    | some r =>
      simp only [datas, q, Option.map_some, Option.some.injEq] at e
      subst e
      exact .cons h (datas_dn t q)
  | _, _, _, .cons (.ref _) _, e => by simp [datas] at e
  | _, _, _, .cons (.own _ _) _, e => by simp [datas] at e
  | _, _, _, .cons (.tw _ _ _) _, e => by simp [datas] at e
  | _, _, _, .cons (.fn _) _, e => by simp [datas] at e
  | _, _, _, .cons (.scr _) _, e => by simp [datas] at e
theorem me_tup {k} (h : MA X cf EX es ha) : ME X cf EX (.Tuple es k pos) (fTup ha) :=
  PE.weak (pe_tup h) fun σ H Q ⟨env, S, μ, F, s, q⟩ => ⟨env, S, μ, F, s, (Post.bind q).mono fun ws S1 H1 μ1 s1 x1 q1 vs rvs => by
    split at q1
    · rename_i hl
      refine ⟨by rw [← lim_line, rvs.length]; exact hl, fun p n => ?_⟩
      split at q1
      · rename_i ds e
        exact post_tup (α := Unit) s1 (datas_dn rvs e) q1 n
      · exact q1 _ μ1 (s1.new n) (ext_new n) _ (.tw (s1.fresh n) upd_same (RWs.same (Same.upd_new n) rvs))
    · exact q1.elim⟩
theorem me_lst (h : MA X cf EX es ha) : ME X cf EX (.List es pos) (fLst ha) :=
  PE.weak (pe_lst h) fun σ H Q ⟨env, S, μ, F, s, q⟩ => ⟨env, S, μ, F, s, (Post.bind q).mono fun ws S1 H1 μ1 s1 x1 q1 vs rvs => by
    split at q1
    · rename_i hl
      refine ⟨by rw [← lim_line, rvs.length]; exact hl, fun p n => ?_⟩
      split at q1
      · rename_i ds e
        exact post_lst s1 (datas_dn rvs e) q1 n
      · exact q1.elim
    · exact q1.elim⟩

abbrev GN := List W → Sto → R W
def CallOp (X : Cx) (EX : WX) (r : List V → Hp → VK → Prop) (g : GN) : Prop := ∀ (F : Addr → Prop) (σ : L2.St) (env : EnvQ) (S : Sto) (H : Hp) (μ : List Addr) (vs : List V) (ws : List W) (Q : VK), Sim X.K X.mg F σ H env S μ → RWs X.K X.mg H (NN F μ σ env) μ vs ws →
  Post X.K X.mg EX F σ env H μ (g ws S) (fun w _ H' μ' => ∀ v, RW X.K X.mg H' (NN F μ' σ env) μ' v w → Q v H') → r vs H Q
def fB (g : GN) (a : SA) : SE := fun cf env S => (a cf env S).bind fun ws S1 => g ws S1
theorem me_callB {id : String} {r : List V → Hp → VK → Prop} {g : GN} (hc : CallR X (.builtin id) r) (o : CallOp X EX r g) (hg : Gl X x) (hm : X.mg x = none) (hv : bootBuiltins x = some (.builtin id)) (h : MA X cf EX (e :: es) ha) (hn : x ≠ "__name__" := by decide) (hdb : (x == ("__debug__" : Str)) = false := by decide)
    (he : starEach (e :: es) X.env = (false, eval e X.env) :: starEach es X.env := by rfl) (hpl : (backTo pos (starEach es X.env)).any (·.1) = false := by rfl) : ME X cf EX (.Call (.Name x p) (e :: es) [] pos) (fB g ha) :=
  PE.weak (pe_callB hc hg hm hv h hn hdb he hpl) fun σ H Q ⟨env, S, μ, F, s, q⟩ => ⟨env, S, μ, F, s, (Post.bind q).mono fun ws S1 H1 μ1 s1 x1 q1 vs rvs => o F σ env S1 H1 μ1 vs ws Q s1 rvs q1⟩
theorem me_callTy {T : String} {r : List V → Hp → VK → Prop} {g : GN} (hc : CallR X (.type T) r) (o : CallOp X EX r g) (hg : Gl X x) (hm : X.mg x = none) (hv : bootBuiltins x = some (.type T)) (h : MA X cf EX (e :: es) ha) (hn : x ≠ "__name__" := by decide) (hdb : (x == ("__debug__" : Str)) = false := by decide)
    (he : starEach (e :: es) X.env = (false, eval e X.env) :: starEach es X.env := by rfl) (hpl : (backTo pos (starEach es X.env)).any (·.1) = false := by rfl) : ME X cf EX (.Call (.Name x p) (e :: es) [] pos) (fB g ha) :=
  PE.weak (pe_callTy hc hg hm hv h hn hdb he hpl) fun σ H Q ⟨env, S, μ, F, s, q⟩ => ⟨env, S, μ, F, s, (Post.bind q).mono fun ws S1 H1 μ1 s1 x1 q1 vs rvs => o F σ env S1 H1 μ1 vs ws Q s1 rvs q1⟩
theorem rws1 {K : PySem.W.Frag} {mg : Str → Option Value} {H : Hp} {N : Addr → Prop} {μ : List Addr} {vs : List V} {w : W} (h : RWs K mg H N μ vs [w]) : ∃ v, vs = [v] ∧ RW K mg H N μ v w := by
  cases h with | cons h t => cases t; exact ⟨_, rfl, h⟩
theorem rws2 {K : PySem.W.Frag} {mg : Str → Option Value} {H : Hp} {N : Addr → Prop} {μ : List Addr} {vs : List V} {w u : W} (h : RWs K mg H N μ vs [w, u]) : ∃ v v', vs = [v, v'] ∧ RW K mg H N μ v w ∧ RW K mg H N μ v' u := by
  cases h with | cons h t => cases t with | cons h' t => cases t; exact ⟨_, _, rfl, h, h'⟩
/-- len -/
def gLen : GN
  | [.d (.tuple xs)], S => .ok (.d (.int xs.length)) S
  | [.d (.list xs)], S => .ok (.d (.int xs.length)) S
  | [.d (.str x)], S => if x.length ≤ LIM then .ok (.d (.int x.length)) S else .stuck
  | [.own xs], S => .ok (.d (.int xs.length)) S
  | [.scr xs], S => .ok (.d (.int xs.length)) S
  | _, _ => .stuck
theorem co_len : CallOp X EX (fun xs H Q => ∃ x n, xs = [x] ∧ LenV X.K x H n ∧ Q (.int n) H) gLen := by
  intro F σ env S H μ vs ws Q s rvs q
  unfold gLen at q
  split at q
  · obtain ⟨v, rfl, rv⟩ := rws1 rvs
    obtain ⟨a, us, rfl, ha, ta⟩ := rw_tup rv
    refine ⟨_, us.length, rfl, .inr ⟨_, ha.sq, rfl⟩, ?_⟩
    rw [ta.length]
    exact post_here s (.d (.int _)) q
  · obtain ⟨v, rfl, rv⟩ := rws1 rvs
    obtain ⟨a, us, rfl, na, ha, ta⟩ := rw_lst rv
    refine ⟨_, us.length, rfl, .inl ⟨_, SqL.of ha, rfl⟩, ?_⟩
    rw [ta.length]
    exact post_here s (.d (.int _)) q
  · obtain ⟨v, rfl, rv⟩ := rws1 rvs
    rw [rw_str rv]
    split at q
    · exact ⟨_, _, rfl, ⟨by rw [← lim_line]; assumption, rfl⟩, post_here s (.d (.int _)) q⟩
    · exact q.elim
  · obtain ⟨v, rfl, rv⟩ := rws1 rvs
    cases rv with
    | @own _ us _ ha ta =>
      refine ⟨_, us.length, rfl, .inl ⟨_, SqL.of ha, rfl⟩, ?_⟩
      rw [ta.length]
      exact post_here s (.d (.int _)) q
  · obtain ⟨v, rfl, rv⟩ := rws1 rvs
    cases rv with
    | scr ha =>
      refine ⟨_, _, rfl, .inl ⟨_, ha.sq, rfl⟩, ?_⟩
      rw [List.length_map]
      exact post_here s (.d (.int _)) q
  · exact q.elim
theorem me_len (hg : Gl X "len") (hm : X.mg "len" = none) (h : MA X cf EX [e] ha) (he : starEach [e] X.env = (false, eval e X.env) :: starEach [] X.env := by rfl) (hpl : (backTo pos (starEach [] X.env)).any (·.1) = false := by rfl) :
    ME X cf EX (.Call (.Name "len" p) [e] [] pos) (fB gLen ha) := me_callB call_len co_len hg hm boot_len h (he := he) (hpl := hpl)
/-- tuple(x), list(x) -/
def gTuple : GN
  | [.d (.tuple xs)], S => .ok (.d (.tuple xs)) S
  | [.d (.list xs)], S => .ok (.d (.tuple xs)) S
  | [.own xs], S => .ok (.d (.tuple xs)) S
  | _, _ => .stuck
def gList : GN
  | [.d (.tuple xs)], S => .ok (.d (.list xs)) S
  | [.d (.list xs)], S => .ok (.d (.list xs)) S
  | [.own xs], S => .ok (.d (.list xs)) S
  | _, _ => .stuck
theorem co_tuple : CallOp X EX (fun xs H Q => ∃ p ys, xs = [.ref p] ∧ ((SqL X.K H p ys ∧ ∀ l, H l = none → Q (.ref l) (upd H l (.tup ys))) ∨ (SqT X.K H p ys ∧ Q (.ref p) H))) gTuple := by
  intro F σ env S H μ vs ws Q s rvs q
  unfold gTuple at q
  split at q
  · obtain ⟨v, rfl, rv⟩ := rws1 rvs
    obtain ⟨a, us, rfl, ha, ta⟩ := rw_tup rv
    exact ⟨a, us, rfl, .inr ⟨ha.sq, post_here s rv q⟩⟩
  · obtain ⟨v, rfl, rv⟩ := rws1 rvs
    obtain ⟨a, us, rfl, na, ha, ta⟩ := rw_lst rv
    exact ⟨a, us, rfl, .inl ⟨SqL.of ha, fun l n => post_tup (α := Unit) s ta q n⟩⟩
  · obtain ⟨v, rfl, rv⟩ := rws1 rvs
    cases rv with
    | own ha ta => exact ⟨_, _, rfl, .inl ⟨SqL.of ha, fun l n => post_tup (α := Unit) s ta q n⟩⟩
  · exact q.elim
theorem co_list : CallOp X EX (fun xs H Q => ∃ p ys, xs = [.ref p] ∧ (SqL X.K H p ys ∨ SqT X.K H p ys) ∧ ∀ l, H l = none → Q (.ref l) (upd H l (.lst ys))) gList := by
  intro F σ env S H μ vs ws Q s rvs q
  unfold gList at q
  split at q
  · obtain ⟨v, rfl, rv⟩ := rws1 rvs
    obtain ⟨a, us, rfl, ha, ta⟩ := rw_tup rv
    exact ⟨a, us, rfl, .inr ha.sq, fun l n => post_lst s ta q n⟩
  · obtain ⟨v, rfl, rv⟩ := rws1 rvs
    obtain ⟨a, us, rfl, na, ha, ta⟩ := rw_lst rv
    exact ⟨a, us, rfl, .inl (SqL.of ha), fun l n => post_lst s ta q n⟩
  · obtain ⟨v, rfl, rv⟩ := rws1 rvs
    cases rv with
    | own ha ta => exact ⟨_, _, rfl, .inl (SqL.of ha), fun l n => post_lst s ta q n⟩
  · exact q.elim
theorem me_tuple (hg : Gl X "tuple") (hm : X.mg "tuple" = none) (h : MA X cf EX [e] ha) (he : starEach [e] X.env = (false, eval e X.env) :: starEach [] X.env := by rfl) (hpl : (backTo pos (starEach [] X.env)).any (·.1) = false := by rfl) :
    ME X cf EX (.Call (.Name "tuple" p) [e] [] pos) (fB gTuple ha) := me_callTy call_tuple_of co_tuple hg hm (by decide +kernel) h (he := he) (hpl := hpl)
theorem me_list (hg : Gl X "list") (hm : X.mg "list" = none) (h : MA X cf EX [e] ha) (he : starEach [e] X.env = (false, eval e X.env) :: starEach [] X.env := by rfl) (hpl : (backTo pos (starEach [] X.env)).any (·.1) = false := by rfl) :
    ME X cf EX (.Call (.Name "list" p) [e] [] pos) (fB gList ha) := me_callTy call_list_of co_list hg hm (by decide +kernel) h (he := he) (hpl := hpl)
/-- a list of truths, of whole numbers -/
def bools : List D → Option (List Bool)
  | [] => some []
  | .bool b :: ds => (bools ds).map (b :: ·)
  | _ => none
def intsOf : List D → Option (List Int)
  | [] => some []
  | .int b :: ds => (intsOf ds).map (b :: ·)
  | _ => none
theorem bools_dn {K : PySem.W.Frag} {H : Hp} {N : Addr → Prop} : ∀ {vs : List V} {ds : List D} {bs : List Bool}, DnAll K H N vs ds → bools ds = some bs → vs = bs.map V.bl
  | _, _, _, .nil, e => by
    simp only [bools, Option.some.injEq] at e
    subst e
    rfl
  | _, _, _, .cons (ds := ds) (.bl b) t, e => by
    cases q : bools ds with
    | none => simp [bools, q] at e
    | some r =>
      simp only [bools, q, Option.map_some, Option.some.injEq] at e
      subst e
      rw [List.map_cons, ← bools_dn t q]
  | _, _, _, .cons .non _, e => by simp [bools] at e
  | _, _, _, .cons (.int _) _, e => by simp [bools] at e
  | _, _, _, .cons (.str _) _, e => by simp [bools] at e
  | _, _, _, .cons (.lst _ _) _, e => by simp [bools] at e
  | _, _, _, .cons (.tup _ _) _, e => by simp [bools] at e
  | _, _, _, .cons (.dic _ _ _) _, e => by simp [bools] at e
theorem ints_all {K : PySem.W.Frag} {H : Hp} {N : Addr → Prop} : ∀ (is : List Int), DnAll K H N (is.map V.int) (is.map PyData.int)
  | [] => .nil
  | i :: is => .cons (.int i) (ints_all is)
def gAll : GN
  | [.d (.list xs)], S => match bools xs with | some bs => .ok (.d (.bool (bs.all id))) S | none => .stuck
  | _, _ => .stuck
def gAny : GN
  | [.d (.list xs)], S => match bools xs with | some bs => .ok (.d (.bool (bs.any id))) S | none => .stuck
  | _, _ => .stuck
theorem co_all : CallOp X EX (rAll X.K) gAll := by
  intro F σ env S H μ vs ws Q s rvs q
  unfold gAll at q
  split at q
  · obtain ⟨v, rfl, rv⟩ := rws1 rvs
    obtain ⟨a, us, rfl, na, ha, ta⟩ := rw_lst rv
    split at q
    · rename_i bs e
      have h := bools_dn ta e
      subst h
      exact ⟨a, bs, rfl, SqL.of ha, post_here s (.d (.bl _)) q⟩
    · exact q.elim
  · exact q.elim
theorem me_all (hc : X.calm = true) (hg : Gl X "all") (hm : X.mg "all" = none) (h : MA X cf EX [e] ha) (he : starEach [e] X.env = (false, eval e X.env) :: starEach [] X.env := by rfl) (hpl : (backTo pos (starEach [] X.env)).any (·.1) = false := by rfl) :
    ME X cf EX (.Call (.Name "all" p) [e] [] pos) (fB gAll ha) := me_callB (cr_all hc) co_all hg hm (by decide +kernel) h (he := he) (hpl := hpl)
/-- max, min of two numbers; abs; int of a truth or a number -/
def gMax2 : GN
  | [.d (.int i), .d (.int j)], S => .ok (.d (.int (if j > i then j else i))) S
  | _, _ => .stuck
def gMin2 : GN
  | [.d (.int i), .d (.int j)], S => .ok (.d (.int (if j < i then j else i))) S
  | _, _ => .stuck
def gInt : GN
  | [.d (.int i)], S => .ok (.d (.int i)) S
  | [.d (.bool k)], S => .ok (.d (.int (if k then 1 else 0))) S
  | _, _ => .stuck
theorem co_max2 : CallOp X EX (fun xs H Q => ∃ i j, xs = [.int i, .int j] ∧ Q (.int (if j > i then j else i)) H) gMax2 := by
  intro F σ env S H μ vs ws Q s rvs q
  unfold gMax2 at q
  split at q
  · obtain ⟨v, v', rfl, r1, r2⟩ := rws2 rvs
    rw [rw_int r1, rw_int r2]
    exact ⟨_, _, rfl, post_here s (.d (.int _)) q⟩
  · exact q.elim
theorem co_min2 : CallOp X EX (fun xs H Q => ∃ i j, xs = [.int i, .int j] ∧ Q (.int (if j < i then j else i)) H) gMin2 := by
  intro F σ env S H μ vs ws Q s rvs q
  unfold gMin2 at q
  split at q
  · obtain ⟨v, v', rfl, r1, r2⟩ := rws2 rvs
    rw [rw_int r1, rw_int r2]
    exact ⟨_, _, rfl, post_here s (.d (.int _)) q⟩
  · exact q.elim
theorem co_int : CallOp X EX (fun xs H Q => (∃ i, xs = [.int i] ∧ Q (.int i) H) ∨ ∃ k, xs = [.bl k] ∧ Q (.int (if k then 1 else 0)) H) gInt := by
  intro F σ env S H μ vs ws Q s rvs q
  unfold gInt at q
  split at q
  · obtain ⟨v, rfl, r1⟩ := rws1 rvs
    rw [rw_int r1]
    exact .inl ⟨_, rfl, post_here s (.d (.int _)) q⟩
  · obtain ⟨v, rfl, r1⟩ := rws1 rvs
    rw [rw_bl r1]
    exact .inr ⟨_, rfl, post_here s (.d (.int _)) q⟩
  · exact q.elim
theorem me_max2 (hc : X.calm = true) (hg : Gl X "max") (hm : X.mg "max" = none) (h : MA X cf EX (e :: es) ha) (he : starEach (e :: es) X.env = (false, eval e X.env) :: starEach es X.env := by rfl) (hpl : (backTo pos (starEach es X.env)).any (·.1) = false := by rfl) :
    ME X cf EX (.Call (.Name "max" p) (e :: es) [] pos) (fB gMax2 ha) := me_callB (call_max2 hc) co_max2 hg hm (by decide +kernel) h (he := he) (hpl := hpl)
theorem me_min2 (hc : X.calm = true) (hg : Gl X "min") (hm : X.mg "min" = none) (h : MA X cf EX (e :: es) ha) (he : starEach (e :: es) X.env = (false, eval e X.env) :: starEach es X.env := by rfl) (hpl : (backTo pos (starEach es X.env)).any (·.1) = false := by rfl) :
    ME X cf EX (.Call (.Name "min" p) (e :: es) [] pos) (fB gMin2 ha) := me_callB (call_min2 hc) co_min2 hg hm (by decide +kernel) h (he := he) (hpl := hpl)
theorem me_intc (hg : Gl X "int") (hm : X.mg "int" = none) (h : MA X cf EX [e] ha) (he : starEach [e] X.env = (false, eval e X.env) :: starEach [] X.env := by rfl) (hpl : (backTo pos (starEach [] X.env)).any (·.1) = false := by rfl) :
    ME X cf EX (.Call (.Name "int" p) [e] [] pos) (fB gInt ha) := me_callTy call_int1 co_int hg hm (by decide +kernel) h (he := he) (hpl := hpl)
end
end Q

namespace Q
open PySem PySem.Spec PyProof.Rows L2

section
variable {K : PySem.W.Frag} {mg : Str → Option Value} {H : Hp} {N N' : Addr → Prop} {μ : List Addr}
theorem Keep.sub (h : ∀ a, N' a → N a) : Keep N H N' H := fun a _ n e => ⟨e, fun q => n (h a q)⟩
mutual
theorem RW.sub (h : ∀ a, N' a → N a) : ∀ {v : V} {w : W}, RW K mg H N μ v w → RW K mg H N' μ v w
  | _, _, .d t => .d (t.keep (Keep.sub h))
  | _, _, .ref t => .ref t
  | _, _, .own e t => .own e (t.keep (Keep.sub h))
  | _, _, .ownd e t => .ownd e (t.keep (Keep.sub h))
  | _, _, .dn n e t => .dn (fun q => n (h _ q)) e (t.keep (Keep.sub h))
  | _, _, .tw n e t => .tw (fun q => n (h _ q)) e (RWs.sub h t)
  | _, _, .fn t => .fn t
  | _, _, .scr t => .scr (t.keep (Keep.sub h))
  | _, _, .clo n e t => .clo (fun q => n (h _ q)) e (RWs.sub h t)
  | _, _, .err => .err
theorem RWs.sub (h : ∀ a, N' a → N a) : ∀ {vs : List V} {ws : List W}, RWs K mg H N μ vs ws → RWs K mg H N' μ vs ws
  | _, _, .nil => .nil
  | _, _, .cons t r => .cons (RW.sub h t) (RWs.sub h r)
end
theorem RO.sub (h : ∀ a, N' a → N a) {a : Addr} {o : O} (r : RO K mg H N μ a o) : RO K mg H N' μ a o := by
  cases r with
  | lst e t => exact .lst e (t.keep (Keep.sub h))
  | ins g e m t p => exact .ins g e m (RWs.sub h t) p
  | dct e t => exact .dct e fun x hx => (t x hx).keep (Keep.sub h)
  | dcm e t => exact .dcm e (t.keep (Keep.sub h))
  | tab e t => exact .tab e (t.keep (fun q => q) (Keep.sub h))
theorem SimS.sub {S : Sto} (h : ∀ a, N' a → N a) (s : SimS K mg H N S μ) : SimS K mg H N' S μ := ⟨s.len, s.nd, fun n o e => let ⟨a, ha, r⟩ := s.obj n o e; ⟨a, ha, r.sub h⟩⟩
end

structure ExR (H : Hp) (μ : List Addr) (H' : Hp) (μ' : List Addr) : Prop where
  keep : Keep (· ∈ μ) H (· ∈ μ') H'
  pre : μ <+: μ'
def PostR (K : PySem.W.Frag) (mg : Str → Option Value) (F : Addr → Prop) (H : Hp) (μ : List Addr) (r : R W) (Q : VK) (E : XK) : Prop :=
  match r with
  | .ok w S' => ∀ v H' μ', SimR K mg F H' S' μ' → ExR H μ H' μ' → RW K mg H' (NR F μ') μ' v w → Q v H'
  | .exc c S' => ∀ C H' μ', mg (Str.ofString c) = some (.ref C) → SimR K mg F H' S' μ' → ExR H μ H' μ' → E (.ref C) none H'
  | .stuck => False
def SpQ (K : PySem.W.Frag) (mg : Str → Option Value) (cf : CF) (x : String) (n : Nat) : Sp := fun vs H Q E => vs.length = n ∧ ∃ ws S μ F, SimR K mg F H S μ ∧ RWs K mg H (NR F μ) μ vs ws ∧ W.plains ws = true ∧ PostR K mg F H μ (cf x ws S) Q E
/-- a def of the text -/
structure FnQ (P : Program) (w : World) (K : PySem.W.Frag) (mg : Str → Option Value) (base : Heap) (cf : CF) (k : Nat) (x : String) (n : Nat) : Prop where
  ex : ∃ f fd ps, FnG P w K mg base (L2.CX P w) k f fd ps (SpQ K mg cf x n) ∧ mg (Str.ofString x) = some (.ref f) ∧ PySem.W.keepIn K (.ref f) = true ∧ Binds K fd ps [] ∧ ps.length = n
section
variable {X : Cx} {cf : CF} {EX : WX} {F : Addr → Prop} {σ : L2.St} {env : EnvQ} {S S' : Sto} {H H' : Hp} {μ μ' : List Addr} {K : PySem.W.Frag} {mg : Str → Option Value}
theorem OwnR.rw {N : Addr → Prop} {o : HO} {w : W} {a : Addr} (h : OwnR K H N o w) (e : H a = some o) : RW K mg H N μ (.ref a) w := by
  cases h with
  | lst t => exact .own e t
  | dct t => exact .ownd e t
theorem own_or_plain : ∀ {v : V} {w : W} {N : Addr → Prop}, RW K mg H N μ v w → w.isOwn = true → ∃ a o, v = .ref a ∧ H a = some o ∧ OwnR K H N o w
  | _, _, _, .own e t, _ => ⟨_, _, rfl, e, .lst t⟩
  | _, _, _, .ownd e t, _ => ⟨_, _, rfl, e, .dct t⟩
  | _, _, _, .d _, h => by simp [W.isOwn] at h
  | _, _, _, .ref _, h => by simp [W.isOwn] at h
  | _, _, _, .tw _ _ _, h => by simp [W.isOwn] at h
  | _, _, _, .fn _, h => by simp [W.isOwn] at h
  | _, _, _, .scr _, h => by simp [W.isOwn] at h
/-- to a callee: its F is what this def may change, and what its callers may -/
theorem Sim.toR (s : Sim K mg F σ H env S μ) : SimR K mg (fun a => (∃ i, OwnAt σ env i a) ∨ F a) H S μ where
  st := s.st.sub fun a h => h.elim (fun h => .inl (.inl h)) fun h => h.elim (fun h => .inl (.inr h)) .inr
  ftr := fun a h => h.elim (fun h => s.tracked (.inl (.inr h))) fun h => s.ftr a h
  fdis := fun a h m => h.elim (fun ⟨i, h⟩ => s.apart i a h m) fun h => s.fdis a h (.inl m)
theorem nr_sub : ∀ a, NR (fun a => (∃ i, OwnAt σ env i a) ∨ F a) μ a → NN F μ σ env a := fun a h => h.elim (fun h => .inl (.inl h)) fun h => h.elim (fun h => .inl (.inr h)) .inr
theorem nr_sup : ∀ a, NN F μ σ env a → NR (fun a => (∃ i, OwnAt σ env i a) ∨ F a) μ a := fun a h => h.elim (fun h => h.elim .inl fun h => .inr (.inl h)) fun h => .inr (.inr h)
/-- back from a callee -/
theorem Sim.back (s : Sim K mg F σ H env S μ) (r : SimR K mg (fun a => (∃ i, OwnAt σ env i a) ∨ F a) H' S' μ') (x : ExR H μ H' μ') : Sim K mg F σ H' env S' μ' ∧ Ext σ env H μ H' μ' := by
  have ow : ∀ i a, OwnAt σ env i a → a ∉ μ' := fun i a h => r.fdis a (.inl ⟨i, h⟩)
  have kp : Keep (MM μ σ env) H (MM μ' σ env) H' := fun a o n e => by
    obtain ⟨e', n'⟩ := x.keep a o (fun m => n (.inl m)) e
    exact ⟨e', fun h => h.elim n' fun h => n (.inr h)⟩
  have ex : Ext σ env H μ H' μ' := ⟨kp, x.pre⟩
  refine ⟨⟨s.len, fun i w e => ?_, s.fin, s.inj, ow, r.st.sub nr_sup, fun a f => r.ftr a (.inr f), fun a f h => h.elim (r.fdis a (.inr f)) fun h => s.fdis a f (.inr h)⟩, ex⟩
  obtain ⟨v, hv, rw'⟩ := s.slot i w e
  refine ⟨v, hv, ?_⟩
  have fi := s.fin i w e
  by_cases po : w.isOwn = true
  · obtain ⟨a, o, rfl, ha, ta⟩ := own_or_plain rw' po
    have o1 : OwnAt σ env i a := ⟨hv, _, e, po⟩
    exact (ta.keep (ex.nn F)).rw (x.keep a _ (s.apart i a o1) ha).1
  · have pl : w.plain = true := by
      unfold W.fine at fi
      simpa [po] using fi
    exact RW.keep (ex.nn F) x.pre rw' pl
end
section
variable {X : Cx} {cf : CF} {EX : WX} {e a b c : Expr} {es : List Expr} {fa fb fc : SE} {ha hb : SA} {pos p : Pos} {x : String} {k n : Nat}
theorem post_R {F : Addr → Prop} {σ : L2.St} {env : EnvQ} {S : Sto} {H : Hp} {μ : List Addr} {r : R W} {Q : VK} (s : Sim X.K X.mg F σ H env S μ)
    (q : Post X.K X.mg EX F σ env H μ r fun w _ H' μ' => ∀ v, RW X.K X.mg H' (NN F μ' σ env) μ' v w → Q v H') : PostR X.K X.mg (fun a => (∃ i, OwnAt σ env i a) ∨ F a) H μ r Q (WE EX σ) := by
  cases r with
  | ok w S' =>
    intro v H' μ' r x rv
    obtain ⟨s', x'⟩ := s.back r x
    exact q H' μ' s' x' v (RW.sub nr_sup rv)
  | exc c S' =>
    intro C H' μ' g r x
    obtain ⟨s', x'⟩ := s.back r x
    exact q C H' μ' g s' x'
  | stuck => exact q
def arity (n : Nat) (ws : List W) (r : R W) : R W := if ws.length = n ∧ W.plains ws = true then r else .stuck
def fCallN (x : String) (n : Nat) (a : SA) : SE := fun cf env S => (a cf env S).bind fun ws S1 => arity n ws (cf x ws S1)
theorem me_call (G : FnQ X.prog X.w X.K X.mg X.base cf k x n) (hA : X.A.guards = some []) (hr : Room k X.A) (tk : Takes X EX) (hg : Gl X (Str.ofString x)) (h : MA X cf EX (e :: es) ha) (hdb : (Str.ofString x == ("__debug__" : Str)) = false := by decide)
    (he : starEach (e :: es) X.env = (false, eval e X.env) :: starEach es X.env := by rfl) (hpl : (backTo pos (starEach es X.env)).any (·.1) = false := by rfl) : ME X cf EX (.Call (.Name (Str.ofString x) p) (e :: es) [] pos) (fCallN x n ha) := by
  obtain ⟨f, fd, ps, G1, G2, G3, G4, G5⟩ := G.ex
  refine PE.weak (pe_callG G1 hA hr hg G2 G3 G4 tk h hdb he hpl) fun σ H Q ⟨env, S, μ, F, s, q⟩ => ⟨env, S, μ, F, s, (Post.bind q).mono fun ws S1 H1 μ1 s1 x1 q1 vs rvs => ?_⟩
  unfold arity at q1
  split at q1
  · rename_i c
    exact ⟨by rw [rvs.length]; exact c.1, ws, S1, μ1, _, s1.toR, RWs.sub nr_sub rvs, c.2, post_R s1 q1⟩
  · exact q1.elim
def fCall0 (x : String) : SE := fun cf env S => cf x [] S
theorem me_call0 (G : FnQ X.prog X.w X.K X.mg X.base cf k x 0) (hA : X.A.guards = some []) (hr : Room k X.A) (tk : Takes X EX) (hg : Gl X (Str.ofString x)) (hdb : (Str.ofString x == ("__debug__" : Str)) = false := by decide) :
    ME X cf EX (.Call (.Name (Str.ofString x) p) [] [] pos) (fCall0 x) := by
  obtain ⟨f, fd, ps, G1, G2, G3, G4, G5⟩ := G.ex
  exact PE.weak (pe_call0G G1 hA hr hg G2 G3 G4 tk hdb) fun σ H Q ⟨env, S, μ, F, s, q⟩ => ⟨rfl, [], S, μ, _, s.toR, .nil, rfl, post_R s q⟩

theorem IxR.or {r r' : R2} (h : IxR X r) (h' : IxR X r') : IxR X (fun x y H Q => r x y H Q ∨ r' x y H Q) := by
  intro value slice pins s σ H x y v u Q I rx ry q hs
  rcases q with q | q
  · exact h value slice pins s σ H x y v u Q I rx ry q hs
  · exact h' value slice pins s σ H x y v u Q I rx ry q hs
def gAt : G2
  | .d (.tuple xs), .d (.int i), S => match atI xs i with | some x => .ok (.d x) S | none => .stuck
  | .d (.list xs), .d (.int i), S => match atI xs i with | some x => .ok (.d x) S | none => .stuck
  | .d (.str x), .d (.int i), S => if x.length ≤ LIM then (match atI x.cps.toList i with | some c => .ok (.d (.str ⟨#[c]⟩)) S | none => .stuck) else .stuck
  | .tw xs, .d (.int i), S => if W.plains xs then (match atI xs i with | some x => .ok x S | none => .stuck) else .stuck
  | .ref n, .d (.int i), S => match S[n]? with
    | some (.lst xs) => (match atI xs i with | some x => .ok (.d x) S | none => .stuck)
    | _ => .stuck
  | .scr xs, .d (.int i), S => match atI xs i with | some x => .ok (.d (.int x)) S | none => .stuck
  | .own xs, .d (.int i), S => match atI xs i with | some x => .ok (.d x) S | none => .stuck
  | _, _, _ => .stuck
theorem qat_get {α β : Type} {xs : List α} {ys : List β} {i : Int} {y : β} (hl : xs.length = ys.length) (h : atI ys i = some y) : ∃ j : Nat, ys[j]? = some y ∧ ∀ x, xs[j]? = some x → atI xs i = some x := by
  unfold atI at h ⊢
  rw [hl]
  cases e : ixN ys.length i with
  | none => rw [e] at h; cases h
  | some j =>
    rw [e] at h
    exact ⟨j, h, fun x hx => hx⟩
theorem atI_dn {K : PySem.W.Frag} {H : Hp} {N : Addr → Prop} {vs : List V} {ds : List D} {i : Int} {d : D} (t : DnAll K H N vs ds) (h : atI ds i = some d) : ∃ v, atI vs i = some v ∧ Dn K H N v d := by
  obtain ⟨j, hj, f⟩ := qat_get t.length h
  obtain ⟨v, hv, r⟩ := t.get hj
  exact ⟨v, f v hv, r⟩
theorem RWs.get {K : PySem.W.Frag} {mg : Str → Option Value} {H : Hp} {N : Addr → Prop} {μ : List Addr} : ∀ {vs : List V} {ws : List W} {i : Nat} {w : W}, RWs K mg H N μ vs ws → ws[i]? = some w → ∃ v, vs[i]? = some v ∧ RW K mg H N μ v w
  | _, _, _, _, .nil, e => by simp at e
  | _, _, 0, _, .cons h _, e => by simp at e; subst e; exact ⟨_, rfl, h⟩
  | _, _, i + 1, w, .cons _ t, e => by
    obtain ⟨v, h1, h2⟩ := RWs.get (i := i) (w := w) t (by simpa using e)
    exact ⟨v, by simpa using h1, h2⟩
theorem o_at : ∀ (F : Addr → Prop) (σ : L2.St) (env : EnvQ) (S : Sto) (H : Hp) (μ : List Addr) (x y : V) (w u : W) (Q : VK), Sim X.K X.mg F σ H env S μ → RW X.K X.mg H (NN F μ σ env) μ x w → RW X.K X.mg H (NN F μ σ env) μ y u →
    Post X.K X.mg EX F σ env H μ (gAt w u S) (fun w _ H' μ' => ∀ v, RW X.K X.mg H' (NN F μ' σ env) μ' v w → Q v H') → rIxL X.K x y H Q ∨ rIxT X.K x y H Q ∨ rIxS x y H Q := by
  intro F σ env S H μ x y w u Q s rx ry q
  unfold gAt at q
  split at q
  · obtain ⟨a, vs, rfl, ha, ta⟩ := rw_tup rx
    rw [rw_int ry]
    split at q
    · rename_i e
      obtain ⟨v, hv, r⟩ := atI_dn ta e
      exact .inr (.inl ⟨a, vs, _, v, rfl, rfl, ha.sq, hv, post_here s (.d r) q⟩)
    · exact q.elim
  · obtain ⟨a, vs, rfl, na, ha, ta⟩ := rw_lst rx
    rw [rw_int ry]
    split at q
    · rename_i e
      obtain ⟨v, hv, r⟩ := atI_dn ta e
      exact .inl ⟨a, vs, _, v, rfl, rfl, SqL.of ha, hv, post_here s (.d r) q⟩
    · exact q.elim
  · rw [rw_str rx, rw_int ry]
    split at q
    · split at q
      · rename_i e
        exact .inr (.inr ⟨_, _, _, rfl, rfl, by rw [← lim_line]; assumption, e, post_here s (.d (.str _)) q⟩)
      · exact q.elim
    · exact q.elim
  · rw [rw_int ry]
    split at q
    · split at q
      · rename_i e
        cases rx with
        | tw n e1 t =>
          obtain ⟨j, hj, f⟩ := qat_get t.length e
          obtain ⟨v, hv, r⟩ := t.get hj
          exact .inr (.inl ⟨_, _, _, v, rfl, rfl, SqT.of e1, f v hv, post_here s r q⟩)
      · exact q.elim
    · exact q.elim
  · rw [rw_int ry]
    split at q
    · rename_i hS
      split at q
      · rename_i e
        cases rx with
        | ref hn =>
          obtain ⟨a, ha, ro⟩ := s.st.obj _ _ hS
          rw [hn] at ha
          cases ha
          cases ro with
          | lst h t =>
            obtain ⟨v, hv, r⟩ := atI_dn t e
            exact .inl ⟨_, _, _, v, rfl, rfl, SqL.of h, hv, post_here s (.d r) q⟩
      · exact q.elim
    · exact q.elim
  · rw [rw_int ry]
    split at q
    · rename_i xs i S' z e
      cases rx with
      | scr h =>
        obtain ⟨j, hj, f⟩ := qat_get (xs := xs.map V.int) (by simp) e
        exact .inl ⟨_, _, _, _, rfl, rfl, h.sq, f (.int z) (by simp [hj]), post_here s (.d (.int z)) q⟩
    · exact q.elim
  · rw [rw_int ry]
    split at q
    · rename_i e
      cases rx with
      | own h t =>
        obtain ⟨v, hv, r⟩ := atI_dn t e
        exact .inl ⟨_, _, _, v, rfl, rfl, SqL.of h, hv, post_here s (.d r) q⟩
    · exact q.elim
  · exact q.elim
/-- o[i], i by itself without one's own -/
def fAt (a b : SE) : SE := fun cf env S => (a cf env S).bind fun x S1 => if x.plain then (b cf env S1).bind fun y S2 => gAt x y S2 else .stuck
theorem me_at (h1 : ME X cf EX a fa) (h2 : ME X cf EX b fb) (hs : PlainIx b := by exact fun _ _ => rfl) : ME X cf EX (.Subscript a b pos) (fAt fa fb) := by
  refine PE.weak (pe_ix (IxR.or ix_list (IxR.or ix_tup ix_str)) h1 h2 hs) fun σ H Q ⟨env, S, μ, F, s, q⟩ => ⟨env, S, μ, F, s, (Post.bind q).mono fun w S1 H1 μ1 s1 x1 q1 v rv => ?_⟩
  split at q1
  · rename_i pw
    exact ⟨env, S1, μ1, F, s1, (Post.bind q1).mono fun u S2 H2 μ2 s2 x2 q2 v2 rv2 => o_at F σ env S2 H2 μ2 v v2 w u Q s2 (RW.keep (x2.nn F) x2.pre rv pw) rv2 q2⟩
  · exact q1.elim
/-- one's own list, told -/
def fOwn (i : Nat) : SE := fun _ env S => match env[i]? with
  | some (some (.own xs)) => .ok (.own xs) S
  | some (some (.ownd xs)) => .ok (.ownd xs) S
  | _ => .stuck
theorem me_own {i : Nat} {x : Str} (h : PE X (.Name x pos) (tVar i)) : ME X cf EX (.Name x pos) (fOwn i) :=
  PE.weak h fun σ H Q ⟨env, S, μ, F, s, q⟩ => by
    unfold fOwn at q
    split at q
    · rename_i e
      obtain ⟨v, hv, r⟩ := s.slot i _ e
      exact ⟨v, hv, q H μ s (Ext.refl _ _ _ _) v r⟩
    · rename_i e
      obtain ⟨v, hv, r⟩ := s.slot i _ e
      exact ⟨v, hv, q H μ s (Ext.refl _ _ _ _) v r⟩
    · exact q.elim
/-- found[i] of one's own list, i a constant or a variable (so that nothing comes between) -/
def fAtOwn (i : Nat) (b : SE) : SE := fun cf env S => match env[i]? with
  | some (some (.own xs)) => (b cf env S).bind fun y S2 => gAt (.own xs) y S2
  | _ => .stuck
/-- one argument, one's own too -/
def aOne (a : SE) : SA := fun cf env S => (a cf env S).bind fun x S1 => .ok [x] S1
theorem ma_one (h1 : ME X cf EX e fa) (hs : starEach (e :: []) X.env = (false, eval e X.env) :: starEach [] X.env := by rfl) : MA X cf EX [e] (aOne fa) :=
  PA.weak (pa_cons h1 pa_nil hs) fun σ H Q ⟨env, S, μ, F, s, q⟩ => ⟨env, S, μ, F, s, (Post.bind q).mono fun w S1 H1 μ1 s1 x1 q1 v rv => q1 H1 μ1 s1 (Ext.refl _ _ _ _) _ (.cons rv .nil)⟩
/-- slices -/
def cutD {α : Type} (xs : List α) (lo hi : Option Int) : List α := (xs.drop (HT.sIx xs.length 0 lo)).take (HT.sIx xs.length xs.length hi - HT.sIx xs.length 0 lo)
theorem cut_dn {K : PySem.W.Frag} {H : Hp} {N : Addr → Prop} {vs : List V} {ds : List D} {lo hi : Option Int} (t : DnAll K H N vs ds) : DnAll K H N (cutV vs lo hi) (cutD ds lo hi) := by
  unfold cutV cutD
  rw [t.length]
  exact (t.drop _).take _
def gSlice (w : W) (lo hi : Option Int) (S : Sto) : R W := match w with
  | .d (.tuple xs) => .ok (.d (.tuple (cutD xs lo hi))) S
  | .d (.list xs) => .ok (.d (.list (cutD xs lo hi))) S
  | .d (.str x) => if x.length ≤ LIM then .ok (.d (.str (cutS x lo hi))) S else .stuck
  | .scr xs => .ok (.d (.list ((cutD xs lo hi).map PyData.int))) S
  | _ => .stuck
abbrev SO := CF → EnvQ → Sto → R (Option Int)
def oNone : SO := fun _ _ S => .ok none S
def oSome (a : SE) : SO := fun cf env S => (a cf env S).bind fun x S1 => match x with
  | .d (.int i) => .ok (some i) S1
  | _ => .stuck
def fSl (a : SE) (lo hi : SO) : SE := fun cf env S => (a cf env S).bind fun x S1 => if x.plain then (lo cf env S1).bind fun l S2 => (hi cf env S2).bind fun u S3 => gSlice x l u S3 else .stuck
def tO (K : PySem.W.Frag) (mg : Str → Option Value) (cf : CF) (EX : WX) (f : SO) : TO := fun σ H Q => ∃ env S μ F, Sim K mg F σ H env S μ ∧ Post K mg EX F σ env H μ (f cf env S) fun b _ H' _ => Q b H'
def MO (X : Cx) (cf : CF) (EX : WX) (e : Option Expr) (f : SO) : Prop := PO X e (tO X.K X.mg cf EX f)
theorem PO.weak {X : Cx} {e : Option Expr} {t t' : TO} (h : PO X e t) (w : ∀ σ H Q, t' σ H Q → t σ H Q) : PO X e t' := ⟨fun pins s σ H Q I q => h.run pins s σ H Q I (w σ H Q q)⟩
theorem mo_none : MO X cf EX none oNone := PO.weak po_none fun σ H Q ⟨env, S, μ, F, s, q⟩ => q H μ s (Ext.refl _ _ _ _)
theorem mo_some (h : ME X cf EX e fa) : MO X cf EX (some e) (oSome fa) := PO.weak (po_some h) fun σ H Q ⟨env, S, μ, F, s, q⟩ => ⟨env, S, μ, F, s, (Post.bind q).mono fun w S1 H1 μ1 s1 x1 q1 v rv => by
  split at q1
  · exact ⟨_, rw_int rv, q1 H1 μ1 s1 (Ext.refl _ _ _ _)⟩
  · exact q1.elim⟩
theorem cut_map {xs : List Int} {lo hi : Option Int} : cutV (xs.map V.int) lo hi = (cutD xs lo hi).map V.int := by
  unfold cutV cutD
  rw [List.length_map, List.map_take, List.map_drop]
theorem whole_cut {α : Type} {xs : List α} {lo hi : Option Int} (h : HT.sIx xs.length 0 lo = 0 ∧ HT.sIx xs.length xs.length hi = xs.length) : cutD xs lo hi = xs := by
  unfold cutD
  rw [h.1, h.2]
  simp
theorem me_slice {l u : Option Expr} {fl fu : SO} {p2 : Pos} (h : ME X cf EX a fa) (hl : MO X cf EX l fl) (hu : MO X cf EX u fu) : ME X cf EX (.Subscript a (.Slice l u none p2) pos) (fSl fa fl fu) := by
  refine PE.weak (pe_slice (SlR.or sl_list (SlR.or sl_tupA sl_str)) h hl hu) fun σ H Q ⟨env, S, μ, F, s, q⟩ => ⟨env, S, μ, F, s, (Post.bind q).mono fun w S1 H1 μ1 s1 x1 q1 v rv => ?_⟩
  split at q1
  · rename_i pw
    refine ⟨env, S1, μ1, F, s1, (Post.bind q1).mono fun lo S2 H2 μ2 s2 x2 q2 => ⟨env, S2, μ2, F, s2, (Post.bind q2).mono fun hi S3 H3 μ3 s3 x3 q3 => ?_⟩⟩
    have rv' : RW X.K X.mg H3 (NN F μ3 σ env) μ3 v w := RW.keep ((x2.nn F).trans (x3.nn F)) (List.IsPrefix.trans x2.pre x3.pre) rv pw
    unfold gSlice at q3
    split at q3
    · obtain ⟨t, vs, rfl, ht, tt⟩ := rw_tup rv'
      refine .inr (.inl ⟨t, vs, rfl, ht.sq, fun z => ?_, fun _ p n => post_tup (α := Unit) s3 (cut_dn tt) q3 n⟩)
      rw [tt.length] at z
      rw [whole_cut z] at q3
      exact post_here s3 rv' q3
    · obtain ⟨t, vs, rfl, nt, ht, tt⟩ := rw_lst rv'
      exact .inl ⟨t, vs, rfl, SqL.of ht, fun p n => post_lst s3 (cut_dn tt) q3 n⟩
    · rw [rw_str rv']
      split at q3
      · rename_i h
        exact .inr (.inr ⟨_, rfl, by rw [← lim_line]; exact h, post_here s3 (.d (.str _)) q3⟩)
      · exact q3.elim
    · cases rv' with
      | scr h =>
        refine .inl ⟨_, _, rfl, h.sq, fun p n => ?_⟩
        rw [cut_map]
        exact post_lst s3 (ints_all _) q3 n
    · exact q3.elim
  · exact q1.elim

theorem dn_ty {K : PySem.W.Frag} {H : Hp} {N : Addr → Prop} {v : V} {d : D} (h : Dn K H N v d) : TyX K H v (.type (tyName d)) := by
  cases h with
  | non => exact .base .non
  | bl b => exact .base (.bl b)
  | int i => exact .base (.int i)
  | str x => exact .base (.str x)
  | lst h t => exact .base (.lst h.2)
  | tup h t =>
    rcases h with ⟨_, h | ⟨o, h⟩⟩ | h
    · exact .base (.tup h)
    · exact .fTuple h
    · rcases h with (h | ⟨_, h⟩) | ⟨o, its, n, ho, hc, _⟩
      · cases h
      · cases h
      · exact .kTuple ho hc
  | dic n h f => exact .fDict h
theorem kit_all : ∀ a ∈ ["NoneType", "bool", "int", "str", "list", "tuple", "dict"], ∀ T ∈ ["int", "bool", "str", "tuple", "list", "dict"], kitB a T = some (a == T || (a == "bool" && T == "int")) := by decide +kernel
theorem kit_isTy {T : String} (hT : T ∈ ["int", "bool", "str", "tuple", "list", "dict"]) (d : D) : kitB (tyName d) T = some (isTy T d) := kit_all _ (by cases d <;> simp [tyName]) T hT
theorem me_isi {T : String} {q : Pos} (hT : T ∈ ["int", "bool", "str", "tuple", "list", "dict"] := by decide) (hg : Gl X "isinstance") (hm : X.mg "isinstance" = none) (h1 : ME X cf EX e fa) (h2 : PE X (.Name (Str.ofString T) q) (tC (.ty T)))
    (he : starEach [e, .Name (Str.ofString T) q] X.env = (false, eval e X.env) :: starEach [.Name (Str.ofString T) q] X.env := by rfl) (he2 : starEach [.Name (Str.ofString T) q] X.env = (false, eval (.Name (Str.ofString T) q) X.env) :: starEach [] X.env := by rfl)
    (hpl : (backTo pos (starEach [.Name (Str.ofString T) q] X.env)).any (·.1) = false := by rfl) : ME X cf EX (.Call (.Name "isinstance" p) [e, .Name (Str.ofString T) q] [] pos) (fIsI T fa) :=
  PE.weak (pe_callB call_isi hg hm (by decide +kernel) (pa_cons h1 (pa_cons h2 pa_nil he2) he) (he := he) (hpl := hpl)) fun σ H Q ⟨env, S, μ, F, s, q⟩ => ⟨env, S, μ, F, s, (Post.bind q).mono fun w S1 H1 μ1 s1 x1 q1 v rv => by
    split at q1
    · cases rv with
      | d h => exact ⟨v, .ty T, _, _, _, rfl, .ty T, dn_ty h, kit_ty (kit_isTy hT _), post_here s1 (.d (.bl _)) q1⟩
    · exact q1.elim⟩
end
end Q

namespace Q
open PySem PySem.Spec PyProof.Rows L2

abbrev SS := CF → EnvQ → Sto → RS
/-- from an expression's result to a statement's -/
def R.then {α : Type} (r : R α) (env : EnvQ) (f : α → Sto → RS) : RS := match r with
  | .ok a S => f a S
  | .exc c S => .exc c env S
  | .stuck => .stuck
@[simp] theorem R.then_ok {α : Type} (a : α) (S : Sto) (env : EnvQ) (f : α → Sto → RS) : (R.ok a S).then env f = f a S := rfl
@[simp] theorem R.then_exc {α : Type} (c : String) (S : Sto) (env : EnvQ) (f : α → Sto → RS) : (R.exc c S : R α).then env f = .exc c env S := rfl
@[simp] theorem R.then_stuck {α : Type} (env : EnvQ) (f : α → Sto → RS) : (R.stuck : R α).then env f = .stuck := rfl
@[simp] theorem RS.seq_next (env : EnvQ) (S : Sto) (f : EnvQ → Sto → RS) : (RS.next env S).seq f = f env S := rfl
@[simp] theorem RS.seq_ret (w : W) (S : Sto) (f : EnvQ → Sto → RS) : (RS.ret w S).seq f = .ret w S := rfl
@[simp] theorem RS.seq_brk (env : EnvQ) (S : Sto) (f : EnvQ → Sto → RS) : (RS.brk env S).seq f = .brk env S := rfl
@[simp] theorem RS.seq_cont (env : EnvQ) (S : Sto) (f : EnvQ → Sto → RS) : (RS.cont env S).seq f = .cont env S := rfl
@[simp] theorem RS.seq_exc (c : String) (env : EnvQ) (S : Sto) (f : EnvQ → Sto → RS) : (RS.exc c env S).seq f = .exc c env S := rfl
@[simp] theorem RS.seq_stuck (f : EnvQ → Sto → RS) : RS.stuck.seq f = .stuck := rfl

theorem ExS.refl (σ : L2.St) (env : EnvQ) (H : Hp) (μ : List Addr) : ExS σ env H μ σ env H μ := ⟨Keep.refl _ _, List.prefix_refl _⟩
theorem ExS.nn {σ σ1 : L2.St} {env env1 : EnvQ} {H H1 : Hp} {μ μ1 : List Addr} (x : ExS σ env H μ σ1 env1 H1 μ1) (F : Addr → Prop) : Keep (NN F μ σ env) H (NN F μ1 σ1 env1) H1 := fun a o n e =>
  let z := x.keep a o (fun q => n (.inl q)) e
  ⟨z.1, fun q => q.elim z.2 fun q => n (.inr q)⟩
section
variable (K : PySem.W.Frag) (mg : Str → Option Value) (EX : WX)
end
section
variable {K : PySem.W.Frag} {mg : Str → Option Value} {EX : WX} {F : Addr → Prop} {σ σ' : L2.St} {env env' : EnvQ} {H H' : Hp} {S : Sto} {μ μ' : List Addr} {D D' : Ends}
/-- an expression, then a statement's rest -/
theorem PostS.expr {α : Type} {r : R α} {f : α → Sto → RS} (h : PostS K mg EX F σ env H μ (r.then env f) D) : Post K mg EX F σ env H μ r fun a S' H' μ' => PostS K mg EX F σ env H' μ' (f a S') D := by
  cases r with
  | ok a S' => exact fun H2 μ2 s2 x2 => PostS.ext h x2.s
  | exc c S' => exact fun C H2 μ2 g s2 x2 => h C σ H2 μ2 g s2 x2.s
  | stuck => exact h
end
def tS (K : PySem.W.Frag) (mg : Str → Option Value) (cf : CF) (EX : WX) (f : SS) : TS := fun D σ H => ∃ env S μ F, Sim K mg F σ H env S μ ∧ PostS K mg EX F σ env H μ (f cf env S) D
def MS (X : Cx) (cf : CF) (EX : WX) (st : Stmt) (f : SS) : Prop := PS X st (tS X.K X.mg cf EX f)
def MSs (X : Cx) (cf : CF) (EX : WX) (sts : List Stmt) (f : SS) : Prop := PSs X sts (tS X.K X.mg cf EX f)

def sNext : SS := fun _ env S => .next env S
def sSeq (a b : SS) : SS := fun cf env S => (a cf env S).seq fun env' S' => b cf env' S'
def sSet (i : Nat) (f : SE) : SS := fun cf env S => (f cf env S).then env fun w S' => if w.plain then .next (env.set i (some w)) S' else .stuck
/-- a new list of one's own -/
def sNew (i : Nat) (a : SA) : SS := fun cf env S => (a cf env S).then env fun ws S' => if ws.length ≤ LIM then (match datas ws with
  | some ds => .next (env.set i (some (.own ds))) S'
  | none => .stuck) else .stuck
def sApp (i : Nat) (f : SE) : SS := fun cf env S => match env[i]? with
  | some (some (.own xs)) => (f cf env S).then env fun w S' => match w with
    | .d x => if xs.length < LIM then .next (env.set i (some (.own (xs ++ [x])))) S' else .stuck
    | _ => .stuck
  | _ => .stuck
/-- what is one's own stands from here on -/
def sFreeze (i : Nat) : SS := fun _ env S => match env[i]? with
  | some (some (.own xs)) => .next (env.set i (some (.d (.list xs)))) S
  | _ => .stuck
def W.told : W → W
  | .own xs => .d (.list xs)
  | w => w
def sRetN : SS := fun _ _ S => .ret (.d .none) S
def sExpr (f : SE) : SS := fun cf env S => (f cf env S).then env fun _ S' => .next env S'
def sIf (c : ST) (a b : SS) : SS := fun cf env S => (c cf env S).then env fun k S' => if k = true then a cf env S' else b cf env S'
def sBreak : SS := fun _ env S => .brk env S
def sCont : SS := fun _ env S => .cont env S
def sNever : SS := fun _ _ _ => .stuck
def sRaise (c : String) : SS := fun _ env S => .exc c env S
/-- where an item goes -/
inductive Tg where
  | name (i : Nat)
  | names (is : List Nat)
def setAll : List Nat → List D → EnvQ → Option EnvQ
  | [], [], env => some env
  | i :: is, d :: ds, env => setAll is ds (env.set i (some (.d d)))
  | _, _, _ => none
def Tg.set : Tg → D → EnvQ → Option EnvQ
  | .name i, d, env => some (env.set i (some (.d d)))
  | .names is, .tuple ds, env => setAll is ds env
  | _, _, _ => none
/-- a, b = e -/
def sUnp (is : List Nat) (f : SE) : SS := fun cf env S => (f cf env S).then env fun w S' => match w with
  | .d (.tuple ds) => (match setAll is ds env with | some env' => .next env' S' | none => .stuck)
  | _ => .stuck
abbrev SI := CF → EnvQ → Sto → R (List D)
def forL (t : Tg) (body : EnvQ → Sto → RS) : List D → EnvQ → Sto → RS
  | [], env, S => .next env S
  | d :: ds, env, S => match t.set d env with
    | none => .stuck
    | some env1 => match body env1 S with
      | .next env2 S2 => forL t body ds env2 S2
      | .cont env2 S2 => forL t body ds env2 S2
      | .brk env2 S2 => .next env2 S2
      | r => r
def sFor (t : Tg) (it : SI) (body : SS) : SS := fun cf env S => (it cf env S).then env fun ds S' => forL t (body cf) ds env S'
def whileL (c : EnvQ → Sto → R Bool) (body : EnvQ → Sto → RS) : Nat → EnvQ → Sto → RS
  | 0, _, _ => .stuck
  | n + 1, env, S => (c env S).then env fun k S1 => if k = true then (match body env S1 with
      | .next env2 S2 => whileL c body n env2 S2
      | .cont env2 S2 => whileL c body n env2 S2
      | .brk env2 S2 => .next env2 S2
      | r => r) else .next env S1
/-- n: more turns than there are -/
def sWhile (n : Nat) (c : ST) (body : SS) : SS := fun cf env S => whileL (c cf) (body cf) n env S

section
variable {X : Cx} {cf : CF} {EX : WX} {F : Addr → Prop} {σ : L2.St} {env : EnvQ} {S S' : Sto} {H H' : Hp} {μ μ' : List Addr} {K : PySem.W.Frag} {mg : Str → Option Value} {st : Stmt} {sts body : List Stmt} {e c : Expr} {fa fb : SE} {gc : ST} {ha : SA} {f g : SS} {pos p : Pos} {x : Str}
theorem mss_nil : MSs X cf EX [] sNext := PSs.weak pss_nil fun D σ H ⟨env, S, μ, F, s, q⟩ => q σ H μ s (ExS.refl _ _ _ _)
theorem mss_cons (h1 : MS X cf EX st f) (h2 : MSs X cf EX sts g) : MSs X cf EX (st :: sts) (sSeq f g) := PSs.weak (pss_cons h1 h2) fun D σ H ⟨env, S, μ, F, s, q⟩ => ⟨env, S, μ, F, s, by
  have z := PostS.seq q
  generalize hr : f cf env S = r at z
  cases r with
  | next e S' => exact fun σ2 H2 μ2 s2 x2 => let ⟨e2, S2, μ3, s3, q3⟩ := z σ2 H2 μ2 s2 x2; ⟨e2, S2, μ3, F, s3, q3⟩
  | brk e S' => exact z
  | cont e S' => exact z
  | ret w S' => exact z
  | exc c e S' => exact z
  | stuck => exact z⟩
theorem mss_one (h1 : MS X cf EX st f) : MSs X cf EX [st] f := pss_one h1
/-- a word without a text -/
theorem mss_pre {f0 : SS} (h0 : ∀ cf D σ H, tS X.K X.mg cf EX f0 D σ H → D.nx σ H) (h : MSs X cf EX sts g) : MSs X cf EX sts (sSeq f0 g) := PSs.weak h fun D σ H ⟨env, S, μ, F, s, q⟩ => by
  have z := PostS.seq q
  have w := h0 cf { D with nx := fun σ' H' => ∃ env' S' μ', Sim X.K X.mg F σ' H' env' S' μ' ∧ PostS X.K X.mg EX F σ' env' H' μ' (g cf env' S') D } σ H ⟨env, S, μ, F, s, z⟩
  obtain ⟨e2, S2, μ3, s3, q3⟩ := w
  exact ⟨e2, S2, μ3, F, s3, q3⟩
theorem ms_if {a b : List Stmt} (hc : MT X cf EX c gc) (h1 : MSs X cf EX a f) (h2 : MSs X cf EX b g) : MS X cf EX (.If c a b pos) (sIf gc f g) :=
  PS.weak (ps_if hc h1 h2) fun D σ H ⟨env, S, μ, F, s, q⟩ => ⟨env, S, μ, F, s, (PostS.expr q).mono fun k S1 H1 μ1 s1 x1 q1 => by
    cases k with
    | true => rw [if_pos rfl] at q1 ⊢; exact ⟨env, S1, μ1, F, s1, q1⟩
    | false => rw [if_neg Bool.false_ne_true] at q1 ⊢; exact ⟨env, S1, μ1, F, s1, q1⟩⟩
theorem ms_expr (h : ME X cf EX e fa) (hs : swapsWith e none pos.line X.env = pure false := by rfl) : MS X cf EX (.Expr e pos) (sExpr fa) :=
  PS.weak (ps_expr h hs) fun D σ H ⟨env, S, μ, F, s, q⟩ => ⟨env, S, μ, F, s, (PostS.expr q).mono fun w S1 H1 μ1 s1 x1 q1 v rv => q1 σ H1 μ1 s1 (ExS.refl _ _ _ _)⟩
/-- the slots of one's own are no more -/
theorem Sim.leave (s : Sim K mg F σ H env S μ) : SimR K mg F H S μ ∧ Keep (MM μ σ env) H (· ∈ μ) H := ⟨⟨s.st.sub fun a h => h.elim (fun h => .inl (.inl h)) .inr, s.ftr, fun a f m => s.fdis a f (.inl m)⟩, Keep.sub fun a h => .inl h⟩
def sRetP (f : SE) : SS := fun cf env S => (f cf env S).then env fun w S' => if w.plain then .ret w S' else .stuck
theorem ms_ret (h : ME X cf EX e fa) : MS X cf EX (.Return (some e) pos) (sRetP fa) :=
  PS.weak (ps_ret h) fun D σ H ⟨env, S, μ, F, s, q⟩ => ⟨env, S, μ, F, s, (PostS.expr q).mono fun w S1 H1 μ1 s1 x1 q1 v rv => by
    split at q1
    · obtain ⟨r, k⟩ := s1.leave
      exact q1 v H1 μ1 r k (List.prefix_refl _) (RW.sub (fun a h => h.elim (fun h => .inl (.inl h)) .inr) rv)
    · exact q1.elim⟩
def sRetO (i : Nat) : SS := fun _ env S => match env[i]? with
  | some (some (.own xs)) => .ret (.d (.list xs)) S
  | _ => .stuck
theorem set_get {α : Type} {l : List α} {i j : Nat} {x y : α} (h : (l.set i x)[j]? = some y) : (j = i ∧ y = x) ∨ (j ≠ i ∧ l[j]? = some y) := by
  by_cases e : j = i
  · subst e
    by_cases hl : j < l.length
    · rw [List.getElem?_set_self hl] at h
      exact .inl ⟨rfl, (Option.some.inj h).symm⟩
    · rw [List.getElem?_eq_none (by simpa using hl)] at h
      cases h
  · rw [List.getElem?_set_ne (Ne.symm e)] at h
    exact .inr ⟨e, h⟩
theorem fine_own {w : W} (h : w.isOwn = true) : w.plain = false := by
  cases w <;> first | rfl | simp [W.isOwn] at h
theorem own_set {i j : Nat} {v : V} {w : W} {a : Addr} (pw : w.isOwn = false) (hl : σ.length = env.length) (h : OwnAt (σ.set i (some v)) (env.set i (some w)) j a) : j ≠ i ∧ OwnAt σ env j a := by
  obtain ⟨h1, u, h2, h3⟩ := h
  rcases set_get h2 with ⟨e, z⟩ | ⟨n, z⟩
  · cases z
    rw [pw] at h3
    cases h3
  · rcases set_get h1 with ⟨e, _⟩ | ⟨_, y⟩
    · exact absurd e n
    · exact ⟨n, y, u, z, h3⟩
theorem plain_notOwn {w : W} (h : w.plain = true) : w.isOwn = false := by
  cases e : w.isOwn with
  | false => rfl
  | true => rw [fine_own e] at h; cases h
theorem Sim.set (s : Sim K mg F σ H env S μ) {i : Nat} {v : V} {w : W} (pw : w.plain = true) (r : RW K mg H (NN F μ σ env) μ v w) : Sim K mg F (σ.set i (some v)) H (env.set i (some w)) S μ ∧ ExS σ env H μ (σ.set i (some v)) (env.set i (some w)) H μ := by
  have no := plain_notOwn pw
  have sub : ∀ a, MM μ (σ.set i (some v)) (env.set i (some w)) a → MM μ σ env a := fun a h => h.elim .inl fun ⟨j, h⟩ => .inr ⟨j, (own_set no s.len h).2⟩
  have subN : ∀ a, NN F μ (σ.set i (some v)) (env.set i (some w)) a → NN F μ σ env a := fun a h => h.elim (fun h => .inl (sub a h)) .inr
  refine ⟨⟨by simpa using s.len, fun j u e => ?_, fun j u e => ?_, fun j k a h1 h2 => s.inj j k a (own_set no s.len h1).2 (own_set no s.len h2).2, fun j a h => s.apart j a (own_set no s.len h).2, s.st.sub subN, s.ftr, fun a f h => s.fdis a f (sub a h)⟩, Keep.sub sub, List.prefix_refl _⟩
  · rcases set_get e with ⟨z, y⟩ | ⟨n, z⟩
    · subst z
      cases y
      have hl : j < σ.length := by
        rw [s.len]
        have q := (List.getElem?_eq_some_iff.mp e).1
        simpa using q
      exact ⟨v, List.getElem?_set_self hl, RW.sub subN r⟩
    · obtain ⟨v', h1, h2⟩ := s.slot j u z
      exact ⟨v', by rw [List.getElem?_set_ne (Ne.symm n)]; exact h1, RW.sub subN h2⟩
  · rcases set_get e with ⟨z, y⟩ | ⟨n, z⟩
    · cases y
      unfold W.fine
      rw [pw, Bool.true_or]
    · exact s.fin j u z
theorem ms_set {i : Nat} {pp : Pos} (hN : X.N.Nodup) (hi : X.N[i]? = some x) (hx : Loc X.env.scope x) (h : ME X cf EX e fa) (hs : swapsWith e (some (.Name x pp)) pos.line X.env = pure false := by rfl) (hf : X.fn x = true ∨ X.env.scope.names.lookup x = some .local := by first | exact .inl rfl | exact .inr rfl | assumption) :
    MS X cf EX (.Assign [.Name x pp] e pos) (sSet i fa) :=
  PS.weak (ps_set hN hi hx h hs hf) fun D σ H ⟨env, S, μ, F, s, q⟩ => ⟨env, S, μ, F, s, (PostS.expr q).mono fun w S1 H1 μ1 s1 x1 q1 v rv => by
    split at q1
    · rename_i pw
      obtain ⟨s2, x2⟩ := s1.set pw rv
      exact q1 _ H1 μ1 s2 x2
    · exact q1.elim⟩
/-- a new list of one's own at p -/
theorem Sim.newOwnG (s : Sim K mg F σ H env S μ) {i : Nat} {p : Addr} {ob0 : HO} {w0 : W} (n : H p = none) (t : OwnR K H (NN F μ σ env) ob0 w0) (io : w0.isOwn = true) :
    Sim K mg F (σ.set i (some (.ref p))) (upd H p ob0) (env.set i (some w0)) S μ ∧ ExS σ env H μ (σ.set i (some (.ref p))) (env.set i (some w0)) (upd H p ob0) μ := by
  have ow : ∀ j a, OwnAt (σ.set i (some (.ref p))) (env.set i (some w0)) j a → (j = i ∧ a = p) ∨ (j ≠ i ∧ OwnAt σ env j a) := fun j a ⟨h1, u, h2, h3⟩ => by
    rcases set_get h2 with ⟨e, z⟩ | ⟨n, z⟩
    · rcases set_get h1 with ⟨_, y⟩ | ⟨ne, _⟩
      · cases y
        exact .inl ⟨e, rfl⟩
      · exact absurd e ne
    · rcases set_get h1 with ⟨e, _⟩ | ⟨_, y⟩
      · exact absurd e n
      · exact .inr ⟨n, y, u, z, h3⟩
  have sub : ∀ a, MM μ (σ.set i (some (.ref p))) (env.set i (some w0)) a → a = p ∨ MM μ σ env a := fun a h => h.elim (fun h => .inr (.inl h)) fun ⟨j, h⟩ => (ow j a h).elim (fun h => .inl h.2) fun h => .inr (.inr ⟨j, h.2⟩)
  have np : ∀ a, NN F μ σ env a → a ≠ p := fun a h e => by
    subst e
    exact s.fresh n h
  have kp : Keep (MM μ σ env) H (MM μ (σ.set i (some (.ref p))) (env.set i (some w0))) (upd H p ob0) := fun a o na e => by
    have ne : a ≠ p := ne_of_none e n
    exact ⟨by rw [upd_ne ne]; exact e, fun h => (sub a h).elim ne na⟩
  have ex : ExS σ env H μ (σ.set i (some (.ref p))) (env.set i (some w0)) (upd H p ob0) μ := ⟨kp, List.prefix_refl _⟩
  have kn := ex.nn F
  refine ⟨⟨by simpa using s.len, fun j u e => ?_, fun j u e => ?_, fun j k a h1 h2 => ?_, fun j a h m => ?_, ⟨s.st.len, s.st.nd, fun k o e => ?_⟩, fun a f => ?_, fun a f h => ?_⟩, ex⟩
  · rcases set_get e with ⟨z, y⟩ | ⟨nj, z⟩
    · subst z
      cases y
      have hl : j < σ.length := by
        rw [s.len]
        have q := (List.getElem?_eq_some_iff.mp e).1
        simpa using q
      exact ⟨_, List.getElem?_set_self hl, (t.keep kn).rw upd_same⟩
    · obtain ⟨v', h1, h2⟩ := s.slot j u z
      refine ⟨v', by rw [List.getElem?_set_ne (Ne.symm nj)]; exact h1, ?_⟩
      by_cases po : u.isOwn = true
      · obtain ⟨a, ob, rfl, ha, ta⟩ := own_or_plain h2 po
        exact (ta.keep kn).rw (by rw [upd_ne (ne_of_none ha n)]; exact ha)
      · have pl : u.plain = true := by
          have fi := s.fin j u z
          unfold W.fine at fi
          simpa [po] using fi
        exact RW.keep kn (List.prefix_refl _) h2 pl
  · rcases set_get e with ⟨z, y⟩ | ⟨n, z⟩
    · cases y
      unfold W.fine
      rw [io, Bool.or_true]
    · exact s.fin j u z
  · rcases ow j a h1 with ⟨e1, e2⟩ | ⟨e1, e2⟩
    · rcases ow k a h2 with ⟨e3, _⟩ | ⟨_, e4⟩
      · rw [e1, e3]
      · exact absurd e2 (np a (.inl (.inr ⟨k, e4⟩)))
    · rcases ow k a h2 with ⟨_, e4⟩ | ⟨_, e4⟩
      · exact absurd e4 (np a (.inl (.inr ⟨j, e2⟩)))
      · exact s.inj j k a e2 e4
  · rcases ow j a h with ⟨_, e2⟩ | ⟨_, e2⟩
    · subst e2
      obtain ⟨u, hu⟩ := s.st.tracked m
      rw [n] at hu
      cases hu
    · exact s.apart j a e2 m
  · obtain ⟨a, ha, r⟩ := s.st.obj k o e
    refine ⟨a, ha, ?_⟩
    cases r with
    | lst h t' => exact .lst (by rw [upd_ne (ne_of_none h n)]; exact h) (t'.keep kn)
    | ins g h m t' pl => exact .ins g (by rw [upd_ne (ne_of_none h n)]; exact h) m (RWs.keep kn (List.prefix_refl _) t' pl) pl
    | dct h t' => exact .dct (by rw [upd_ne (ne_of_none h n)]; exact h) fun e he => (t' e he).keep kn
    | dcm h t' => exact .dcm (by rw [upd_ne (ne_of_none h n)]; exact h) (t'.keep kn)
    | tab h0 t' => exact .tab h0 (t'.keep (fun h => by rw [upd_ne (ne_of_none h n)]; exact h) kn)
  · obtain ⟨u, hu⟩ := s.ftr a f
    exact ⟨u, by rw [upd_ne (ne_of_none hu n)]; exact hu⟩
  · rcases sub a h with e | h
    · exact np a (.inr f) e
    · exact s.fdis a f h
theorem Sim.newOwn (s : Sim K mg F σ H env S μ) {i : Nat} {p : Addr} {vs : List V} {xs : List D} (n : H p = none) (t : DnAll K H (NN F μ σ env) vs xs) :
    Sim K mg F (σ.set i (some (.ref p))) (upd H p (.lst vs)) (env.set i (some (.own xs))) S μ ∧ ExS σ env H μ (σ.set i (some (.ref p))) (env.set i (some (.own xs))) (upd H p (.lst vs)) μ := s.newOwnG n (.lst t) rfl
theorem ms_new {i : Nat} {pp lp : Pos} {es : List Expr} (hN : X.N.Nodup) (hi : X.N[i]? = some x) (hx : Loc X.env.scope x) (h : MA X cf EX es ha) (hs : swapsWith (.List es lp) (some (.Name x pp)) pos.line X.env = pure false := by rfl) (hf : X.fn x = true ∨ X.env.scope.names.lookup x = some .local := by first | exact .inl rfl | exact .inr rfl | assumption) :
    MS X cf EX (.Assign [.Name x pp] (.List es lp) pos) (sNew i ha) :=
  PS.weak (ps_set hN hi hx (pe_lst h) hs hf) fun D σ H ⟨env, S, μ, F, s, q⟩ => ⟨env, S, μ, F, s, (PostS.expr q).mono fun ws S1 H1 μ1 s1 x1 q1 vs rvs => by
    split at q1
    · rename_i hl
      refine ⟨by rw [← lim_line, rvs.length]; exact hl, fun p n => ?_⟩
      split at q1
      · rename_i ds e
        obtain ⟨s2, x2⟩ := s1.newOwn (i := i) n (datas_dn rvs e)
        exact q1 _ _ μ1 s2 x2
      · exact q1.elim
    · exact q1.elim⟩
/-- one's own list at slot i becomes another -/
theorem Sim.chOwnG (s : Sim K mg F σ H env S μ) {i : Nat} {a : Addr} {ob0 : HO} {w0 w : W} (e : env[i]? = some (some w)) (ho : w.isOwn = true) (hv : σ[i]? = some (some (.ref a))) (t : OwnR K H (NN F μ σ env) ob0 w0) (io : w0.isOwn = true) :
    Sim K mg F σ (upd H a ob0) (env.set i (some w0)) S μ ∧ ExS σ env H μ σ (env.set i (some w0)) (upd H a ob0) μ := by
  have oa : OwnAt σ env i a := ⟨hv, w, e, ho⟩
  have hl : i < env.length := (List.getElem?_eq_some_iff.mp e).1
  have ow : ∀ j b, OwnAt σ (env.set i (some w0)) j b ↔ OwnAt σ env j b := fun j b => by
    refine ⟨fun ⟨h1, u, h2, h3⟩ => ?_, fun ⟨h1, u, h2, h3⟩ => ?_⟩
    · rcases set_get h2 with ⟨z, _⟩ | ⟨_, z⟩
      · subst z
        exact ⟨h1, w, e, ho⟩
      · exact ⟨h1, u, z, h3⟩
    · by_cases z : j = i
      · subst z
        exact ⟨h1, _, List.getElem?_set_self hl, io⟩
      · exact ⟨h1, u, by rw [List.getElem?_set_ne (Ne.symm z)]; exact h2, h3⟩
  have mm : ∀ b, MM μ σ (env.set i (some w0)) b ↔ MM μ σ env b := fun b => ⟨fun h => h.elim .inl fun ⟨j, h⟩ => .inr ⟨j, (ow j b).mp h⟩, fun h => h.elim .inl fun ⟨j, h⟩ => .inr ⟨j, (ow j b).mpr h⟩⟩
  have ma : MM μ σ env a := .inr ⟨i, oa⟩
  have kp : Keep (MM μ σ env) H (MM μ σ (env.set i (some w0))) (upd H a ob0) := fun b o nb q => by
    have ne : b ≠ a := fun z => nb (z ▸ ma)
    exact ⟨by rw [upd_ne ne]; exact q, fun h => nb ((mm b).mp h)⟩
  have ex : ExS σ env H μ σ (env.set i (some w0)) (upd H a ob0) μ := ⟨kp, List.prefix_refl _⟩
  have kn := ex.nn F
  refine ⟨⟨by simpa using s.len, fun j u q => ?_, fun j u q => ?_, fun j k b h1 h2 => s.inj j k b ((ow j b).mp h1) ((ow k b).mp h2), fun j b h => s.apart j b ((ow j b).mp h), ⟨s.st.len, s.st.nd, fun k o q => ?_⟩, fun b f => ?_, fun b f h => s.fdis b f ((mm b).mp h)⟩, ex⟩
  · rcases set_get q with ⟨z, y⟩ | ⟨nj, z⟩
    · subst z
      cases y
      exact ⟨_, hv, (t.keep kn).rw upd_same⟩
    · obtain ⟨v', h1, h2⟩ := s.slot j u z
      refine ⟨v', h1, ?_⟩
      by_cases po : u.isOwn = true
      · obtain ⟨b, ob, rfl, hb, tb⟩ := own_or_plain h2 po
        have ob' : OwnAt σ env j b := ⟨h1, _, z, po⟩
        have ne : b ≠ a := fun y => nj (s.inj j i a (y ▸ ob') oa)
        exact (tb.keep kn).rw (by rw [upd_ne ne]; exact hb)
      · have pl : u.plain = true := by
          have fi := s.fin j u z
          unfold W.fine at fi
          simpa [po] using fi
        exact RW.keep kn (List.prefix_refl _) h2 pl
  · rcases set_get q with ⟨z, y⟩ | ⟨n, z⟩
    · cases y
      unfold W.fine
      rw [io, Bool.or_true]
    · exact s.fin j u z
  · obtain ⟨b, hb, r⟩ := s.st.obj k o q
    refine ⟨b, hb, ?_⟩
    have ne : b ≠ a := fun z => s.apart i a oa (z ▸ List.mem_of_getElem? hb)
    cases r with
    | lst h t' => exact .lst (by rw [upd_ne ne]; exact h) (t'.keep kn)
    | ins g h m t' pl => exact .ins g (by rw [upd_ne ne]; exact h) m (RWs.keep kn (List.prefix_refl _) t' pl) pl
    | dct h t' => exact .dct (by rw [upd_ne ne]; exact h) fun e he => (t' e he).keep kn
    | dcm h t' => exact .dcm (by rw [upd_ne ne]; exact h) (t'.keep kn)
    | tab h0 t' => exact .tab h0 (t'.keep (fun h => by rw [upd_ne ne]; exact h) kn)
  · obtain ⟨u, hu⟩ := s.ftr b f
    have ne : b ≠ a := fun z => s.fdis b f (z ▸ ma)
    exact ⟨u, by rw [upd_ne ne]; exact hu⟩
theorem Sim.chOwn (s : Sim K mg F σ H env S μ) {i : Nat} {a : Addr} {vs : List V} {xs : List D} {w : W} (e : env[i]? = some (some w)) (ho : w.isOwn = true) (hv : σ[i]? = some (some (.ref a))) (t : DnAll K H (NN F μ σ env) vs xs) :
    Sim K mg F σ (upd H a (.lst vs)) (env.set i (some (.own xs))) S μ ∧ ExS σ env H μ σ (env.set i (some (.own xs))) (upd H a (.lst vs)) μ := s.chOwnG e ho hv (.lst t) rfl
theorem ms_app {i : Nat} {p1 p2 : Pos} (hv : PE X (.Name x p1) (tVar i)) (h : ME X cf EX e fa)
    (hbase : attributeBase (.Name x p1) "append" X.env (eval (.Name x p1) X.env) = eval (.Name x p1) X.env := by rfl)
    (hfew : ((backTo p (starEach (e :: []) X.env)).all (fun x => !x.1) && (backToKw p (keywordEach [] X.env)).all (fun x => x.1.isSome) && decide ((e :: []).length + ([] : List Keyword).length + (if ([] : List Keyword).isEmpty then 0 else 1) < 30)) = true := by rfl)
    (hline : (p2.endLine == p.line) = true := by rfl) (hst : starEach (e :: []) X.env = (false, eval e X.env) :: starEach [] X.env := by rfl) (hplain : (backTo p (starEach [] X.env)).any (·.1) = false := by rfl)
    (hs : swapsWith (.Call (.Attribute (.Name x p1) "append" p2) [e] [] p) none pos.line X.env = pure false := by rfl) :
    MS X cf EX (.Expr (.Call (.Attribute (.Name x p1) "append" p2) [e] [] p) pos) (sApp i fa) := by
  refine PS.weak (ps_expr (pe_bm PySem.F.plainAttrs_list PySem.F.slot_list_append PySem.F.type_list_append mt_append hv (pa_cons h pa_nil hst) hbase hfew hline hst hplain) hs) fun D σ H ⟨env, S, μ, F, s, q⟩ => ?_
  unfold sApp at q
  split at q
  · rename_i xs e0
    obtain ⟨v, hv0, r⟩ := s.slot i _ e0
    cases r with
    | own ha ta =>
      refine ⟨_, hv0, .inl ⟨rfl, _, SqL.of ha⟩, env, S, μ, F, s, (PostS.expr q).mono fun w S1 H1 μ1 s1 x1 q1 v rv => ?_⟩
      split at q1
      · split at q1
        · rename_i hz
          obtain ⟨v', hv1, r1⟩ := s1.slot i _ e0
          rw [hv0] at hv1
          cases hv1
          cases r1 with
          | own ha1 ta1 =>
            cases rv with
            | d rd =>
              refine ⟨_, _, v, rfl, rfl, ha1, by rw [← lim_line, ta1.length]; exact hz, ?_⟩
              obtain ⟨s2, x2⟩ := s1.chOwn (i := i) e0 rfl hv0 (ta1.append (.cons rd .nil))
              exact q1 _ _ μ1 s2 x2
        · exact q1.elim
      · exact q1.elim
  · exact q.elim
theorem Sim.freeze (s : Sim K mg F σ H env S μ) {i : Nat} {xs : List D} (e : env[i]? = some (some (.own xs))) : Sim K mg F σ H (env.set i (some (.d (.list xs)))) S μ ∧ ExS σ env H μ σ (env.set i (some (.d (.list xs)))) H μ := by
  have hl : i < env.length := (List.getElem?_eq_some_iff.mp e).1
  have ow : ∀ j a, OwnAt σ (env.set i (some (.d (.list xs)))) j a → j ≠ i ∧ OwnAt σ env j a := fun j a ⟨h1, u, h2, h3⟩ => by
    rcases set_get h2 with ⟨z, y⟩ | ⟨n, z⟩
    · cases y
      simp [W.isOwn] at h3
    · exact ⟨n, h1, u, z, h3⟩
  have sub : ∀ a, MM μ σ (env.set i (some (.d (.list xs)))) a → MM μ σ env a := fun a h => h.elim .inl fun ⟨j, h⟩ => .inr ⟨j, (ow j a h).2⟩
  have subN : ∀ a, NN F μ σ (env.set i (some (.d (.list xs)))) a → NN F μ σ env a := fun a h => h.elim (fun h => .inl (sub a h)) .inr
  refine ⟨⟨by simpa using s.len, fun j u q => ?_, fun j u q => ?_, fun j k a h1 h2 => s.inj j k a (ow j a h1).2 (ow k a h2).2, fun j a h => s.apart j a (ow j a h).2, s.st.sub subN, s.ftr, fun a f h => s.fdis a f (sub a h)⟩, Keep.sub sub, List.prefix_refl _⟩
  · rcases set_get q with ⟨z, y⟩ | ⟨n, z⟩
    · subst z
      cases y
      obtain ⟨v, hv, r⟩ := s.slot j _ e
      refine ⟨v, hv, ?_⟩
      cases r with
      | @own a _ _ ha ta =>
        have oa : OwnAt σ env j a := ⟨hv, _, e, rfl⟩
        refine .d (.lst ⟨fun h => ?_, ha⟩ (ta.keep (Keep.sub subN)))
        rcases h with (h | ⟨k, h⟩) | h
        · exact s.apart j a oa h
        · exact (ow k a h).1 (s.inj k j a (ow k a h).2 oa)
        · exact s.fdis a h (.inr ⟨j, oa⟩)
    · obtain ⟨v', h1, h2⟩ := s.slot j u z
      exact ⟨v', h1, RW.sub subN h2⟩
  · rcases set_get q with ⟨z, y⟩ | ⟨n, z⟩
    · cases y
      rfl
    · exact s.fin j u z
theorem mss_freeze {i : Nat} (h : MSs X cf EX sts g) : MSs X cf EX sts (sSeq (sFreeze i) g) := mss_pre (fun cf D σ H ⟨env, S, μ, F, s, q⟩ => by
  unfold sFreeze at q
  split at q
  · rename_i e
    obtain ⟨s2, x2⟩ := s.freeze e
    exact q σ H μ s2 x2
  · exact q.elim) h
end
end Q

namespace Q
open PySem PySem.Spec PyProof.Rows L2
section
variable {X : Cx} {cf : CF} {EX : WX} {F : Addr → Prop} {σ : L2.St} {env : EnvQ} {S S' : Sto} {H H' : Hp} {μ μ' : List Addr} {K : PySem.W.Frag} {mg : Str → Option Value} {st : Stmt} {sts body : List Stmt} {e c tg : Expr} {es : List Expr} {fa fb : SE} {gc : ST} {ha : SA} {f g : SS} {pos p : Pos} {x : Str}

/-- which slots an assignment touches -/
def Tg.slots : Tg → List Nat
  | .name i => [i]
  | .names is => is
/-- the slots but these are as they were -/
def Only1 (is : List Nat) (σ σ' : L2.St) : Prop := σ'.length = σ.length ∧ ∀ j, j ∉ is → σ'[j]? = σ[j]?
/-- a target: where a datum goes -/
def tG (K : PySem.W.Frag) (mg : Str → Option Value) (t : Tg) : TG := fun v σ H Q => ∃ F env S μ d env', Sim K mg F σ H env S μ ∧ Dn K H (NN F μ σ env) v d ∧ t.set d env = some env' ∧ ∀ σ', Sim K mg F σ' H env' S μ → ExS σ env H μ σ' env' H μ → Only1 t.slots σ σ' → Q σ' H
def tGs (K : PySem.W.Frag) (mg : Str → Option Value) (is : List Nat) : TGs := fun vs σ H Q => ∃ F env S μ ds env', Sim K mg F σ H env S μ ∧ DnAll K H (NN F μ σ env) vs ds ∧ setAll is ds env = some env' ∧ ∀ σ', Sim K mg F σ' H env' S μ → ExS σ env H μ σ' env' H μ → Only1 is σ σ' → Q σ' H
def MG (X : Cx) (tg : Expr) (t : Tg) : Prop := PG X tg (tG X.K X.mg t)
def MGs (X : Cx) (tgs : List Expr) (is : List Nat) : Prop := PGs X tgs (tGs X.K X.mg is)
theorem PG.weak {X : Cx} {tg : Expr} {t t' : TG} (h : PG X tg t) (w : ∀ v σ H Q, t' v σ H Q → t v σ H Q) : PG X tg t' := ⟨fun pins s σ H v u Q I r q => h.run pins s σ H v u Q I r (w v σ H Q q)⟩
theorem PGs.weak {X : Cx} {tgs : List Expr} {t t' : TGs} (h : PGs X tgs t) (w : ∀ vs σ H Q, t' vs σ H Q → t vs σ H Q) : PGs X tgs t' := ⟨fun pins s σ H vs us Q I r q => h.run pins s σ H vs us Q I r (w vs σ H Q q)⟩
theorem mg_name {i : Nat} (hN : X.N.Nodup) (hi : X.N[i]? = some x) (hx : Loc X.env.scope x) (hf : X.fn x = true ∨ X.env.scope.names.lookup x = some .local := by first | exact .inl rfl | exact .inr rfl | assumption) : MG X (.Name x pos) (.name i) :=
  PG.weak (pg_name hN hi hx hf) fun v σ H Q ⟨F, env, S, μ, d, env', s, r, e, q⟩ => by
    simp only [Tg.set, Option.some.injEq] at e
    subst e
    obtain ⟨s2, x2⟩ := s.set (i := i) (w := .d d) rfl (.d r)
    exact q _ s2 x2 ⟨by simp, fun j hj => by rw [List.getElem?_set_ne (fun z => hj (by simp [Tg.slots, z]))]⟩
theorem mgs_nil : MGs X [] [] := PGs.weak pgs_nil fun vs σ H Q ⟨F, env, S, μ, ds, env', s, r, e, q⟩ => by
  cases r with
  | nil =>
    simp only [setAll, Option.some.injEq] at e
    subst e
    exact ⟨rfl, q σ s (ExS.refl _ _ _ _) ⟨rfl, fun _ _ => rfl⟩⟩
  | cons _ _ => simp [setAll] at e
theorem mgs_cons {i : Nat} {is : List Nat} (h1 : MG X e (.name i)) (h2 : MGs X es is) (hs : (assignEach (e :: es) X.env).map (·.2) = assign e X.env :: (assignEach es X.env).map (·.2) := by rfl) : MGs X (e :: es) (i :: is) :=
  PGs.weak (pgs_cons h1 h2 hs) fun vs σ H Q ⟨F, env, S, μ, ds, env', s, r, e, q⟩ => by
    cases r with
    | nil => simp [setAll] at e
    | cons rv rr =>
      simp only [setAll] at e
      refine ⟨_, _, rfl, F, env, S, μ, _, _, s, rv, rfl, fun σ' s' x' o' => ?_⟩
      exact ⟨F, _, S, μ, _, env', s', rr.keep (x'.nn F), e, fun σ2 s2 x2 o2 => q σ2 s2 (x'.trans x2) ⟨o2.1.trans o'.1, fun j hj => by
        simp only [List.mem_cons, not_or] at hj
        rw [o2.2 j hj.2, o'.2 j (by simpa [Tg.slots] using hj.1)]⟩⟩
theorem setAll_len : ∀ {is : List Nat} {ds : List D} {env env' : EnvQ}, setAll is ds env = some env' → ds.length = is.length
  | [], [], _, _, _ => rfl
  | [], _ :: _, _, _, e => by simp [setAll] at e
  | _ :: _, [], _, _, e => by simp [setAll] at e
  | _ :: _, _ :: _, _, _, e => congrArg (· + 1) (setAll_len (by simpa [setAll] using e))
theorem mg_names {is : List Nat} {k : Nat} (hc : X.calm = true) (h : MGs X es is) (hn : (assignEach es X.env).length = is.length := by rfl) (hst : (assignEach es X.env).findIdx? (·.1) = none := by rfl) : MG X (.Tuple es k pos) (.names is) :=
  PG.weak (pg_tup hc h hn hst) fun v σ H Q ⟨F, env, S, μ, d, env', s, rv, e, q⟩ => by
    cases rv with
    | tup ht tt => exact ⟨_, _, rfl, ht.sq, by rw [tt.length]; exact setAll_len e, F, env, S, μ, _, env', s, tt, e, q⟩
    | _ => simp [Tg.set] at e
theorem ms_unp {is : List Nat} {k : Nat} (h1 : ME X cf EX e fa) (h2 : MG X (.Tuple es k p) (.names is)) (hs : swapsWithSole [.Tuple es k p] e pos.line X.env = pure false := by rfl) (hw : swappedStores [.Tuple es k p] e X.env = pure none := by rfl)
    (h3 : (assignEach [.Tuple es k p] X.env).map (·.2) = [assign (.Tuple es k p) X.env] := by rfl) : MS X cf EX (.Assign [.Tuple es k p] e pos) (sUnp is fa) := by
  refine PS.weak (ps_asg h1 h2 hs hw h3) fun D σ H ⟨env, S, μ, F, s, q⟩ => ⟨env, S, μ, F, s, (PostS.expr q).mono fun w S1 H1 μ1 s1 x1 q1 v rv => ?_⟩
  split at q1
  · cases rv with
    | d rd =>
      split at q1
      · rename_i env' e
        exact ⟨F, env, S1, μ1, _, env', s1, rd, by simpa [Tg.set] using e, fun σ' s' x' _ => q1 σ' H1 μ1 s' x'⟩
      · exact q1.elim
  · exact q1.elim

/-- J yields the items ds, as long as what stood stands -/
def IterOf (K : PySem.W.Frag) (J : It) (ds : List D) (N : Addr → Prop) (H : Hp) : Prop := ∀ N2 H2, Keep N H N2 H2 → (∀ a, N2 a → ∃ u, H2 a = some u) → ∀ i : Nat,
  (i = ds.length → J.stop i H2) ∧ ∀ d, ds[i]? = some d → J.go i H2 ∧ ∀ v H3, J.yld i H2 v H3 → Same H2 H3 ∧ Dn K H3 N2 v d
def tI (K : PySem.W.Frag) (mg : Str → Option Value) (cf : CF) (EX : WX) (f : SI) : TI := fun σ H R => ∃ env S μ F, Sim K mg F σ H env S μ ∧ Post K mg EX F σ env H μ (f cf env S) fun ds _ H' μ' => ∀ J, IterOf K J ds (NN F μ' σ env) H' → R J H'
def MI (X : Cx) (cf : CF) (EX : WX) (tg e : Expr) (f : SI) : Prop := PI X tg e (tI X.K X.mg cf EX f)
theorem PI.weak {X : Cx} {tg e : Expr} {t t' : TI} (h : PI X tg e t) (w : ∀ σ H R, t' σ H R → t σ H R) : PI X tg e t' := ⟨fun pins s σ H R I q => h.run pins s σ H R I (w σ H R q)⟩
/-- a list or a tuple -/
def iSeq (f : SE) : SI := fun cf env S => (f cf env S).bind fun w S1 => match w with
  | .d (.list xs) => .ok xs S1
  | .d (.tuple xs) => .ok xs S1
  | .scr xs => .ok (xs.map PyData.int) S1
  | _ => .stuck
theorem iter_list {a : Addr} {vs : List V} {ds : List D} {N : Addr → Prop} (hq : ∀ N2 H2, Keep N H N2 H2 → SqL K H2 a vs) (t : DnAll K H N vs ds) (inj : ∀ H2 xs, SqL K H2 a xs → SqL K H2 a vs → True) : IterOf K (Itl K a) ds N H := fun N2 H2 k tr i => by
  have t2 := t.keep k
  have q2 := hq N2 H2 k
  refine ⟨fun e => ⟨vs, q2, by rw [t.length]; exact Nat.le_of_eq e.symm⟩, fun d hd => ?_⟩
  obtain ⟨v, hv, r⟩ := t2.get hd
  refine ⟨⟨vs, v, q2, hv⟩, fun w H3 y => ?_⟩
  obtain ⟨e3, y⟩ := y
  subst e3
  have := y vs q2
  rw [hv] at this
  cases this
  exact ⟨Same.refl _, r⟩
theorem iter_tup {a : Addr} {vs : List V} {ds : List D} {N : Addr → Prop} (ht : RdT K H N a vs) (t : DnAll K H N vs ds) : IterOf K (Itt K a) ds N H := fun N2 H2 k tr i => by
  have t2 := t.keep k
  have q2 := (ht.keep k).sq
  refine ⟨fun e => ⟨vs, q2, by rw [t.length]; exact Nat.le_of_eq e.symm⟩, fun d hd => ?_⟩
  obtain ⟨v, hv, r⟩ := t2.get hd
  refine ⟨⟨vs, v, q2, hv⟩, fun w H3 y => ?_⟩
  obtain ⟨e3, y⟩ := y
  subst e3
  have := y vs q2
  rw [hv] at this
  cases this
  exact ⟨Same.refl _, r⟩
/-- either kind, told only when the value is there -/
theorem pi_seq {l : Expr} {tl : TE} (hl : PE X l tl) : PI X tg l (fun σ H R => tl σ H fun x H1 => ∃ a, x = .ref a ∧ (((∃ xs, SqL X.K H1 a xs) ∧ R (Itl X.K a) H1) ∨ ((∃ xs, SqT X.K H1 a xs) ∧ R (Itt X.K a) H1))) := by
  constructor
  intro pins s σ H R I h
  apply thn (hl.run pins s σ H _ I h)
  rintro v s1 ⟨x, H1, I1, r1, a, rfl, q⟩
  cases r1
  have fr : ∀ b, b ∈ [s1.heap.objs.size] → FpOk X pins H1 b := fun b hb => by
    rw [List.mem_singleton] at hb
    rw [hb]
    exact I1.fpOk (Nat.le_refl _) (I1.hok.fresh (Nat.le_refl _))
  rcases q with ⟨⟨xs, hq⟩, q⟩ | ⟨⟨xs, hq⟩, q⟩
  · obtain ⟨its, rv, p, hz⟩ := I1.list hq
    apply wpAny_pyIter_list p.isList
    exact ⟨_, _, _, _, H1, rfl, I1.kept (t' := s1.toks) fun b o e => Heap.get?_push_of_some _ e, turn_list a _, ⟨_, Heap.get?_push_size _ rfl, rfl, rfl⟩, fr, q⟩
  · obtain ⟨its, rv, p, hz⟩ := I1.tuple hq
    apply wpAny_pyIter_tuple (show s1.heap.IsTuple a its.toArray from p)
    exact ⟨_, _, _, _, H1, rfl, I1.kept (t' := s1.toks) fun b o e => Heap.get?_push_of_some _ e, turn_tuple a _, ⟨_, Heap.get?_push_size _ rfl, rfl, rfl⟩, fr, q⟩
theorem mi_seq (h : ME X cf EX e fa) : MI X cf EX tg e (iSeq fa) :=
  PI.weak (pi_seq h) fun σ H R ⟨env, S, μ, F, s, q⟩ => ⟨env, S, μ, F, s, (Post.bind q).mono fun w S1 H1 μ1 s1 x1 q1 v rv => by
    split at q1
    · obtain ⟨a, vs, rfl, na, h1, t1⟩ := rw_lst rv
      exact ⟨a, rfl, .inl ⟨⟨vs, SqL.of h1⟩, q1 H1 μ1 s1 (Ext.refl _ _ _ _) _ (iter_list (fun N2 H2 k => SqL.of (k a _ na h1).1) t1 fun _ _ _ _ => True.intro)⟩⟩
    · obtain ⟨a, vs, rfl, h1, t1⟩ := rw_tup rv
      exact ⟨a, rfl, .inr ⟨⟨vs, h1.sq⟩, q1 H1 μ1 s1 (Ext.refl _ _ _ _) _ (iter_tup h1 t1)⟩⟩
    · cases rv with
      | scr h1 => exact ⟨_, rfl, .inl ⟨⟨_, h1.sq⟩, q1 H1 μ1 s1 (Ext.refl _ _ _ _) _ (iter_list (fun N2 H2 k => (h1.keep k).sq) (ints_all _) fun _ _ _ _ => True.intro)⟩⟩
    · exact q1.elim⟩
/-- ranges -/
def rangeD (lo : Int) (n : Nat) : List D := (List.range n).map fun k : Nat => PyData.int (lo + k)
def inR (i : Int) : Bool := Nat.ble i.natAbs 4611686018427387903
theorem inR_iff {i : Int} (h : inR i = true) : -(2 ^ 62) ≤ i ∧ i < 2 ^ 62 := by
  have := Nat.le_of_ble_eq_true h
  omega
def iRange1 (a : SA) : SI := fun cf env S => (a cf env S).bind fun ws S1 => match ws with
  | [.d (.int j)] => if inR j then .ok (rangeD 0 j.toNat) S1 else .stuck
  | _ => .stuck
def iRange2 (a : SA) : SI := fun cf env S => (a cf env S).bind fun ws S1 => match ws with
  | [.d (.int i), .d (.int j)] => if inR i && inR j then .ok (rangeD i (j - i).toNat) S1 else .stuck
  | _ => .stuck
theorem rangeD_len (lo : Int) (n : Nat) : (rangeD lo n).length = n := by simp [rangeD]
theorem rangeD_get {lo : Int} {n i : Nat} {d : D} (h : (rangeD lo n)[i]? = some d) : i < n ∧ d = .int (lo + i) := by
  unfold rangeD at h
  rw [List.getElem?_map] at h
  cases e : (List.range n)[i]? with
  | none => rw [e] at h; cases h
  | some k =>
    rw [e] at h
    obtain ⟨h1, h2⟩ := List.getElem?_eq_some_iff.mp e
    rw [List.length_range] at h1
    rw [List.getElem_range] at h2
    subst h2
    exact ⟨h1, (Option.some.inj h).symm⟩
theorem iter_range {lo : Int} {n : Nat} {N : Addr → Prop} : IterOf K (Itr lo n) (rangeD lo n) N H := fun N2 H2 k tr i => by
  refine ⟨fun e => by rw [rangeD_len] at e; exact Nat.le_of_eq e.symm, fun d hd => ?_⟩
  obtain ⟨h1, rfl⟩ := rangeD_get hd
  refine ⟨h1, fun v H3 y => ?_⟩
  obtain ⟨e3, rfl⟩ := y
  subst e3
  exact ⟨Same.refl _, .int _⟩
theorem mi_range1 {a : Expr} {q : Pos} (hg : Gl X "range") (hm : X.mg "range" = none) (h : MA X cf EX [a] ha) (hs : starEach [a] X.env = [(false, eval a X.env)] := by rfl) : MI X cf EX tg (.Call (.Name "range" q) [a] [] pos) (iRange1 ha) :=
  PI.weak (pi_range1 hg hm h hs) fun σ H R ⟨env, S, μ, F, s, q⟩ => ⟨env, S, μ, F, s, (Post.bind q).mono fun w S1 H1 μ1 s1 x1 q1 v rv => by
    split at q1
    · obtain ⟨v1, rfl, r1⟩ := rws1 rv
      rw [rw_int r1]
      split at q1
      · rename_i hr
        have hr := inR_iff hr
        exact ⟨_, rfl, hr.1, hr.2, q1 H1 μ1 s1 (Ext.refl _ _ _ _) _ iter_range⟩
      · exact q1.elim
    · exact q1.elim⟩
theorem Sim.trk (s : Sim K mg F σ H env S μ) : ∀ a, NN F μ σ env a → ∃ u, H a = some u := fun _ n => s.tracked n
theorem ms_for {t : Tg} {it : SI} (hp : PassesOwn (model X.prog X.w) X.A X.env X.xe) (hc : X.calm = true) (hi : MI X cf EX tg e it) (hg : MG X tg t) (hb : MSs X cf EX body f) (hs : ∀ x, foldedSetIterable e X.env x = pure x := by intro _; rfl) :
    MS X cf EX (.For tg e body [] pos) (sFor t it f) := by
  refine PS.weak (ps_for hp hc hi hg hb hs) fun D σ H ⟨env, S, μ, F, s, q⟩ => ⟨env, S, μ, F, s, (PostS.expr q).mono fun ds S1 H1 μ1 s1 x1 q1 J hJ => ?_⟩
  refine ⟨fun i m σ' H' => i + m = ds.length ∧ ∃ env' S' μ', Sim X.K X.mg F σ' H' env' S' μ' ∧ ExS σ env H1 μ1 σ' env' H' μ' ∧ PostS X.K X.mg EX F σ' env' H' μ' (forL t (f cf) (ds.drop i) env' S') D, ⟨ds.length, by omega, env, S1, μ1, s1, ExS.refl _ _ _ _, by simpa using q1⟩, ?_⟩
  rintro i m σ' H' ⟨hm, env', S', μ', s', x', q'⟩
  obtain ⟨hstop, hgo⟩ := hJ _ H' (x'.nn F) s'.trk i
  by_cases hi : i = ds.length
  · refine .inl ⟨hstop hi, ?_⟩
    rw [hi, List.drop_length] at q'
    exact q' σ' H' μ' s' (ExS.refl _ _ _ _)
  · have hlt : i < ds.length := by omega
    have e : ds[i]? = some ds[i] := by simp [hlt]
    obtain ⟨go, y⟩ := hgo _ e
    refine .inr ⟨go, fun σ2 H2 => (i + 1) + (m - 1) = ds.length ∧ ∃ env' S' μ', Sim X.K X.mg F σ2 H2 env' S' μ' ∧ ExS σ env H1 μ1 σ2 env' H2 μ' ∧ PostS X.K X.mg EX F σ2 env' H2 μ' (forL t (f cf) (ds.drop (i + 1)) env' S') D, fun σ2 H2 h => ⟨m - 1, by omega, h⟩, fun v H3 yv => ?_⟩
    obtain ⟨sm, rv⟩ := y v H3 yv
    have s3 := s'.same sm
    have x3 : ExS σ' env' H' μ' σ' env' H3 μ' := (Ext.same sm).s
    rw [List.drop_eq_getElem_cons hlt] at q'
    unfold forL at q'
    split at q'
    · exact q'.elim
    · rename_i env1 e1
      refine ⟨F, env', S', μ', _, env1, s3, rv, e1, fun σ4 s4 x4 _ => ⟨env1, S', μ', F, s4, ?_⟩⟩
      have xx := x3.trans x4
      have q2 := PostS.ext q' xx
      cases r : f cf env1 S' with
      | next e2 S2 =>
        simp only [r] at q2
        exact fun σ5 H5 μ5 s5 x5 => ⟨by omega, e2, S2, μ5, s5, x'.trans (xx.trans x5), PostS.ext q2 x5⟩
      | cont e2 S2 =>
        simp only [r] at q2
        exact fun σ5 H5 μ5 s5 x5 => ⟨by omega, e2, S2, μ5, s5, x'.trans (xx.trans x5), PostS.ext q2 x5⟩
      | brk e2 S2 =>
        simp only [r] at q2
        exact fun σ5 H5 μ5 s5 x5 => q2 σ5 H5 μ5 s5 x5
      | ret w S2 =>
        simp only [r] at q2
        exact q2
      | exc cc e2 S2 =>
        simp only [r] at q2
        exact q2
      | stuck =>
        simp only [r] at q2
        exact q2
def wipeE (env : EnvQ) : List Nat → EnvQ
  | [] => env
  | v :: vs => (wipeE env vs).set v none
def notOwn (env : EnvQ) (i : Nat) : Bool := match env[i]? with
  | some (some w) => w.plain
  | _ => true
def R.calm {α : Type} : R α → R α
  | .exc _ _ => .stuck
  | r => r
def compL (t : Tg) (c : EnvQ → Sto → R Bool) (f : EnvQ → Sto → R W) (env : EnvQ) : List D → Sto → R (List D)
  | [], S => .ok [] S
  | d :: ds, S => match t.set d env with
    | none => .stuck
    | some env1 => (c env1 S).calm.bind fun b S1 => if b = true then (f env1 S1).calm.bind fun w S2 => (match w with
        | .d x => (compL t c f env ds S2).bind fun xs S3 => .ok (x :: xs) S3
        | _ => .stuck) else compL t c f env ds S1
def fComp (vs : List Nat) (t : Tg) (it : SI) (c : ST) (f : SE) : SE := fun cf env S => if vs.all (notOwn env) then (it cf env S).bind fun ds S1 => (compL t (c cf) (f cf) (wipeE env vs) ds S1).bind fun xs S2 => if xs.length ≤ LIM then .ok (.d (.list xs)) S2 else .stuck else .stuck
theorem wipeE_get {env : EnvQ} {i : Nat} {w : W} : ∀ {vs : List Nat}, (wipeE env vs)[i]? = some (some w) → i ∉ vs ∧ env[i]? = some (some w)
  | [], h => ⟨by simp, h⟩
  | v :: vs, h => by
    rcases set_get (show ((wipeE env vs).set v none)[i]? = some (some w) from h) with ⟨_, e⟩ | ⟨n, e⟩
    · cases e
    · obtain ⟨h1, h2⟩ := wipeE_get e
      exact ⟨by simp only [List.mem_cons, not_or]; exact ⟨n, h1⟩, h2⟩
theorem wipeE_out {env : EnvQ} {i : Nat} : ∀ {vs : List Nat}, i ∉ vs → (wipeE env vs)[i]? = env[i]?
  | [], _ => rfl
  | v :: vs, h => by
    simp only [List.mem_cons, not_or] at h
    show ((wipeE env vs).set v none)[i]? = _
    rw [List.getElem?_set_ne (Ne.symm h.1)]
    exact wipeE_out h.2
theorem wipeE_len (env : EnvQ) : ∀ vs : List Nat, (wipeE env vs).length = env.length
  | [] => rfl
  | v :: vs => by
    show ((wipeE env vs).set v none).length = _
    rw [List.length_set]
    exact wipeE_len env vs
theorem wipe_out' {σ : L2.St} {i : Nat} {vs : List Nat} (h : i ∉ vs) : (wipe σ vs)[i]? = σ[i]? := wipe_out h
theorem wipe_own {vs : List Nat} (no : ∀ i ∈ vs, notOwn env i = true) (i : Nat) (a : Addr) : OwnAt (wipe σ vs) (wipeE env vs) i a ↔ OwnAt σ env i a := by
  constructor
  · rintro ⟨h1, w, h2, h3⟩
    obtain ⟨n, e⟩ := wipeE_get h2
    rw [wipe_out' n] at h1
    exact ⟨h1, w, e, h3⟩
  · rintro ⟨h1, w, h2, h3⟩
    have n : i ∉ vs := fun m => by
      have z := no i m
      unfold notOwn at z
      rw [h2] at z
      simp only at z
      rw [fine_own h3] at z
      cases z
    exact ⟨by rw [wipe_out' n]; exact h1, w, by rw [wipeE_out n]; exact h2, h3⟩
theorem wipe_mm {vs : List Nat} (no : ∀ i ∈ vs, notOwn env i = true) (μ : List Addr) : MM μ (wipe σ vs) (wipeE env vs) = MM μ σ env := by
  funext a
  apply propext
  exact ⟨fun h => h.elim .inl fun ⟨i, h⟩ => .inr ⟨i, (wipe_own no i a).mp h⟩, fun h => h.elim .inl fun ⟨i, h⟩ => .inr ⟨i, (wipe_own no i a).mpr h⟩⟩
theorem wipe_nn {vs : List Nat} (no : ∀ i ∈ vs, notOwn env i = true) (F : Addr → Prop) (μ : List Addr) : NN F μ (wipe σ vs) (wipeE env vs) = NN F μ σ env := by
  unfold NN
  rw [wipe_mm no]
/-- into the block: the new list at p is nobody's -/
theorem Sim.block (s : Sim K mg F σ H env S μ) {vs : List Nat} (no : ∀ i ∈ vs, notOwn env i = true) {p : Addr} {o : HO} (n : H p = none) : Sim K mg (fun a => a = p ∨ F a) (wipe σ vs) (upd H p o) (wipeE env vs) S μ := by
  have kp : Keep (NN F μ σ env) H (NN (fun a => a = p ∨ F a) μ σ env) (upd H p o) := fun a u na e => by
    have ne : a ≠ p := ne_of_none e n
    exact ⟨by rw [upd_ne ne]; exact e, fun h => h.elim (fun h => na (.inl h)) fun h => h.elim ne fun h => na (.inr h)⟩
  have nn : NN (fun a => a = p ∨ F a) μ (wipe σ vs) (wipeE env vs) = NN (fun a => a = p ∨ F a) μ σ env := wipe_nn no _ _
  refine ⟨by rw [wipe_length, wipeE_len]; exact s.len, fun i w e => ?_, fun i w e => ?_, fun i j a h1 h2 => s.inj i j a ((wipe_own no i a).mp h1) ((wipe_own no j a).mp h2), fun i a h => s.apart i a ((wipe_own no i a).mp h), ⟨s.st.len, s.st.nd, fun k ob e => ?_⟩, fun a f => ?_, fun a f h => ?_⟩
  · obtain ⟨ni, e⟩ := wipeE_get e
    obtain ⟨v, hv, r⟩ := s.slot i w e
    refine ⟨v, by rw [wipe_out' ni]; exact hv, ?_⟩
    rw [nn]
    by_cases po : w.isOwn = true
    · obtain ⟨a, ob, rfl, hb, tb⟩ := own_or_plain r po
      exact (tb.keep kp).rw (by rw [upd_ne (ne_of_none hb n)]; exact hb)
    · have pl : w.plain = true := by
        have fi := s.fin i w e
        unfold W.fine at fi
        simpa [po] using fi
      exact RW.keep kp (List.prefix_refl _) r pl
  · exact s.fin i w (wipeE_get e).2
  · obtain ⟨b, hb, r⟩ := s.st.obj k ob e
    refine ⟨b, hb, ?_⟩
    rw [nn]
    cases r with
    | lst h t' => exact .lst (by rw [upd_ne (ne_of_none h n)]; exact h) (t'.keep kp)
    | ins g h m t' pl => exact .ins g (by rw [upd_ne (ne_of_none h n)]; exact h) m (RWs.keep kp (List.prefix_refl _) t' pl) pl
    | dct h t' => exact .dct (by rw [upd_ne (ne_of_none h n)]; exact h) fun e he => (t' e he).keep kp
    | dcm h t' => exact .dcm (by rw [upd_ne (ne_of_none h n)]; exact h) (t'.keep kp)
    | tab h0 t' => exact .tab h0 (t'.keep (fun h => by rw [upd_ne (ne_of_none h n)]; exact h) kp)
  · rcases f with rfl | f
    · exact ⟨_, upd_same⟩
    · obtain ⟨u, hu⟩ := s.ftr a f
      exact ⟨u, by rw [upd_ne (ne_of_none hu n)]; exact hu⟩
  · rw [wipe_mm no] at h
    rcases f with rfl | f
    · exact s.fresh n (.inl h)
    · exact s.fdis a f h
/-- out of the block -/
theorem Sim.unblock (s : Sim K mg F σ H env S μ) {vs : List Nat} (no : ∀ i ∈ vs, notOwn env i = true) {p : Addr} (s' : Sim K mg (fun a => a = p ∨ F a) (wipe σ vs) H' (wipeE env vs) S' μ') (ex : Ext σ env H μ H' μ') : Sim K mg F σ H' env S' μ' := by
  have nn : NN (fun a => a = p ∨ F a) μ' (wipe σ vs) (wipeE env vs) = NN (fun a => a = p ∨ F a) μ' σ env := wipe_nn no _ _
  have sub : ∀ a, NN F μ' σ env a → NN (fun a => a = p ∨ F a) μ' (wipe σ vs) (wipeE env vs) a := fun a h => by
    rw [nn]
    exact h.elim .inl fun h => .inr (.inr h)
  refine ⟨s.len, fun i w e => ?_, s.fin, s.inj, fun i a h => s'.apart i a ((wipe_own no i a).mpr h), s'.st.sub sub, fun a f => s'.ftr a (.inr f), fun a f h => s'.fdis a (.inr f) (by rw [wipe_mm no]; exact h)⟩
  by_cases m : i ∈ vs
  · obtain ⟨v, hv, r⟩ := s.slot i w e
    have z := no i m
    unfold notOwn at z
    rw [e] at z
    exact ⟨v, hv, RW.keep (ex.nn F) ex.pre r z⟩
  · obtain ⟨v, hv, r⟩ := s'.slot i w (by rw [wipeE_out m]; exact e)
    rw [wipe_out' m] at hv
    exact ⟨v, hv, RW.sub sub r⟩
/-- what is the callers' may turn -/
theorem Sim.updF (s : Sim K mg F σ H env S μ) {p : Addr} {o : HO} (f : F p) : Sim K mg F σ (upd H p o) env S μ ∧ Keep (NN F μ σ env) H (NN F μ σ env) (upd H p o) := by
  have np : ¬ MM μ σ env p := s.fdis p f
  have kp : Keep (NN F μ σ env) H (NN F μ σ env) (upd H p o) := fun a u na e => by
    have ne : a ≠ p := fun z => na (z ▸ .inr f)
    exact ⟨by rw [upd_ne ne]; exact e, na⟩
  refine ⟨⟨s.len, fun i w e => ?_, s.fin, s.inj, s.apart, ⟨s.st.len, s.st.nd, fun k ob e => ?_⟩, fun a h => ?_, s.fdis⟩, kp⟩
  · obtain ⟨v, hv, r⟩ := s.slot i w e
    refine ⟨v, hv, ?_⟩
    by_cases po : w.isOwn = true
    · obtain ⟨a, ob, rfl, hb, tb⟩ := own_or_plain r po
      have ne : a ≠ p := fun z => np (z ▸ .inr ⟨i, hv, _, e, po⟩)
      exact (tb.keep kp).rw (by rw [upd_ne ne]; exact hb)
    · have pl : w.plain = true := by
        have fi := s.fin i w e
        unfold W.fine at fi
        simpa [po] using fi
      exact RW.keep kp (List.prefix_refl _) r pl
  · obtain ⟨b, hb, r⟩ := s.st.obj k ob e
    have ne : b ≠ p := fun z => np (z ▸ .inl (List.mem_of_getElem? hb))
    refine ⟨b, hb, ?_⟩
    cases r with
    | lst h t' => exact .lst (by rw [upd_ne ne]; exact h) (t'.keep kp)
    | ins g h m t' pl => exact .ins g (by rw [upd_ne ne]; exact h) m (RWs.keep kp (List.prefix_refl _) t' pl) pl
    | dct h t' => exact .dct (by rw [upd_ne ne]; exact h) fun e he => (t' e he).keep kp
    | dcm h t' => exact .dcm (by rw [upd_ne ne]; exact h) (t'.keep kp)
    | tab h0 t' => exact .tab h0 (t'.keep (fun h => by rw [upd_ne ne]; exact h) kp)
  · by_cases z : a = p
    · subst z
      exact ⟨_, upd_same⟩
    · obtain ⟨u, hu⟩ := s.ftr a h
      exact ⟨u, by rw [upd_ne z]; exact hu⟩
theorem Post.calm {α : Type} {r : R α} {P : α → Sto → Hp → List Addr → Prop} {EX EX' : WX} (h : Post K mg EX F σ env H μ r.calm P) : Post K mg EX' F σ env H μ r P := by
  cases r with
  | ok a S' => exact h
  | exc c S' => exact h.elim
  | stuck => exact h
theorem setAll_wipe : ∀ {is : List Nat} {ds : List D} {env env' : EnvQ}, setAll is ds env = some env' → env'.length = env.length ∧ ∀ j, j ∉ is → env'[j]? = env[j]?
  | [], [], env, env', e => by
    simp only [setAll, Option.some.injEq] at e
    subst e
    exact ⟨rfl, fun _ _ => rfl⟩
  | [], _ :: _, _, _, e => by simp [setAll] at e
  | _ :: _, [], _, _, e => by simp [setAll] at e
  | i :: is, d :: ds, env, env', e => by
    simp only [setAll] at e
    obtain ⟨h1, h2⟩ := setAll_wipe e
    refine ⟨by simpa using h1, fun j hj => ?_⟩
    simp only [List.mem_cons, not_or] at hj
    rw [h2 j hj.2, List.getElem?_set_ne (Ne.symm hj.1)]
theorem wipe_get (σ : L2.St) (j : Nat) : ∀ vs : List Nat, (wipe σ vs)[j]? = if j ∈ vs ∧ j < σ.length then some none else σ[j]?
  | [] => by simp [wipe]
  | v :: vs => by
    have ih := wipe_get σ j vs
    have hl : (wipe σ vs).length = σ.length := wipe_length σ vs
    show ((wipe σ vs).set v none)[j]? = _
    by_cases e : j = v
    · subst e
      by_cases h : j < σ.length
      · rw [List.getElem?_set_self (by rw [hl]; exact h), if_pos ⟨by simp, h⟩]
      · rw [List.getElem?_eq_none (by simpa [hl] using h), if_neg (fun z => h z.2), List.getElem?_eq_none (by simpa using h)]
    · rw [List.getElem?_set_ne (Ne.symm e), ih]
      simp [e]
theorem wipe_only {σ σ2 : L2.St} {is vs : List Nat} (hs : ∀ i ∈ is, i ∈ vs) (o : Only1 is (wipe σ vs) σ2) : wipe σ2 vs = wipe σ vs := by
  apply List.ext_getElem?
  intro j
  have hl : σ2.length = σ.length := by rw [o.1, wipe_length]
  rw [wipe_get σ2, wipe_get σ, hl]
  by_cases h : j ∈ vs ∧ j < σ.length
  · rw [if_pos h, if_pos h]
  · rw [if_neg h, if_neg h]
    by_cases m : j ∈ vs
    · have hj : ¬ j < σ.length := fun z => h ⟨m, z⟩
      rw [List.getElem?_eq_none (by omega), List.getElem?_eq_none (by omega)]
    · rw [o.2 j (fun z => m (hs j z)), wipe_get σ, if_neg (fun z => m z.1)]
/-- tests of a comprehension: none, one -/
def MTs (X : Cx) (cf : CF) (EX : WX) (es : List Expr) (f : ST) : Prop := PTs X es (tT X.K X.mg cf EX f)
def cYes : ST := fun _ _ S => .ok true S
theorem PTs.weak {X : Cx} {es : List Expr} {t t' : TT} (h : PTs X es t) (w : ∀ σ H Q, t' σ H Q → t σ H Q) : PTs X es t' := ⟨fun pins s σ H Q I q => h.run pins s σ H Q I (w σ H Q q)⟩
theorem mts_nil : MTs X cf EX [] cYes := PTs.weak pts_nil fun σ H Q ⟨env, S, μ, F, s, q⟩ => q H μ s (Ext.refl _ _ _ _)
abbrev EX0 : WX := fun _ _ _ _ => False
theorem compL_calm (t : Tg) (c : EnvQ → Sto → R Bool) (f : EnvQ → Sto → R W) (env : EnvQ) : ∀ (ds : List D) (S : Sto), (∃ xs S', compL t c f env ds S = .ok xs S') ∨ compL t c f env ds S = .stuck
  | [], S => .inl ⟨[], S, rfl⟩
  | d :: ds, S => by
    unfold compL
    split
    · exact .inr rfl
    · rename_i env1 e1
      cases c env1 S with
      | exc _ _ => exact .inr rfl
      | stuck => exact .inr rfl
      | ok b S1 =>
        cases b with
        | false =>
          simp only [R.calm, R.bind_ok, Bool.false_eq_true, if_false]
          exact compL_calm t c f env ds S1
        | true =>
          simp only [R.calm, R.bind_ok, if_true]
          cases f env1 S1 with
          | exc _ _ => exact .inr rfl
          | stuck => exact .inr rfl
          | ok w S2 =>
            simp only [R.bind_ok]
            split
            · rcases compL_calm t c f env ds S2 with ⟨xs, S', e⟩ | e
              · rw [e]
                exact .inl ⟨_, _, rfl⟩
              · rw [e]
                exact .inr rfl
            · exact .inr rfl
/-- the target's names are forgotten -/
theorem set_eq {t : Tg} {d : D} {env0 env1 : EnvQ} (e : t.set d env0 = some env1) : env1.length = env0.length ∧ (∀ j, j ∉ t.slots → env1[j]? = env0[j]?) ∧ ∀ j w, j ∈ t.slots → env1[j]? = some (some w) → w.isOwn = false := by
  have aux : ∀ (is : List Nat) (ds : List D) (env env' : EnvQ), setAll is ds env = some env' → ∀ j w, j ∈ is → env'[j]? = some (some w) → w.isOwn = false := by
    intro is
    induction is with
    | nil => intro ds env env' _ j w hj; cases hj
    | cons i is ih =>
      intro ds env env' e j w hj hw
      cases ds with
      | nil => simp [setAll] at e
      | cons d ds =>
        simp only [setAll] at e
        by_cases m : j ∈ is
        · exact ih ds _ env' e j w m hw
        · have z : j = i := by
            rcases List.mem_cons.mp hj with z | z
            · exact z
            · exact absurd z m
          subst z
          rw [(setAll_wipe e).2 j m] at hw
          rcases set_get hw with ⟨_, y⟩ | ⟨n, _⟩
          · cases y
            rfl
          · exact absurd rfl n
  cases t with
  | name i =>
    simp only [Tg.set, Option.some.injEq] at e
    subst e
    refine ⟨by simp, fun j hj => by rw [List.getElem?_set_ne (fun z => hj (by simp [Tg.slots, z]))], fun j w hj hw => ?_⟩
    rcases set_get hw with ⟨_, y⟩ | ⟨n, _⟩
    · cases y
      rfl
    · exact absurd (by simpa [Tg.slots] using hj) n
  | names is =>
    cases d with
    | tuple ds =>
      have e : setAll is ds env0 = some env1 := by simpa [Tg.set] using e
      exact ⟨(setAll_wipe e).1, fun j hj => (setAll_wipe e).2 j hj, aux is ds env0 env1 e⟩
    | _ => simp [Tg.set] at e
theorem Sim.turn {t : Tg} {d : D} {vs : List Nat} {env1 : EnvQ} {σ4 : L2.St} (hsl : ∀ i ∈ t.slots, i ∈ vs) (e : t.set d (wipeE env vs) = some env1) (hlen : σ.length = env.length) (o : Only1 t.slots (wipe σ vs) σ4) :
    (∀ μ, MM μ σ4 env1 = MM μ (wipe σ vs) (wipeE env vs)) ∧ ∀ {F : Addr → Prop} {H : Hp} {S : Sto} {μ : List Addr}, Sim K mg F σ4 H env1 S μ → Sim K mg F (wipe σ vs) H (wipeE env vs) S μ := by
  obtain ⟨h1, h2, h3⟩ := set_eq e
  have iff : ∀ i a, OwnAt σ4 env1 i a ↔ OwnAt (wipe σ vs) (wipeE env vs) i a := fun i a => by
    by_cases m : i ∈ t.slots
    · constructor
      · rintro ⟨_, w, y, z⟩
        rw [h3 i w m y] at z
        cases z
      · rintro ⟨_, w, y, z⟩
        exact absurd (hsl i m) (wipeE_get y).1
    · constructor
      · rintro ⟨y, w, z, q⟩
        exact ⟨by rw [← o.2 i m]; exact y, w, by rw [← h2 i m]; exact z, q⟩
      · rintro ⟨y, w, z, q⟩
        exact ⟨by rw [o.2 i m]; exact y, w, by rw [h2 i m]; exact z, q⟩
  have mm : ∀ μ, MM μ σ4 env1 = MM μ (wipe σ vs) (wipeE env vs) := fun μ => by
    funext a
    apply propext
    exact ⟨fun h => h.elim .inl fun ⟨i, h⟩ => .inr ⟨i, (iff i a).mp h⟩, fun h => h.elim .inl fun ⟨i, h⟩ => .inr ⟨i, (iff i a).mpr h⟩⟩
  refine ⟨mm, fun {F H S μ} s => ?_⟩
  have nn : NN F μ σ4 env1 = NN F μ (wipe σ vs) (wipeE env vs) := by
    unfold NN
    rw [mm]
  refine ⟨by rw [wipe_length, wipeE_len]; exact hlen, fun i w y => ?_, fun i w y => ?_, fun i j a y z => s.inj i j a ((iff i a).mpr y) ((iff j a).mpr z), fun i a y => s.apart i a ((iff i a).mpr y), by rw [← nn]; exact s.st, s.ftr, fun a f y => s.fdis a f (by rw [mm]; exact y)⟩
  · have m : i ∉ t.slots := fun m => (wipeE_get y).1 (hsl i m)
    obtain ⟨v, hv, r⟩ := s.slot i w (by rw [h2 i m]; exact y)
    rw [o.2 i m] at hv
    exact ⟨v, hv, by rw [← nn]; exact r⟩
  · have m : i ∉ t.slots := fun m => (wipeE_get y).1 (hsl i m)
    exact s.fin i w (by rw [h2 i m]; exact y)
/-- the reading of a comprehension -/
theorem comp_read {t : Tg} {it : SI} {cc : ST} {ff : SE} {vs : List Nat} (hsl : ∀ i ∈ t.slots, i ∈ vs)
    (σ : L2.St) (H : Hp) (Q : VK) (q : tE X.K X.mg cf EX (fComp vs t it cc ff) σ H Q) : tLc (tI X.K X.mg cf EX it) (tG X.K X.mg t) (tT X.K X.mg cf EX0 cc) (tE X.K X.mg cf EX0 ff) vs σ H Q := by
  obtain ⟨env, S, μ, F, s, q⟩ := q
  unfold fComp at q
  split at q
  · rename_i no
    have no : ∀ i ∈ vs, notOwn env i = true := fun i hi => List.all_eq_true.mp no i hi
    refine ⟨env, S, μ, F, s, (Post.bind q).mono fun ds S1 H1 μ1 s1 x1 q1 J hJ D nD => ?_⟩
    have fD : ¬ F D := fun h => by
      obtain ⟨u, hu⟩ := s1.ftr D h
      rw [nD] at hu
      cases hu
    refine ⟨fun i m H' => i + m = ds.length ∧ ∃ S' μ' ys zs, Sim X.K X.mg (fun a => a = D ∨ F a) (wipe σ vs) H' (wipeE env vs) S' μ' ∧ Ext σ env H1 μ1 H' μ' ∧ H' D = some (.lst ys) ∧ DnAll X.K H' (NN (fun a => a = D ∨ F a) μ' σ env) ys zs ∧
      Post X.K X.mg EX F σ env H1 μ1 ((compL t (cc cf) (ff cf) (wipeE env vs) (ds.drop i) S').bind fun xs S2 => if (zs ++ xs).length ≤ LIM then .ok (.d (.list (zs ++ xs))) S2 else .stuck) (fun w _ H' μ' => ∀ v, RW X.K X.mg H' (NN F μ' σ env) μ' v w → Q v H'), ⟨ds.length, by omega, S1, μ1, [], [], s1.block no nD, ext_new nD, upd_same, .nil, by simpa using q1⟩, ?_⟩
    rintro i m H' ⟨hm, S', μ', ys, zs, s', x0, hD, tz, q'⟩
    have s0 := s1.unblock no s' x0
    have kN : Keep (NN F μ1 σ env) H1 (NN (fun a => a = D ∨ F a) μ' (wipe σ vs) (wipeE env vs)) H' := fun a o na e => by
      obtain ⟨e', n'⟩ := x0.nn F a o na e
      refine ⟨e', fun h => ?_⟩
      rw [wipe_nn no] at h
      rcases h with h | h | h
      · exact n' (.inl h)
      · exact ne_of_none e nD h
      · exact n' (.inr h)
    obtain ⟨hstop, hgo⟩ := hJ _ H' kN s'.trk i
    have nDN : ∀ {H2 S2 μ2}, Sim X.K X.mg (fun a => a = D ∨ F a) (wipe σ vs) H2 (wipeE env vs) S2 μ2 → ¬ NN F μ2 σ env D := fun s2 h => h.elim (fun h => s2.fdis D (.inl rfl) (by rw [wipe_mm no]; exact h)) fD
    by_cases hi : i = ds.length
    · refine .inl ⟨hstop hi, ?_⟩
      rw [hi, List.drop_length] at q'
      simp only [compL, R.bind_ok, List.append_nil] at q'
      split at q'
      · exact q' H' μ' s0 x0 _ (.d (.lst ⟨nDN s', hD⟩ (tz.keep (Keep.sub fun a h => h.elim .inl fun h => .inr (.inr h)))))
      · exact q'.elim
    · have hlt : i < ds.length := by omega
      have e : ds[i]? = some ds[i] := by simp [hlt]
      obtain ⟨go, y⟩ := hgo _ e
      refine .inr ⟨go, fun H2 => (i + 1) + (m - 1) = ds.length ∧ ∃ S' μ' ys zs, Sim X.K X.mg (fun a => a = D ∨ F a) (wipe σ vs) H2 (wipeE env vs) S' μ' ∧ Ext σ env H1 μ1 H2 μ' ∧ H2 D = some (.lst ys) ∧ DnAll X.K H2 (NN (fun a => a = D ∨ F a) μ' σ env) ys zs ∧
        Post X.K X.mg EX F σ env H1 μ1 ((compL t (cc cf) (ff cf) (wipeE env vs) (ds.drop (i + 1)) S').bind fun xs S2 => if (zs ++ xs).length ≤ LIM then .ok (.d (.list (zs ++ xs))) S2 else .stuck) (fun w _ H' μ' => ∀ v, RW X.K X.mg H' (NN F μ' σ env) μ' v w → Q v H'), fun H2 h => ⟨m - 1, by omega, h⟩, fun v H3 yv => ?_⟩
      obtain ⟨sm, rv⟩ := y v H3 yv
      have s3 := s'.same sm
      have x3 : Ext σ env H1 μ1 H3 μ' := x0.trans (Ext.same sm)
      have hD3 : H3 D = some (.lst ys) := sm _ _ hD
      have tz3 : DnAll X.K H3 (NN (fun a => a = D ∨ F a) μ' σ env) ys zs := tz.keep fun a o n e => ⟨sm a o e, n⟩
      rw [List.drop_eq_getElem_cons hlt] at q'
      unfold compL at q'
      split at q'
      · exact q'.elim
      · rename_i env1 e1
        refine ⟨_, _, S', μ', _, env1, s3, rv, e1, fun σ4 s4 x4 o4 => ⟨wipe_only hsl o4, env1, S', μ', _, s4, ?_⟩⟩
        obtain ⟨mm, back⟩ := Sim.turn (K := X.K) (mg := X.mg) hsl e1 s.len o4
        -- what a step within the turn keeps
        have step : ∀ {Ha Hb : Hp} {μa μb : List Addr}, Ext σ4 env1 Ha μa Hb μb → Ext σ env Ha μa Hb μb := fun x => by
          have k := x.keep
          rw [mm, mm, wipe_mm no, wipe_mm no] at k
          exact ⟨k, x.pre⟩
        have atD : ∀ {Ha Hb : Hp} {μa μb : List Addr} {Sa : Sto} {u : HO}, Sim X.K X.mg (fun a => a = D ∨ F a) (wipe σ vs) Ha (wipeE env vs) Sa μa → Ext σ4 env1 Ha μa Hb μb → Ha D = some u → Hb D = some u := fun sa x h => by
          have k := x.keep
          rw [mm, mm] at k
          exact (k D _ (sa.fdis D (.inl rfl)) h).1
        cases r : cc cf env1 S' with
        | stuck =>
          rw [r] at q'
          exact q'.elim
        | exc c0 S5 =>
          rw [r] at q'
          exact q'.elim
        | ok b S5 =>
          rw [r] at q'
          intro H5 μ5 s5 x5
          have w5 := back s5
          have xx5 := x3.trans (step x5)
          have hD5 := atD s3 x5 hD3
          have tz5 := tz3.keep ((step x5).nn _)
          cases b with
          | false =>
            simp only [R.calm, R.bind_ok, Bool.false_eq_true, if_false] at q' ⊢
            exact ⟨by omega, S5, μ5, ys, zs, w5, xx5, hD5, tz5, q'⟩
          | true =>
            simp only [R.calm, R.bind_ok, if_true] at q' ⊢
            refine ⟨env1, S5, μ5, _, s5, ?_⟩
            cases r2 : ff cf env1 S5 with
            | stuck =>
              rw [r2] at q'
              exact q'.elim
            | exc c0 S6 =>
              rw [r2] at q'
              exact q'.elim
            | ok w S6 =>
              rw [r2] at q'
              intro H6 μ6 s6 x6 v2 rv2
              have w6 := back s6
              have xx6 := xx5.trans (step x6)
              have hD6 := atD w5 x6 hD5
              have tz6 := tz5.keep ((step x6).nn _)
              simp only [R.bind_ok] at q'
              split at q'
              · rename_i z
                have rz : Dn X.K H6 (NN (fun a => a = D ∨ F a) μ6 σ env) v2 z := by
                  cases rv2 with
                  | d h =>
                    refine h.keep (Keep.sub fun a ha => ?_)
                    have : NN (fun a => a = D ∨ F a) μ6 σ4 env1 = NN (fun a => a = D ∨ F a) μ6 σ env := by
                      unfold NN
                      rw [mm, wipe_mm no]
                    rw [this]
                    exact ha
                have hz : zs.length < LIM ∧ Post X.K X.mg EX F σ env H1 μ1 ((compL t (cc cf) (ff cf) (wipeE env vs) (ds.drop (i + 1)) S6).bind fun xs S2 => if ((zs ++ [z]) ++ xs).length ≤ LIM then .ok (.d (.list ((zs ++ [z]) ++ xs))) S2 else .stuck) (fun w _ H' μ' => ∀ v, RW X.K X.mg H' (NN F μ' σ env) μ' v w → Q v H') := by
                  rcases compL_calm t (cc cf) (ff cf) (wipeE env vs) (ds.drop (i + 1)) S6 with ⟨xs, S7, e7⟩ | e7
                  · rw [e7] at q' ⊢
                    simp only [R.bind_ok, List.append_assoc, List.singleton_append] at q' ⊢
                    split at q'
                    · rename_i hz
                      refine ⟨?_, ?_⟩
                      · rw [List.length_append, List.length_cons] at hz
                        omega
                      · rw [if_pos hz]
                        exact q'
                    · exact q'.elim
                  · rw [e7] at q'
                    exact q'.elim
                refine ⟨ys, hD6, by rw [← lim_line, tz6.length]; exact hz.1, by omega, S6, μ6, ys ++ [v2], zs ++ [z], (w6.updF (.inl rfl)).1, ⟨fun a o na e => ?_, xx6.pre⟩, upd_same, ?_, hz.2⟩
                · obtain ⟨e', n'⟩ := xx6.keep a o na e
                  exact ⟨by rw [upd_ne (ne_of_none e nD)]; exact e', n'⟩
                · refine (tz6.append (.cons rz .nil)).keep fun a o na e => ⟨?_, na⟩
                  rw [upd_ne (fun z => na (.inr (.inl z)))]
                  exact e
              · exact q'.elim
  · exact q.elim
theorem me_comp {t : Tg} {it : SI} {gcc : ST} {ff : SE} {elt iter : Expr} {ifs : List Expr} {scope : Scope} {own : List (Str × Nat)} (hc : X.calm = true) (hN : X.N.Nodup) (hi : MI X cf EX tg iter it) (ok : BlkOk X.N X.env.scope scope own)
    (hsl : ∀ i ∈ t.slots, i ∈ own.map (·.2))
    (hg : ∀ (s : Shared) (H : Hp) (C : Addr) (cl : List (Str × Addr)) (fp : List Addr), MG (X.blk s H scope (compEnvC scope cl C X.env) fp) tg t) (ht : ∀ (s : Shared) (H : Hp) (C : Addr) (cl : List (Str × Addr)) (fp : List Addr), MTs (X.blk s H scope (compEnvC scope cl C X.env) fp) cf EX0 ifs gcc)
    (he : ∀ (s : Shared) (H : Hp) (C : Addr) (cl : List (Str × Addr)) (fp : List Addr), ME (X.blk s H scope (compEnvC scope cl C X.env) fp) cf EX0 elt ff) (hs : ∀ x, foldedSetIterable iter X.env x = pure x := by intro _; rfl) :
    ME X cf EX (.ListComp elt [⟨tg, iter, ifs, 0⟩] scope pos) (fComp (own.map (·.2)) t it gcc ff) :=
  PE.weak (pe_lc (g := tG X.K X.mg t) (tt := tT X.K X.mg cf EX0 gcc) (te := tE X.K X.mg cf EX0 ff) hc hN hi ok hg ht he hs) (comp_read hsl)
/-- x op= e, of plain things -/
def sAug (i : Nat) (g : G2) (f : SE) : SS := fun cf env S => match env[i]? with
  | some (some w) => if w.plain then (f cf env S).then env fun u S1 => (g w u S1).then env fun z S2 => if z.plain then .next (env.set i (some z)) S2 else .stuck else .stuck
  | _ => .stuck
theorem ms_aug {i : Nat} {op : Operator} {r : R2} {g : G2} {pp : Pos} (hN : X.N.Nodup) (hi : X.N[i]? = some x) (hx : Loc X.env.scope x) (ho : OpR X (inplaceOp op) r) (o : Op X EX r g) (hp : ∀ w u S, w.plain = false ∨ u.plain = false → g w u S = .stuck) (h : ME X cf EX e fa)
    (hf : X.fn x = true ∨ X.env.scope.names.lookup x = some .local := by first | exact .inl rfl | exact .inr rfl | assumption) : MS X cf EX (.AugAssign (.Name x pp) op e pos) (sAug i g fa) := by
  refine PS.weak (ps_aug hN hi hx h (ti := fun x y H Q => r x y H Q) (fun pins s σ H x y v u Q I rx ry q => ho pins s σ H x y v u Q I rx ry q) hf) fun D σ H ⟨env, S, μ, F, s, q⟩ => ?_
  unfold sAug at q
  split at q
  · rename_i w e0
    split at q
    · rename_i pw
      obtain ⟨v, hv, rv⟩ := s.slot i w e0
      refine ⟨v, hv, env, S, μ, F, s, (PostS.expr q).mono fun u S1 H1 μ1 s1 x1 q1 v2 rv2 => ?_⟩
      by_cases pu : u.plain = true
      · refine o F σ env S1 H1 μ1 v v2 w u _ s1 (RW.keep (x1.nn F) x1.pre rv pw) pw rv2 pu ((PostS.expr q1).mono fun z S2 H2 μ2 s2 x2 q2 v3 rv3 => ?_)
        split at q2
        · rename_i pz
          obtain ⟨s3, x3⟩ := s2.set pz rv3
          exact q2 _ H2 μ2 s3 x3
        · exact q2.elim
      · rw [hp w u S1 (.inr (by simpa using pu))] at q1
        exact q1.elim
    · exact q.elim
  · exact q.elim
/-- + of whole numbers -/
def gAddI : G2
  | .d (.int a), .d (.int b), S => .ok (.d (.int (a + b))) S
  | _, _, _ => .stuck
theorem ms_augAdd {i : Nat} {pp : Pos} (hN : X.N.Nodup) (hi : X.N[i]? = some x) (hx : Loc X.env.scope x) (h : ME X cf EX e fa)
    (hf : X.fn x = true ∨ X.env.scope.names.lookup x = some .local := by first | exact .inl rfl | exact .inr rfl | assumption) : MS X cf EX (.AugAssign (.Name x pp) .Add e pos) (sAug i gAddI fa) :=
  ms_aug hN hi hx iop_add (o_int0 fun w u S => by
    unfold gAddI
    split
    · exact .inl ⟨_, _, rfl, rfl, _, fun _ _ => .int _, rfl⟩
    · exact .inr rfl) (gp_int fun w u S k => by
    unfold gAddI at k
    split at k
    · exact ⟨_, _, rfl, rfl⟩
    · exact absurd rfl k) h hf
/-- o[i] = e, o a list of the store -/
def sSetIx (o i f : SE) : SS := fun cf env S => (f cf env S).then env fun w S1 => (o cf env S1).then env fun u S2 => (i cf env S2).then env fun k S3 => match w, u, k with
  | .d x, .ref n, .d (.int j) => (match S3[n]? with
    | some (.lst xs) => (match ixN xs.length j with
      | some m => .next env (S3.set n (.lst (xs.set m x)))
      | none => .stuck)
    | _ => .stuck)
  | _, _, _ => .stuck
theorem nd_ix {α : Type} : ∀ {l : List α} {i j : Nat} {x : α}, l.Nodup → l[i]? = some x → l[j]? = some x → i = j
  | [], _, _, _, _, h, _ => by simp at h
  | a :: l, 0, 0, _, _, _, _ => rfl
  | a :: l, 0, j + 1, x, nd, h1, h2 => by
    simp at h1 h2
    subst h1
    exact absurd (List.mem_of_getElem? h2) (List.nodup_cons.mp nd).1
  | a :: l, i + 1, 0, x, nd, h1, h2 => by
    simp at h1 h2
    subst h2
    exact absurd (List.mem_of_getElem? h1) (List.nodup_cons.mp nd).1
  | a :: l, i + 1, j + 1, x, nd, h1, h2 => congrArg (· + 1) (nd_ix (List.nodup_cons.mp nd).2 (by simpa using h1) (by simpa using h2))
theorem Sim.store (s : Sim K mg F σ H env S μ) {n : Nat} {a : Addr} {vs vs' : List V} {xs xs' : List D} (hn : μ[n]? = some a) (hS : S[n]? = some (.lst xs)) (ha : H a = some (.lst vs)) (t : DnAll K H (NN F μ σ env) vs' xs') :
    Sim K mg F σ (upd H a (.lst vs')) env (S.set n (.lst xs')) μ ∧ Ext σ env H μ (upd H a (.lst vs')) μ := by
  have am : a ∈ μ := List.mem_of_getElem? hn
  have kp : Keep (MM μ σ env) H (MM μ σ env) (upd H a (.lst vs')) := fun b o nb q => by
    have ne : b ≠ a := fun z => nb (z ▸ .inl am)
    exact ⟨by rw [upd_ne ne]; exact q, nb⟩
  have ex : Ext σ env H μ (upd H a (.lst vs')) μ := ⟨kp, List.prefix_refl _⟩
  have kn := ex.nn F
  refine ⟨⟨s.len, fun i w e => ?_, s.fin, s.inj, s.apart, ⟨by simpa using s.st.len, s.st.nd, fun k ob e => ?_⟩, fun b f => ?_, s.fdis⟩, ex⟩
  · obtain ⟨v, hv, r⟩ := s.slot i w e
    refine ⟨v, hv, ?_⟩
    by_cases po : w.isOwn = true
    · obtain ⟨b, ob, rfl, hb, tb⟩ := own_or_plain r po
      have ne : b ≠ a := fun z => s.apart i b ⟨hv, _, e, po⟩ (z ▸ am)
      exact (tb.keep kn).rw (by rw [upd_ne ne]; exact hb)
    · have pl : w.plain = true := by
        have fi := s.fin i w e
        unfold W.fine at fi
        simpa [po] using fi
      exact RW.keep kn (List.prefix_refl _) r pl
  · rcases set_get e with ⟨z, y⟩ | ⟨nk, z⟩
    · subst z
      cases y
      exact ⟨a, hn, .lst upd_same (t.keep kn)⟩
    · obtain ⟨b, hb, r⟩ := s.st.obj k ob z
      have ne : b ≠ a := fun y => nk (nd_ix s.st.nd hb (y ▸ hn))
      refine ⟨b, hb, ?_⟩
      cases r with
      | lst h t' => exact .lst (by rw [upd_ne ne]; exact h) (t'.keep kn)
      | ins g h m t' pl => exact .ins g (by rw [upd_ne ne]; exact h) m (RWs.keep kn (List.prefix_refl _) t' pl) pl
      | dct h t' => exact .dct (by rw [upd_ne ne]; exact h) fun e he => (t' e he).keep kn
      | dcm h t' => exact .dcm (by rw [upd_ne ne]; exact h) (t'.keep kn)
      | tab h0 t' => exact .tab h0 (t'.keep (fun h => by rw [upd_ne ne]; exact h) kn)
  · obtain ⟨u, hu⟩ := s.ftr b f
    have ne : b ≠ a := fun z => s.fdis b f (.inl (z ▸ am))
    exact ⟨u, by rw [upd_ne ne]; exact hu⟩
theorem ms_setIx {o i : Expr} {fo fi fe : SE} {p2 : Pos} (he : ME X cf EX e fe) (ho : ME X cf EX o fo) (hi : ME X cf EX i fi)
    (ha : ∀ v, assign (.Subscript o i p2) X.env v = (do
      let ov ← holding [v] (eval o X.env)
      let iv ← holding [v, ov] (eval i X.env)
      standAt p2
      holding [v, ov, iv] (setItem ov iv v)
      release [v, ov, iv] []) := by intro _; rfl) (hs : swapsWithSole [.Subscript o i p2] e pos.line X.env = pure false := by rfl) (hw : swappedStores [.Subscript o i p2] e X.env = pure none := by rfl)
    (h1 : (assignEach [.Subscript o i p2] X.env).map (·.2) = [assign (.Subscript o i p2) X.env] := by rfl) : MS X cf EX (.Assign [.Subscript o i p2] e pos) (sSetIx fo fi fe) := by
  refine PS.weak (ps_asg he (pg_sub ho hi set_list ha) hs hw h1) fun D σ H ⟨env, S, μ, F, s, q⟩ => ⟨env, S, μ, F, s, (PostS.expr q).mono fun w S1 H1 μ1 s1 x1 q1 v rv => ?_⟩
  refine ⟨env, S1, μ1, F, s1, (PostS.expr q1).mono fun u S2 H2 μ2 s2 x2 q2 v2 rv2 => ?_⟩
  refine ⟨env, S2, μ2, F, s2, (PostS.expr q2).mono fun k S3 H3 μ3 s3 x3 q3 v3 rv3 => ?_⟩
  split at q3
  · split at q3
    · rename_i hS
      split at q3
      · rename_i m hm
        cases rv2 with
        | ref hn =>
          have hn3 := pre_get x3.pre hn
          obtain ⟨a, ha, ro⟩ := s3.st.obj _ _ hS
          rw [hn3] at ha
          cases ha
          cases ro with
          | lst h t =>
            cases rv with
            | d rd =>
              have rd3 := rd.keep ((x2.nn F).trans (x3.nn F))
              refine ⟨_, _, _, m, rfl, rw_int rv3, h, by rw [t.length]; exact hm, ?_⟩
              obtain ⟨s4, x4⟩ := s3.store hn3 hS h (DnAll.set rd3 m t)
              exact q3 σ _ μ3 s4 x4.s
      · exact q3.elim
    · exact q3.elim
  · exact q3.elim
/-- a, b = e1, e2, e3: names of the frame, stored at once -/
def setW : List Nat → List W → EnvQ → Option EnvQ
  | [], [], env => some env
  | i :: is, w :: ws, env => setW is ws (env.set i (some w))
  | _, _, _ => none
def sPar (is : List Nat) (a : SA) : SS := fun cf env S => (a cf env S).then env fun ws S' => if W.plains ws then (match setW is ws env with
  | some env' => .next env' S'
  | none => .stuck) else .stuck
theorem Sim.set2 (s : Sim K mg F σ H env S μ) {i j : Nat} {v u : V} {w z : W} (pw : w.plain = true) (pz : z.plain = true) (r : RW K mg H (NN F μ σ env) μ v w) (r2 : RW K mg H (NN F μ σ env) μ u z) :
    Sim K mg F ((σ.set i (some v)).set j (some u)) H ((env.set i (some w)).set j (some z)) S μ ∧ ExS σ env H μ ((σ.set i (some v)).set j (some u)) ((env.set i (some w)).set j (some z)) H μ := by
  obtain ⟨s1, x1⟩ := s.set (i := i) pw r
  obtain ⟨s2, x2⟩ := s1.set (i := j) pz (RW.keep (x1.nn F) x1.pre r2 pz)
  exact ⟨s2, x1.trans x2⟩
theorem ms_par2 {i j : Nat} {y : Str} {a b : Expr} {px py pt : Pos} {kt k2 pt2} (hc : X.calm = true) (hN : X.N.Nodup) (hi : X.N[i]? = some x) (hj : X.N[j]? = some y) (hij : i ≠ j)
    (hx : X.env.scope.names.lookup x = some .local) (hy : X.env.scope.names.lookup y = some .local) (h : MA X cf EX [a, b] ha)
    (hw : swappedStores [.Tuple [.Name x px, .Name y py] kt pt] (.Tuple [a, b] k2 pt2) X.env = pure (some [x, y]))
    (hs : swapsWithSole [.Tuple [.Name x px, .Name y py] kt pt] (.Tuple [a, b] k2 pt2) pos.line X.env = pure false := by rfl) :
    MS X cf EX (.Assign [.Tuple [.Name x px, .Name y py] kt pt] (.Tuple [a, b] k2 pt2) pos) (sPar [i, j] ha) :=
  PS.weak (ps_par hc hN hi hj hij hx hy h hw hs) fun D σ H ⟨env, S, μ, F, s, q⟩ => ⟨env, S, μ, F, s, (PostS.expr q).mono fun ws S1 H1 μ1 s1 x1 q1 vs rvs => by
    split at q1
    · rename_i pl
      cases rvs with
      | nil => simp [setW] at q1; exact q1.elim
      | cons r1 t =>
        cases t with
        | nil => simp [setW] at q1; exact q1.elim
        | cons r2 t =>
          cases t with
          | cons _ _ => simp [setW] at q1; exact q1.elim
          | nil =>
            simp only [W.plains, Bool.and_eq_true, and_true] at pl
            obtain ⟨s2, x2⟩ := s1.set2 (i := i) (j := j) pl.1 pl.2 r1 r2
            exact ⟨_, _, rfl, q1 _ H1 μ1 s2 x2⟩
    · exact q1.elim⟩
end
end Q

namespace Q
open PySem PySem.Spec PyProof.Rows L2
section
variable {X : Cx} {cf : CF} {EX : WX} {F : Addr → Prop} {σ : L2.St} {env : EnvQ} {S S' S1 S2 : Sto} {H H' H1 : Hp} {μ μ' μ1 : List Addr} {K : PySem.W.Frag} {mg : Str → Option Value} {e c tg tg1 : Expr} {pos : Pos} {x : Str}
/-- from one state to a later one, the slots as they were; p may turn -/
structure KP (p : Addr) (σ : L2.St) (env : EnvQ) (H : Hp) (μ : List Addr) (H' : Hp) (μ' : List Addr) : Prop where
  keep : Keep (fun a => a = p ∨ MM μ σ env a) H (fun a => a = p ∨ MM μ' σ env a) H'
  pre : μ <+: μ'
theorem KP.refl {p : Addr} : KP p σ env H μ H μ := ⟨Keep.refl _ _, List.prefix_refl _⟩
theorem KP.ext {p : Addr} (k : KP p σ env H1 μ1 H μ) (x : Ext σ env H μ H' μ') : KP p σ env H1 μ1 H' μ' :=
  ⟨fun a o n e => by
    obtain ⟨e1, n1⟩ := k.keep a o n e
    obtain ⟨e2, n2⟩ := x.keep a o (fun h => n1 (.inr h)) e1
    exact ⟨e2, fun h => h.elim (fun h => n1 (.inl h)) n2⟩, List.IsPrefix.trans k.pre x.pre⟩
theorem KP.nn {p : Addr} (k : KP p σ env H μ H' μ') (fp : F p) : Keep (NN F μ σ env) H (NN F μ' σ env) H' := fun a o n e => by
  obtain ⟨e1, n1⟩ := k.keep a o (fun h => n (h.elim (fun z => .inr (z ▸ fp)) .inl)) e
  exact ⟨e1, fun h => h.elim (fun h => n1 (.inr h)) fun h => n (.inr h)⟩
theorem KP.out {p : Addr} (x : Ext σ env H1 μ1 H μ) (k : KP p σ env H μ H' μ') (n : H1 p = none) : Ext σ env H1 μ1 H' μ' :=
  ⟨fun a o na e => by
    obtain ⟨e1, n1⟩ := x.keep a o na e
    have ne := ne_of_none e n
    obtain ⟨e2, n2⟩ := k.keep a o (fun h => h.elim ne n1) e1
    exact ⟨e2, fun h => n2 (.inr h)⟩, List.IsPrefix.trans x.pre k.pre⟩
/-- [e for t in it if c for t1 in it1 if c1] -/
def compL2 (t : Tg) (c : EnvQ → Sto → R Bool) (g : EnvQ → Sto → R (List D)) (env : EnvQ) : List D → Sto → R (List D)
  | [], S => .ok [] S
  | d :: ds, S => match t.set d env with
    | none => .stuck
    | some env1 => (c env1 S).calm.bind fun b S1 => if b = true then (g env1 S1).calm.bind fun xs S2 => (compL2 t c g env ds S2).bind fun ys S3 => .ok (xs ++ ys) S3 else compL2 t c g env ds S1
def gInner (vs : List Nat) (t : Tg) (it : SI) (c : ST) (f : SE) : SI := fun cf env S => if vs.all (notOwn env) then (it cf env S).calm.bind fun ds S1 => compL t (c cf) (f cf) (wipeE env vs) ds S1 else .stuck
def fComp2 (vs : List Nat) (t : Tg) (it : SI) (c : ST) (g : SI) : SE := fun cf env S => if vs.all (notOwn env) then (it cf env S).bind fun ds S1 => (compL2 t (c cf) (g cf) (wipeE env vs) ds S1).calm.bind fun xs S2 => if xs.length ≤ LIM then .ok (.d (.list xs)) S2 else .stuck else .stuck
end
end Q

namespace Q
open PySem PySem.Spec PyProof.Rows L2
section
variable {X : Cx} {cf : CF} {EX : WX} {F : Addr → Prop} {σ : L2.St} {env : EnvQ} {S S' : Sto} {H H' : Hp} {μ μ' : List Addr} {K : PySem.W.Frag} {mg : Str → Option Value} {e a b c tg : Expr} {es : List Expr} {fa fb : SE} {ha hb : SA} {pos p : Pos} {x : Str}

theorem Sim.alloc (s : Sim K mg F σ H env S μ) {p : Addr} {vs : List V} {xs : List D} (n : H p = none) (t : DnAll K H (NN F μ σ env) vs xs) : Sim K mg F σ (upd H p (.lst vs)) env (S ++ [.lst xs]) (μ ++ [p]) ∧ Ext σ env H μ (upd H p (.lst vs)) (μ ++ [p]) := by
  have kp : Keep (MM μ σ env) H (MM (μ ++ [p]) σ env) (upd H p (.lst vs)) := fun a o na e => by
    have ne : a ≠ p := ne_of_none e n
    refine ⟨by rw [upd_ne ne]; exact e, fun h => ?_⟩
    rcases h with h | h
    · rcases List.mem_append.mp h with h | h
      · exact na (.inl h)
      · exact ne (by simpa using h)
    · exact na (.inr h)
  have ex : Ext σ env H μ (upd H p (.lst vs)) (μ ++ [p]) := ⟨kp, List.prefix_append _ _⟩
  have kn := ex.nn F
  have np : ∀ a, NN F μ σ env a → a ≠ p := fun a h z => s.fresh n (z ▸ h)
  refine ⟨⟨s.len, fun i w e => ?_, s.fin, s.inj, fun i a h m => ?_, ⟨?_, ?_, fun k ob e => ?_⟩, fun a f => ?_, fun a f h => ?_⟩, ex⟩
  · obtain ⟨v, hv, r⟩ := s.slot i w e
    refine ⟨v, hv, ?_⟩
    by_cases po : w.isOwn = true
    · obtain ⟨b, ob, rfl, hb, tb⟩ := own_or_plain r po
      exact (tb.keep kn).rw (by rw [upd_ne (ne_of_none hb n)]; exact hb)
    · have pl : w.plain = true := by
        have fi := s.fin i w e
        unfold W.fine at fi
        simpa [po] using fi
      exact RW.keep kn ex.pre r pl
  · rcases List.mem_append.mp m with m | m
    · exact s.apart i a h m
    · exact np a (.inl (.inr ⟨i, h⟩)) (by simpa using m)
  · rw [List.length_append, List.length_append, s.st.len]
    rfl
  · refine List.nodup_append.mpr ⟨s.st.nd, by simp, fun a h1 b h2 z => ?_⟩
    subst z
    exact np a (.inl (.inl h1)) (by simpa using h2)
  · by_cases hk : k < S.length
    · rw [List.getElem?_append_left hk] at e
      obtain ⟨b, hb, r⟩ := s.st.obj k ob e
      refine ⟨b, pre_get ex.pre hb, ?_⟩
      cases r with
      | lst h t' => exact .lst (by rw [upd_ne (ne_of_none h n)]; exact h) (t'.keep kn)
      | ins g h m t' pl => exact .ins g (by rw [upd_ne (ne_of_none h n)]; exact h) m (RWs.keep kn ex.pre t' pl) pl
      | dct h t' => exact .dct (by rw [upd_ne (ne_of_none h n)]; exact h) fun e he => (t' e he).keep kn
      | dcm h t' => exact .dcm (by rw [upd_ne (ne_of_none h n)]; exact h) (t'.keep kn)
      | tab h0 t' => exact .tab h0 (t'.keep (fun h => by rw [upd_ne (ne_of_none h n)]; exact h) kn)
    · rw [List.getElem?_append_right (by omega)] at e
      have k0 : k - S.length = 0 := by
        have := (List.getElem?_eq_some_iff.mp e).1
        simp at this
        omega
      rw [k0] at e
      simp at e
      subst e
      refine ⟨p, ?_, .lst upd_same (t.keep kn)⟩
      rw [List.getElem?_append_right (by rw [s.st.len]; omega), s.st.len, k0]
      rfl
  · obtain ⟨u, hu⟩ := s.ftr a f
    exact ⟨u, by rw [upd_ne (ne_of_none hu n)]; exact hu⟩
  · rcases h with h | h
    · rcases List.mem_append.mp h with h | h
      · exact s.fdis a f (.inl h)
      · exact np a (.inr f) (by simpa using h)
    · exact s.fdis a f (.inr h)
def fNewL (a : SA) : SE := fun cf env S => (a cf env S).bind fun ws S1 => if ws.length ≤ LIM then (match datas ws with
  | some ds => .ok (.ref S1.length) (S1 ++ [.lst ds])
  | none => .stuck) else .stuck
theorem me_newL (h : MA X cf EX es ha) : ME X cf EX (.List es pos) (fNewL ha) :=
  PE.weak (pe_lst h) fun σ H Q ⟨env, S, μ, F, s, q⟩ => ⟨env, S, μ, F, s, (Post.bind q).mono fun ws S1 H1 μ1 s1 x1 q1 vs rvs => by
    split at q1
    · rename_i hl
      refine ⟨by rw [← lim_line, rvs.length]; exact hl, fun p n => ?_⟩
      split at q1
      · rename_i ds e
        obtain ⟨s2, x2⟩ := s1.alloc n (datas_dn rvs e)
        refine q1 _ _ s2 x2 _ (.ref ?_)
        rw [← s1.st.len, List.getElem?_append_right (Nat.le_refl _)]
        simp
      · exact q1.elim
    · exact q1.elim⟩

def okShow (d : D) : Bool := d.showable && !d.hasDict && decide (d.depth ≤ 60) && decide (d.shown.length ≤ LIM)
def gRepr : GN
  | [.d d], S => if okShow d then .ok (.d (.str d.shown)) S else .stuck
  | _, _ => .stuck
def gSum : GN
  | [.d (.list xs)], S => match intsOf xs with | some is => .ok (.d (.int is.sum)) S | none => .stuck
  | [.d (.tuple xs)], S => match intsOf xs with | some is => .ok (.d (.int is.sum)) S | none => .stuck
  | _, _ => .stuck
def gNotB : G2
  | .d (.bool a), .d (.bool b), S => .ok (.d (.bool (!decide (a = b)))) S
  | _, _, _ => .stuck
theorem cm_notB : Cm X EX .IsNot gNotB := ⟨⟨_, op_notBl, fun F σ env S H μ x y w u Q s rx pw ry pu q => by
  unfold gNotB at q
  split at q
  · exact ⟨_, _, rw_bl rx, rw_bl ry, post_here s (.d (.bl _)) q⟩
  · exact q.elim⟩, g_plain _ fun w u S k => by
  unfold gNotB at k
  split at k <;> first | exact ⟨rfl, rfl⟩ | exact absurd rfl k⟩

/-- behind a new list at p: the callers' too -/
theorem Sim.lay (s : Sim K mg F σ H env S μ) {p : Addr} {o : HO} (n : H p = none) : Sim K mg (fun a => a = p ∨ F a) σ (upd H p o) env S μ := by
  have kp : Keep (NN F μ σ env) H (NN (fun a => a = p ∨ F a) μ σ env) (upd H p o) := fun a u na e => by
    have ne : a ≠ p := ne_of_none e n
    exact ⟨by rw [upd_ne ne]; exact e, fun h => h.elim (fun h => na (.inl h)) fun h => h.elim ne fun h => na (.inr h)⟩
  refine ⟨s.len, fun i w e => ?_, s.fin, s.inj, s.apart, ⟨s.st.len, s.st.nd, fun k ob e => ?_⟩, fun a f => ?_, fun a f h => ?_⟩
  · obtain ⟨v, hv, r⟩ := s.slot i w e
    refine ⟨v, hv, ?_⟩
    by_cases po : w.isOwn = true
    · obtain ⟨a, ob, rfl, hb, tb⟩ := own_or_plain r po
      exact (tb.keep kp).rw (by rw [upd_ne (ne_of_none hb n)]; exact hb)
    · have pl : w.plain = true := by
        have fi := s.fin i w e
        unfold W.fine at fi
        simpa [po] using fi
      exact RW.keep kp (List.prefix_refl _) r pl
  · obtain ⟨b, hb, r⟩ := s.st.obj k ob e
    refine ⟨b, hb, ?_⟩
    cases r with
    | lst h t' => exact .lst (by rw [upd_ne (ne_of_none h n)]; exact h) (t'.keep kp)
    | ins g h m t' pl => exact .ins g (by rw [upd_ne (ne_of_none h n)]; exact h) m (RWs.keep kp (List.prefix_refl _) t' pl) pl
    | dct h t' => exact .dct (by rw [upd_ne (ne_of_none h n)]; exact h) fun e he => (t' e he).keep kp
    | dcm h t' => exact .dcm (by rw [upd_ne (ne_of_none h n)]; exact h) (t'.keep kp)
    | tab h0 t' => exact .tab h0 (t'.keep (fun h => by rw [upd_ne (ne_of_none h n)]; exact h) kp)
  · rcases f with rfl | f
    · exact ⟨_, upd_same⟩
    · obtain ⟨u, hu⟩ := s.ftr a f
      exact ⟨u, by rw [upd_ne (ne_of_none hu n)]; exact hu⟩
  · rcases f with rfl | f
    · exact s.fresh n (.inl h)
    · exact s.fdis a f h
end
end Q

namespace Q
open PySem PySem.Spec PyProof.Rows L2
inductive EL where
  | p (f : SE)
  | o (a : SA)
  | od
def elsE : List EL → CF → EnvQ → Sto → R (List W)
  | [] => fun _ _ S => .ok [] S
  | .p f :: r => fun cf env S => (f cf env S).bind fun w S1 => if w.plain then (elsE r cf env S1).bind fun ws S2 => .ok (w :: ws) S2 else .stuck
  | .o a :: r => fun cf env S => (a cf env S).bind fun ws S1 => if ws.length ≤ LIM then (match datas ws with
    | some ds => (elsE r cf env S1).bind fun us S2 => .ok (.own ds :: us) S2
    | none => .stuck) else .stuck
  | .od :: r => fun cf env S => (elsE r cf env S).bind fun us S2 => .ok (.ownd [] :: us) S2
def sParX (is : List Nat) (es : List EL) : SS := fun cf env S => (elsE es cf env S).then env fun ws S' => if ws.length ≤ LIM then (match setW is ws env with
  | some env' => .next env' S'
  | none => .stuck) else .stuck
inductive RWo (K : PySem.W.Frag) (mg : Str → Option Value) (H : Hp) (N : Addr → Prop) (μ : List Addr) : List Addr → List V → List W → Prop
  | nil : RWo K mg H N μ [] [] []
  | p {L : List Addr} {v : V} {vs : List V} {w : W} {ws : List W} : RW K mg H N μ v w → w.plain = true → RWo K mg H N μ L vs ws → RWo K mg H N μ L (v :: vs) (w :: ws)
  | o {L : List Addr} {a : Addr} {ob : HO} {w : W} {vs : List V} {ws : List W} : H a = some ob → OwnR K H N ob w → a ∉ L → RWo K mg H N μ L vs ws → RWo K mg H N μ (a :: L) (.ref a :: vs) (w :: ws)
section
variable {X : Cx} {cf : CF} {EX : WX} {F : Addr → Prop} {σ : L2.St} {env : EnvQ} {S S' : Sto} {H H1 H' : Hp} {μ μ1 μ' : List Addr} {K : PySem.W.Frag} {mg : Str → Option Value} {e : Expr} {es es0 : List Expr} {fa : SE} {ha : SA} {els : List EL} {pos p : Pos}
theorem OwnR.io {N : Addr → Prop} {o : HO} {w : W} (h : OwnR K H N o w) : w.isOwn = true := by cases h <;> rfl
theorem RWo.length {N : Addr → Prop} : ∀ {L : List Addr} {vs : List V} {ws : List W}, RWo K mg H N μ L vs ws → vs.length = ws.length
  | _, _, _, .nil => rfl
  | _, _, _, .p _ _ t => congrArg (· + 1) t.length
  | _, _, _, .o _ _ _ t => congrArg (· + 1) t.length
theorem RWo.sub {N N' : Addr → Prop} (h : ∀ a, N' a → N a) : ∀ {L : List Addr} {vs : List V} {ws : List W}, RWo K mg H N μ L vs ws → RWo K mg H N' μ L vs ws
  | _, _, _, .nil => .nil
  | _, _, _, .p r pl t => .p (RW.sub h r) pl (t.sub h)
  | _, _, _, .o e d n t => .o e (d.keep (Keep.sub h)) n (t.sub h)
def PostO (K : PySem.W.Frag) (mg : Str → Option Value) (EX : WX) (F : Addr → Prop) (σ : L2.St) (env : EnvQ) (H : Hp) (μ : List Addr) (r : R (List W)) (Q : List Addr → List V → List W → Sto → Hp → List Addr → Prop) : Prop :=
  match r with
  | .ok ws S' => ∀ H' μ' L vs, Sim K mg (fun a => a ∈ L ∨ F a) σ H' env S' μ' → Ext σ env H μ H' μ' → (∀ a ∈ L, H a = none) → RWo K mg H' (NN (fun a => a ∈ L ∨ F a) μ' σ env) μ' L vs ws → Q L vs ws S' H' μ'
  | .exc c S' => ∀ C H' μ', mg (Str.ofString c) = some (.ref C) → Sim K mg F σ H' env S' μ' → Ext σ env H μ H' μ' → EX (.ref C) none σ H'
  | .stuck => False
theorem RWo.same {N : Addr → Prop} (h : Same H H') : ∀ {L : List Addr} {vs : List V} {ws : List W}, RWo K mg H N μ L vs ws → RWo K mg H' N μ L vs ws
  | _, _, _, .nil => .nil
  | _, _, _, .p r pl t => .p (RW.same h r) pl (t.same h)
  | _, _, _, .o e d n t => .o (h _ _ e) (d.keep fun a o n e => ⟨h a o e, n⟩) n (t.same h)
theorem PostO.and {r : R (List W)} {P P' : List Addr → List V → List W → Sto → Hp → List Addr → Prop} (h : PostO K mg EX F σ env H μ r P) (h' : PostO K mg EX F σ env H μ r P') {P2 : List Addr → List V → List W → Sto → Hp → List Addr → Prop} (f : ∀ L vs ws S' H' μ', P L vs ws S' H' μ' → P' L vs ws S' H' μ' → P2 L vs ws S' H' μ') : PostO K mg EX F σ env H μ r P2 := by
  cases r with
  | stuck => exact h
  | exc c S1 => exact h
  | ok ws S1 => exact fun H1 μ1 L vs s1 x1 fr rvs => f _ _ _ _ _ _ (h H1 μ1 L vs s1 x1 fr rvs) (h' H1 μ1 L vs s1 x1 fr rvs)
end
end Q

namespace Q
open PySem PySem.Spec PyProof.Rows L2
section
variable {prog : Program} {w : World} {A : Around} {E : Value → Shared → Prop} {s : Shared}
end
/-- 0, x; 1, y; .. -/
def enumD : Nat → List D → List D
  | _, [] => []
  | k, x :: xs => .tuple [.int (k : Int), x] :: enumD (k + 1) xs
def zipD : List D → List D → List D
  | x :: xs, y :: ys => .tuple [x, y] :: zipD xs ys
  | _, _ => []
section
variable {X : Cx} {cf : CF} {EX : WX} {K : PySem.W.Frag} {H : Hp} {N : Addr → Prop} {e e2 : Expr} {ha : SA} {p pos tpos : Pos} {elts : List Expr} {kk : Nat}
def iEnumQ (a : SA) : SI := fun cf env S => (a cf env S).bind fun ws S1 => match ws with
  | [.d (.list xs)] => .ok (enumD 0 xs) S1
  | [.d (.tuple xs)] => .ok (enumD 0 xs) S1
  | _ => .stuck
def iZipQ (a : SA) : SI := fun cf env S => (a cf env S).bind fun ws S1 => match ws with
  | [.d (.list xs), .d (.list ys)] => .ok (zipD xs ys) S1
  | [.d (.tuple xs), .d (.tuple ys)] => .ok (zipD xs ys) S1
  | _ => .stuck
end
end Q

namespace Q
open PySem PySem.Spec PyProof.Rows L2
/-- a sort that the kernel can run -/
def insB {α : Type} (le : α → α → Bool) (x : α) : List α → List α
  | [] => [x]
  | y :: r => if le x y then x :: y :: r else y :: insB le x r
def sortB {α : Type} (le : α → α → Bool) : List α → List α
  | [] => []
  | x :: r => insB le x (sortB le r)
def sortI (is : List Int) : List Int := sortB (fun a b => decide (a ≤ b)) is
section
variable {X : Cx} {cf : CF} {EX : WX} {e : Expr} {ha : SA} {p pos : Pos}
end
end Q

namespace Q
open PySem PySem.Spec PyProof.Rows L2
def leP (p q : Int × Int) : Bool := !(SrtO.lexB q p)
def sortP (ps : List (Int × Int)) : List (Int × Int) := sortB leP ps
section
variable {X : Cx} {cf : CF} {EX : WX} {e : Expr} {ha : SA} {p pos : Pos}
open Classical in
def pairD (p : Int × Int) : D := .tuple [.int p.1, .int p.2]
def pairsOf : List D → Option (List (Int × Int))
  | [] => some []
  | .tuple [.int a, .int b] :: ds => (pairsOf ds).map ((a, b) :: ·)
  | _ :: _ => none
theorem pairsOf_map : ∀ (ps : List (Int × Int)), pairsOf (ps.map pairD) = some ps
  | [] => rfl
  | p :: ps => by simp [pairsOf, pairD, pairsOf_map ps]
def gSortedP : GN
  | [.d (.list xs)], S => match pairsOf xs with | some ps => .ok (.d (.list ((sortP ps).map pairD))) S | none => .stuck
  | _, _ => .stuck
end
end Q

namespace Q
open PySem PySem.Spec PyProof.Rows L2
def code (n : List Int) : Int := TS.code 64 n
section
variable {X : Cx} {cf : CF} {EX : WX} {e : Expr} {ha : SA} {p pos : Pos}
end
end Q

namespace Q
open PySem PySem.Spec PyProof.Rows L2
section
variable {X : Cx} {cf : CF} {EX : WX} {F : Addr → Prop} {σ : L2.St} {env : EnvQ} {S S' : Sto} {H H' : Hp} {μ μ' : List Addr} {K : PySem.W.Frag} {mg : Str → Option Value} {e c tg : Expr} {es : List Expr} {fa fb : SE} {pos p : Pos} {x : Str}
/-- x = [..], a new list of one's own -/
def sSetCompO (i : Nat) (vs : List Nat) (t : Tg) (it : SI) (c : ST) (f : SE) : SS := fun cf env S => if vs.all (notOwn env) then (it cf env S).then env fun ds S1 => (compL t (c cf) (f cf) (wipeE env vs) ds S1).calm.then env fun xs S2 => if xs.length ≤ LIM then .next (env.set i (some (.own xs))) S2 else .stuck else .stuck
/-- x[k] = e, x a list of one's own -/
def sSetIxO (i : Nat) (fk fe : SE) : SS := fun cf env S => match env[i]? with
  | some (some (.own xs)) => (fe cf env S).then env fun w S1 => match w with
    | .d x => (fk cf env S1).then env fun u S2 => (match u with
      | .d (.int j) => (match ixN xs.length j with
        | some m => .next (env.set i (some (.own (xs.set m x)))) S2
        | none => .stuck)
      | _ => .stuck)
    | _ => .stuck
  | _ => .stuck
def sNewD (i : Nat) : SS := fun _ env S => .next (env.set i (some (.ownd []))) S
def keyOfD : D → Option Key
  | .int i => some (.inl i)
  | .str s => some (.inr s)
  | _ => none
def putD (kvs : List (Key × D)) (k : Key) (d : D) : List (Key × D) :=
  if (kvs.any fun kv => decide (kv.1 = k)) = true then kvs.map (fun kv => if kv.1 = k then (kv.1, d) else kv) else kvs ++ [(k, d)]
theorem KvR.any {N : Addr → Prop} {k : Key} : ∀ {vs : List (Key × V)} {ds : List (Key × D)}, KvR K H N vs ds → (vs.any fun kv => decide (kv.1 = k)) = (ds.any fun kv => decide (kv.1 = k))
  | _, _, .nil => rfl
  | _, _, .cons i _ t => by simp only [List.any_cons, KvR.any t]
theorem KvR.map {N : Addr → Prop} {k : Key} {v : V} {d : D} (r : Dn K H N v d) : ∀ {vs : List (Key × V)} {ds : List (Key × D)}, KvR K H N vs ds → KvR K H N (vs.map fun kv => if kv.1 = k then (kv.1, v) else kv) (ds.map fun kv => if kv.1 = k then (kv.1, d) else kv)
  | _, _, .nil => .nil
  | _, _, .cons i h t => by
    simp only [List.map_cons]
    by_cases e : i = k
    · rw [if_pos e, if_pos e]
      exact .cons i r (KvR.map r t)
    · rw [if_neg e, if_neg e]
      exact .cons i h (KvR.map r t)
theorem KvR.app {N : Addr → Prop} {k : Key} {v : V} {d : D} (r : Dn K H N v d) : ∀ {vs : List (Key × V)} {ds : List (Key × D)}, KvR K H N vs ds → KvR K H N (vs ++ [(k, v)]) (ds ++ [(k, d)])
  | _, _, .nil => .cons k r .nil
  | _, _, .cons i h t => .cons i h (KvR.app r t)
theorem KvR.put {N : Addr → Prop} {k : Key} {v : V} {d : D} (r : Dn K H N v d) {vs : List (Key × V)} {ds : List (Key × D)} (h : KvR K H N vs ds) : KvR K H N (putK vs k v) (putD ds k d) := by
  unfold putK putD
  rw [h.any]
  split
  · exact h.map r
  · exact h.app r
/-- found[k] = e -/
def sPutD (i : Nat) (fk fe : SE) : SS := fun cf env S => match env[i]? with
  | some (some (.ownd kvs)) => (fe cf env S).then env fun w S1 => match w with
    | .d x => (fk cf env S1).then env fun u S2 => (match u with
      | .d y => (match keyOfD y with
        | some k => if kvs.length < LIM then .next (env.set i (some (.ownd (putD kvs k x)))) S2 else .stuck
        | none => .stuck)
      | _ => .stuck)
    | _ => .stuck
  | _ => .stuck
/-- sorted(found), the keys whole numbers -/
def intKeys : List (Key × D) → Option (List Int)
  | [] => some []
  | (.inl i, _) :: t => (intKeys t).map (i :: ·)
  | _ :: _ => none
def gSortedDK : GN
  | [.ownd kvs], S => match intKeys kvs with | some ks => if ks.length < 64 then .ok (.d (.list ((sortI ks).map PyData.int))) S else .stuck | none => .stuck
  | _, _ => .stuck
end
end Q

namespace Q
open PySem PySem.Spec PyProof.Rows L2
section
variable {X : Cx} {cf : CF} {EX : WX} {F : Addr → Prop} {σ : L2.St} {env : EnvQ} {S S' S1 S2 : Sto} {H H' H1 : Hp} {μ μ' μ1 : List Addr} {K : PySem.W.Frag} {mg : Str → Option Value} {e c tg : Expr} {es : List Expr} {fa fb : SE} {pos p : Pos} {x : Str}
end
end Q

namespace Q
open PySem PySem.Spec PyProof.Rows L2
section
variable {X : Cx} {cf : CF} {EX : WX} {e : Expr} {fa : SE} {p p2 q pos : Pos}
/-- what a thing shows stays from here on -/
theorem PE.postlock {X : Cx} {e : Expr} {t : TE} (h : PE X e t) : PE X e (fun σ H Q => t σ H fun v H1 => ∃ d u, v = .ref d ∧ H1 d = some u ∧ Mut (some u) ∧ ∀ od, Q v (upd H1 d (.frz od u))) := by
  refine ⟨fun pins s σ H Q I hw => ?_⟩
  refine thn (h.run pins s σ H _ I hw) fun v s1 ⟨x, H1, I1, r, d, u, ex, hd, mu, q⟩ => ?_
  obtain ⟨od, I2⟩ := I1.lock hd mu
  exact ⟨x, _, I2, r, q od⟩
theorem upd_upd {H : Hp} {p : Addr} {u v : HO} : upd (upd H p u) p v = upd H p v := by
  funext b
  by_cases e : b = p
  · subst e; rw [upd_same, upd_same]
  · rw [upd_ne e, upd_ne e, upd_ne e]
/-- {} that nothing is put into -/
def fDic0 : SE := fun _ _ S => .ok (.d (.dict [])) S
theorem me_dic0 : ME X cf EX (.Dict [] [] pos) fDic0 :=
  PE.weak (PE.postlock pe_dnewK) fun σ H Q ⟨env, S, μ, F, s, q⟩ p n => ⟨p, _, rfl, upd_same, True.intro, fun od => by
    rw [upd_upd]
    exact q _ μ (s.new n) (ext_new n) _ (.d (.dic (s.fresh n) upd_same .nil))⟩
end
end Q

namespace Q
open PySem PySem.Spec PyProof.Rows L2
section
variable {P : Program} {w : World} {A : Around} {E : Value → Shared → Prop} {s : Shared}
end
end Q

namespace Q
open PySem PySem.Spec PyProof.Rows L2
section
variable {X : Cx} {cf : CF} {EX : WX} {e : Expr} {fa : SE} {p p2 q pos : Pos}
end
end Q

namespace Q
open PySem PySem.Spec PyProof.Rows L2
section
variable {prog : Program} {w : World} {A : Around} {E : Value → Shared → Prop} {s : Shared}
theorem adjust_rev (n : Nat) : Builtin.Slice.sliceAdjust none none (-1) (n : Int) = ((n : Int) - 1, -1) := by
  unfold Builtin.Slice.sliceAdjust
  simp
theorem places_rev (n : Nat) : Builtin.Slice.slicePlaces ((n : Int) - 1) (-1) (-1) = n := by
  unfold Builtin.Slice.slicePlaces
  simp only [show ¬ ((-1 : Int) > 0) by decide, if_false]
  split
  · rw [show -(-1 : Int) = 1 by decide, Int.ediv_one]
    omega
  · omega
theorem applied_rev {sl : Addr} {vs : Value} {n : Nat} {Q : Int × Int × Nat → Shared → Prop} (hs : s.heap.IsSliceOf sl .none .none vs) (ps : IsPart vs (some (-1))) (h : Q ((n : Int) - 1, -1, n) s) : wpAny (model prog w) A (Builtin.Slice.sliceApplied (.ref sl) (pure (n : Int))) Q E s := by
  obtain ⟨os, hos, hcs, hds⟩ := id hs
  unfold Builtin.Slice.sliceApplied Builtin.Slice.sliceFields
  refine wpAny_bind (wpAny_bind (wpAny_field hos hds (x := .none) rfl (wpAny_bind (wpAny_field hos hds (x := .none) rfl (wpAny_bind (wpAny_field hos hds (x := vs) rfl (wpAny_pure ?_)))))))
  refine wpAny_bind (HT.slicePart_ ps ?_)
  show wpAny _ _ (if ((-1 : Int) == 0) = true then _ else _) _ _ s
  rw [if_neg (by decide)]
  refine wpAny_bind (HT.slicePart_ .none (wpAny_bind (HT.slicePart_ .none (wpAny_bind (wpAny_pure ?_)))))
  show wpAny _ _ (match Builtin.Slice.sliceAdjust none none (-1) (n : Int) with | (lo, hi) => pure (lo, (-1 : Int), Builtin.Slice.slicePlaces lo hi (-1))) _ _ s
  rw [adjust_rev]
  show wpAny _ _ (pure ((n : Int) - 1, (-1 : Int), Builtin.Slice.slicePlaces ((n : Int) - 1) (-1) (-1))) _ _ s
  rw [places_rev]
  exact wpAny_pure h
theorem fm_congr {α β : Type} {f g : α → Option β} : ∀ {l : List α}, (∀ x ∈ l, f x = g x) → l.filterMap f = l.filterMap g
  | [], _ => rfl
  | x :: l, h => by
    rw [List.filterMap_cons, List.filterMap_cons, h x (by simp), fm_congr (l := l) fun y hy => h y (by simp [hy])]
theorem pick_rev (xs : Array Value) : ((List.range xs.size).filterMap fun (m : Nat) => xs[(((xs.size : Int) - 1) + (m : Int) * (-1)).toNat]?).toArray = xs.toList.reverse.toArray := by
  congr 1
  have e : ((List.range xs.size).filterMap fun (m : Nat) => xs[(((xs.size : Int) - 1) + (m : Int) * (-1)).toNat]?) = ((List.range xs.size).map fun k => xs.size - 1 - k).filterMap (xs[·]?) := by
    rw [List.filterMap_map]
    apply fm_congr
    intro m hm
    have hm : m < xs.size := by simpa using hm
    show xs[(((xs.size : Int) - 1) + (m : Int) * (-1)).toNat]? = xs[xs.size - 1 - m]?
    congr 1
    omega
  rw [e, PySem.W.krv_range, List.filterMap_reverse, PySem.W.krv_all]
theorem getItem_tuple_rev {t sl : Addr} {items : Array Value} {vs : Value} {Q : Value → Shared → Prop} (ht : IsTup s.heap t items) (hs : s.heap.IsSliceOf sl .none .none vs) (ps : IsPart vs (some (-1)))
    (h : Q (.ref s.heap.objs.size) { s with heap := s.heap.push { cls := .type "tuple", data := .seq items.toList.reverse.toArray } })
    (hsz : items.size ≤ sizeLine) : wpAny (model prog w) A (getItem (.ref t) (.ref sl)) Q E s := by
  have htake : sizeOk (.seq items.toList.reverse.toArray) := by
    show items.toList.reverse.toArray.size ≤ sizeLine
    rw [List.size_toArray, List.length_reverse, Array.length_toList]
    exact hsz
  obtain ⟨os, hos, hcs, hds⟩ := id hs
  have hTs : s.TypeIs (.ref sl) "slice" := ⟨os, hos, hcs⟩
  unfold getItem
  try with_reducible refine wpAny_holding ?_
  first | refine wpAny_bind (wpAny_pure ?_) | skip
  refine wpAny_bind (wpAny_sequenceKey ht.typeIs (by decide) ?_)
  refine wpAny_bind (wpAny_callSpecial?_slot (name := Str.ofString "__getitem__") ht.typeIs PyProof.Rows.slot_tuple_getitem
    (wpAny_call_entry PyProof.Rows.slot_tuple_getitem ht.typeIs entry_tuple_getitem ?_ (args_tuple_getitem _ _)))
  show wpAny _ _ (Builtin.Tuple.tupleItemsOf (.ref t) >>= _) _ _ s
  refine wpAny_bind (tupleItemsOf_ ht ?_)
  refine wpAny_bind (wpAny_typeOf hTs ?_)
  rw [if_pos (by decide)]
  refine wpAny_bind (applied_rev hs ps ?_)
  have hno : ¬ ((((items.size : Int) - 1) == 0 && (-1 : Int) == 1 && items.size == items.size) = true) := by
    intro q
    rw [Bool.and_eq_true, Bool.and_eq_true] at q
    exact absurd q.1.2 (by decide)
  show wpAny _ _ (if (((items.size : Int) - 1) == 0 && (-1 : Int) == 1 && items.size == items.size) = true then _ else _) _ _ s
  rw [if_neg hno, pick_rev]
  first
    | exact wpAny_bind (m := Builtin.Tuple.tupleExact _) (wpAny_newObj_type (wpAny_pure ⟨_, rfl, wpAny_pure h⟩) htake)
    | exact wpAny_bind (m := Builtin.Tuple.tupleExact _) (wpAny_newObj_type (wpAny_bind (wpAny_pure (wpAny_pure ⟨_, rfl, wpAny_pure h⟩))) htake)
    | exact wpAny_bind (wpAny_bind (m := Builtin.Tuple.tupleExact _) (wpAny_newObj_type (wpAny_pure (wpAny_pure ⟨_, rfl, wpAny_pure h⟩)) htake))
    | exact wpAny_bind (wpAny_bind (m := Builtin.Tuple.tupleExact _) (wpAny_newObj_type (wpAny_pure ⟨_, rfl, wpAny_pure h⟩) htake))
end
/-- x[::-1], a list or a tuple -/
def tRevA (K : PySem.W.Frag) (te : TE) : TE := fun σ H Q => te σ H fun x H1 => ∃ a xs, x = .ref a ∧ ((SqL K H1 a xs ∧ ∀ p, H1 p = none → Q (.ref p) (upd H1 p (.lst xs.reverse))) ∨ (SqT K H1 a xs ∧ ∀ p, H1 p = none → Q (.ref p) (upd H1 p (.tup xs.reverse))))
theorem pe_revA {X : Cx} {e : Expr} {te : TE} {k : Nat} {p1 p2 p3 pos : Pos} (he : PE X e te) : PE X (.Subscript e (.Slice none none (some (.UnaryOp .USub (.Constant (.int 1) k p1) p2)) p3) pos) (tRevA X.K te) := by
  refine ⟨fun pins s σ H Q I h => ?_⟩
  refine Subscript_ (thn (he.run pins s σ H _ I h) fun v s1 ⟨x, H1, I1, r1, q1⟩ => ?_)
  obtain ⟨a, xs, ex, q⟩ := q1
  subst ex
  cases r1
  have hst : PO X (some (.UnaryOp .USub (.Constant (.int 1) k p1) p2)) (tPart (tUn (rU fun i => .int (-i)) (tC (.int 1)))) := po_some (pe_un un_neg pe_int)
  refine wpAny_Slice (thn (po_none.run pins s1 σ H1 (fun o H2 => o = none ∧ H2 = H1) I1 ⟨rfl, rfl⟩) fun vl s2 ⟨l, H2, I2, pl, el, e2⟩ => ?_)
  subst el e2
  refine thn (po_none.run pins s2 σ H2 (fun o H3 => o = none ∧ H3 = H2) I2 ⟨rfl, rfl⟩) fun vu s3 ⟨u, H3, I3, pu, eu, e3⟩ => ?_
  subst eu e3
  refine thn (hst.run pins s3 σ H3 (fun o H4 => o = some (-1) ∧ H4 = H3) I3 ⟨1, rfl, -1, rfl, rfl, rfl⟩) fun vs s4 ⟨o, H4, I4, ps, eo, e4⟩ => ?_
  subst eo e4
  have I5 : Inv X pins σ H4 { s4 with heap := s4.heap.push { cls := .type "slice", data := .fields #[vl, vu, vs] } } := I4.kept (t' := s4.toks) fun b ob q => Heap.get?_push_of_some _ q
  cases pl
  cases pu
  show wpAny (model X.prog X.w) X.A (subscriptTail e (.Slice none none (some (.UnaryOp .USub (.Constant (.int 1) k p1) p2)) p3) (.ref a) (.ref s4.heap.objs.size)) (EP X pins σ Q) X.xe { s4 with heap := s4.heap.push { cls := .type "slice", data := .fields #[.none, .none, vs] } }
  rcases q with ⟨hx, q⟩ | ⟨hx, q⟩
  · obtain ⟨its, r, ht, hz⟩ := I5.list hx
    have hlen := r.length
    refine tail_any (ops := [.ref a, .ref s4.heap.objs.size]) ht.isList.typeIs (PySem.slot_list_getitem.lookup) ?_ (by with_unfolding_all rfl)
    refine wpAny_getItem_list_slice ht.isList (Heap.IsSliceOf.new _ .none .none vs) .none .none ps (by decide) ?_ (by rw [List.size_toArray]; omega)
    rw [PySem.W.krv_pick]
    refine ⟨.ref _, _, I5.laid (t' := s4.toks) (o := .lst xs.reverse) (fun b ob q => Heap.get?_push_of_some _ q) (Nat.le_refl _) ?_, rfl, q _ (I5.hok.fresh (Nat.le_refl _))⟩
    exact ⟨by rw [List.length_reverse]; exact hz, _, 0, r.reverse, Heap.get?_push_size _ rfl⟩
  · obtain ⟨its, r, ht, hz⟩ := I5.tuple hx
    have hlen := r.length
    refine tail_any (ops := [.ref a, .ref s4.heap.objs.size]) ht.typeIs (PyProof.Rows.slot_tuple_getitem.lookup) ?_ (by with_unfolding_all rfl)
    refine getItem_tuple_rev ht (Heap.IsSliceOf.new _ .none .none vs) ps ?_ (by rw [List.size_toArray]; omega)
    refine ⟨.ref _, _, I5.laid (t' := s4.toks) (o := .tup xs.reverse) (fun b ob q => Heap.get?_push_of_some _ q) (Nat.le_refl _) ?_, rfl, q _ (I5.hok.fresh (Nat.le_refl _))⟩
    exact ⟨by rw [List.length_reverse]; exact hz, _, r.reverse, IsTup.new _ _⟩
def fRev (f : SE) : SE := fun cf env S => (f cf env S).bind fun w S1 => match w with
  | .d (.list xs) => .ok (.d (.list xs.reverse)) S1
  | .d (.tuple xs) => .ok (.d (.tuple xs.reverse)) S1
  | _ => .stuck
theorem me_rev {X : Cx} {cf : CF} {EX : WX} {e : Expr} {fa : SE} {k : Nat} {p1 p2 p3 pos : Pos} (h : ME X cf EX e fa) : ME X cf EX (.Subscript e (.Slice none none (some (.UnaryOp .USub (.Constant (.int 1) k p1) p2)) p3) pos) (fRev fa) :=
  PE.weak (pe_revA h) fun σ H Q ⟨env, S, μ, F, s, q⟩ => ⟨env, S, μ, F, s, (Post.bind q).mono fun w S1 H1 μ1 s1 x1 q1 v rv => by
    split at q1
    · obtain ⟨a, us, rfl, na, ha, ta⟩ := rw_lst rv
      exact ⟨a, us, rfl, .inl ⟨SqL.of ha, fun p n => post_lst s1 ta.reverse q1 n⟩⟩
    · obtain ⟨a, us, rfl, ha, ta⟩ := rw_tup rv
      exact ⟨a, us, rfl, .inr ⟨ha.sq, fun p n => post_tup (α := Unit) s1 ta.reverse q1 n⟩⟩
    · exact q1.elim⟩
end Q

namespace Q
open PySem PySem.Spec PyProof.Rows L2
section
variable {prog : Program} {w : World} {A : Around} {E : Value → Shared → Prop} {s : Shared}
end
section
variable {prog : Program} {w : World} {A : Around} {E : Value → Shared → Prop} {s : Shared}
end
section
variable {X : Cx} {cf : CF} {EX : WX} {K : PySem.W.Frag} {H : Hp} {N : Addr → Prop} {e e2 : Expr} {ha : SA} {p pos tpos kp kp2 : Pos} {elts : List Expr} {kk ck : Nat}
def iZipS (a : SA) : SI := fun cf env S => (a cf env S).bind fun ws S1 => match ws with
  | [.d (.tuple xs), .d (.tuple ys)] => if xs.length = ys.length then .ok (zipD xs ys) S1 else .stuck
  | _ => .stuck
end
end Q

namespace Q
open PySem PySem.Spec PyProof.Rows L2
/-- lo, lo + c, .. : n of them -/
def rangeC (lo c : Int) (n : Nat) : List D := (List.range n).map fun k : Nat => PyData.int (lo + k * c)
def rng3 (i j c : Int) : Option (List D) := if c ≠ 0 ∧ Nat.ble c.natAbs 1073741823 = true ∧ Builtin.Range.small i j c = true ∧ 0 ≤ Builtin.Range.rangeSize i j c then some (rangeC i c (Builtin.Range.rangeSize i j c).toNat) else none
def iRange3 (a : SA) : SI := fun cf env S => (a cf env S).bind fun ws S1 => match ws with
  | [.d (.int i), .d (.int j), .d (.int c)] => (match rng3 i j c with | some ds => .ok ds S1 | none => .stuck)
  | _ => .stuck
section
variable {X : Cx} {cf : CF} {EX : WX} {tg e : Expr} {fa : SE} {ha : SA} {p p2 pos q : Pos}
def fLstRg (f : SE) : SE := fun cf env S => (f cf env S).bind fun w S1 => match w with
  | .d (.int n) => if inR n && decide (n ≤ 16777216) then .ok (.d (.list (rangeD 0 n.toNat))) S1 else .stuck
  | _ => .stuck
def fTupRg (f : SE) : SE := fun cf env S => (f cf env S).bind fun w S1 => match w with
  | .d (.int n) => if inR n && decide (n ≤ 16777216) then .ok (.d (.tuple (rangeD 0 n.toNat))) S1 else .stuck
  | _ => .stuck
end
end Q

namespace Q
open PySem PySem.Spec PyProof.Rows L2
theorem band {a b : Bool} (h : (a && b) = true) : a = true ∧ b = true := by simpa using h
end Q

namespace Q
open PySem PySem.Spec PyProof.Rows L2

/-- a def: how many parameters, how many names, its body -/
structure FD where
  n : Nat
  slots : Nat
  body : SS
abbrev Tab := String → Option FD
def fin : RS → R W
  | .ret w S => .ok w S
  | .next _ S => .ok (.d .none) S
  | .exc c _ S => .exc c S
  | _ => .stuck
def startQ (m : Nat) (ws : List W) : EnvQ := ws.map some ++ List.replicate (m - ws.length) none
def callQ (T : Tab) : Nat → CF
  | 0 => fun _ _ _ => .stuck
  | k + 1 => fun x ws S => match T x with
    | none => .stuck
    | some d => if ws.length = d.n ∧ W.plains ws = true then fin (d.body (callQ T k) (startQ d.slots ws) S) else .stuck
section
variable {P : Program} {w : World} {K : PySem.W.Frag} {mg : Str → Option Value} {base : Heap} {T : Tab} {k : Nat}
theorem plains_get : ∀ {ws : List W} {i : Nat} {u : W}, W.plains ws = true → ws[i]? = some u → u.plain = true
  | [], _, _, _, h => by simp at h
  | x :: xs, 0, u, p, h => by
    simp at h
    subst h
    simp only [W.plains, Bool.and_eq_true] at p
    exact p.1
  | x :: xs, i + 1, u, p, h => by
    simp only [W.plains, Bool.and_eq_true] at p
    exact plains_get p.2 (by simpa using h)
theorem startQ_get {m : Nat} {ws : List W} {i : Nat} {u : W} (h : (startQ m ws)[i]? = some (some u)) : ws[i]? = some u := by
  unfold startQ at h
  by_cases hi : i < ws.length
  · rw [List.getElem?_append_left (by simpa using hi), List.getElem?_map] at h
    cases e : ws[i]? with
    | none => rw [e] at h; cases h
    | some a => rw [e] at h; cases h; rfl
  · rw [List.getElem?_append_right (by simpa using hi), List.getElem?_replicate] at h
    split at h <;> cases h
theorem start_get {N : List Str} {vs : List V} {i : Nat} {v : V} (h : vs[i]? = some v) : (start N vs)[i]? = some (some v) := by
  unfold L2.start
  have hi : i < vs.length := (List.getElem?_eq_some_iff.mp h).1
  rw [List.getElem?_append_left (by simpa using hi), List.getElem?_map, h]
  rfl
/-- a def's body at its entry -/
theorem body_start {F : Addr → Prop} {N : List Str} {H : Hp} {S : Sto} {μ : List Addr} {vs : List V} {ws : List W} {Q : VK} {E : XK} {r : RS} (sr : SimR K mg F H S μ) (rv : RWs K mg H (NR F μ) μ vs ws) (pl : W.plains ws = true) (hN : vs.length ≤ N.length) :
    Sim K mg F (start N vs) H (startQ N.length ws) S μ ∧ (PostR K mg F H μ (fin r) Q E → PostS K mg (fun c d _ H => E c d H) F (start N vs) (startQ N.length ws) H μ r { nx := fun _ H' => Q .non H', rt := Q }) := by
  have no : ∀ i a, ¬ OwnAt (start N vs) (startQ N.length ws) i a := fun i a ⟨_, u, h, o⟩ => by
    have p := plains_get pl (startQ_get h)
    rw [fine_own o] at p
    cases p
  have mm : ∀ a, MM μ (start N vs) (startQ N.length ws) a ↔ a ∈ μ := fun a => ⟨fun h => h.elim id fun ⟨i, h⟩ => (no i a h).elim, .inl⟩
  have nn : ∀ a, NN F μ (start N vs) (startQ N.length ws) a → NR F μ a := fun a h => h.elim (fun h => .inl ((mm a).mp h)) .inr
  have sim : Sim K mg F (start N vs) H (startQ N.length ws) S μ := by
    refine ⟨?_, fun i u h => ?_, fun i u h => ?_, fun i j a h _ => (no i a h).elim, fun i a h => (no i a h).elim, sr.st.sub nn, sr.ftr, fun a f h => sr.fdis a f ((mm a).mp h)⟩
    · unfold L2.start startQ
      simp [rv.length]
    · obtain ⟨v, hv, r⟩ := rv.get (startQ_get h)
      exact ⟨v, start_get hv, RW.sub nn r⟩
    · unfold W.fine
      rw [plains_get pl (startQ_get h), Bool.true_or]
  refine ⟨sim, fun q => ?_⟩
  have back : ∀ {σ' : L2.St} {env' : EnvQ} {H' : Hp} {S' : Sto} {μ' : List Addr}, Sim K mg F σ' H' env' S' μ' → ExS (start N vs) (startQ N.length ws) H μ σ' env' H' μ' → SimR K mg F H' S' μ' ∧ ExR H μ H' μ' := fun s' x => by
    obtain ⟨sr', k'⟩ := s'.leave
    exact ⟨sr', ⟨fun a o na e => (x.keep.trans k') a o (fun h => na ((mm a).mp h)) e, x.pre⟩⟩
  cases r with
  | next e S' =>
    intro σ' H' μ' s' x
    obtain ⟨sr', x'⟩ := back s' x
    exact q .non H' μ' sr' x' (.d .non)
  | brk e S' => exact q.elim
  | cont e S' => exact q.elim
  | ret u S' =>
    intro v H' μ' sr' k' p' rv'
    exact q v H' μ' sr' ⟨fun a o na e => k' a o (fun h => na ((mm a).mp h)) e, p'⟩ rv'
  | exc c e S' =>
    intro C σ' H' μ' g s' x
    obtain ⟨sr', x'⟩ := back s' x
    exact q C H' μ' g sr' x'
  | stuck => exact q.elim
/-- a def of the text -/
structure DQ (K : PySem.W.Frag) (mg : Str → Option Value) (x y z : String) (params : Arguments) (body : List Stmt) (scope : Scope) (N ps : List Str) (f : Addr) (fd : FuncData) : Prop where
  F : FunD K (Str.ofString y) (Str.ofString z) params body scope [] [] f fd
  S : FnScope N ps scope
  g : mg (Str.ofString x) = some (.ref f)
  b : Binds K fd ps []
theorem fn_zero {x y z : String} {params : Arguments} {body : List Stmt} {scope : Scope} {N ps : List Str} {f : Addr} {fd : FuncData} (d : DQ K mg x y z params body scope N ps f fd) : FnQ P w K mg base (callQ T 0) 0 x ps.length :=
  ⟨f, fd, ps, ⟨fun vs H Q E h => h.1, fun A outer s H args us vs Q E hg hr he hb hv h => by
    obtain ⟨_, ws, S, μ, F, _, _, _, q⟩ := h
    exact q.elim⟩, d.g, d.F.kp, d.b, rfl⟩
theorem fn_succG {x y z : String} {params : Arguments} {body : List Stmt} {scope : Scope} {N ps : List Str} {f : Addr} {fd : FuncData} {D : FD} (d : DQ K mg x y z params body scope N ps f fd) (hT : T x = some D) (hn : D.n = ps.length) (hs : D.slots = N.length) (hl : ps.length ≤ N.length)
    (h : ∀ (cdv : Value) (A : Around) (outer : List Env) (s : Shared) (H : Hp) (E : XK), A.guards = some [] → Room k (A.deeper (envOfC (Str.ofString z) scope s.heap.objs.size f cdv)) →
      MSs (cxOf (L2.CX P w) P w K mg base N (Str.ofString z) scope f cdv A outer s H E) (callQ T k) (fun c d _ H => E c d H) body D.body) : FnG P w K mg base (L2.CX P w) (k + 1) f fd ps (SpQ K mg (callQ T (k + 1)) x ps.length) := by
  refine ok_G d.F d.S (fun vs H Q E h => h.1) fun cdv A outer s H vs Q E hg hr hsp => ⟨_, h cdv A outer s H E hg hr, ?_⟩
  obtain ⟨hlen, ws, S, μ, F, sr, rv, pl, q⟩ := hsp
  have e : callQ T (k + 1) x ws S = fin (D.body (callQ T k) (startQ D.slots ws) S) := by
    show (match T x with | none => R.stuck | some d => if ws.length = d.n ∧ W.plains ws = true then fin (d.body (callQ T k) (startQ d.slots ws) S) else .stuck) = _
    rw [hT]
    exact if_pos ⟨by rw [hn, ← hlen, rv.length], pl⟩
  rw [e, hs] at q
  obtain ⟨s1, q1⟩ := body_start (N := N) (Q := Q) (E := E) (r := D.body (callQ T k) (startQ N.length ws) S) sr rv pl (by omega)
  exact ⟨_, S, μ, F, s1, q1 q⟩
theorem fn_succ {x y z : String} {params : Arguments} {body : List Stmt} {scope : Scope} {N ps : List Str} {f : Addr} {fd : FuncData} {D : FD} (d : DQ K mg x y z params body scope N ps f fd) (hT : T x = some D) (hn : D.n = ps.length) (hs : D.slots = N.length) (hl : ps.length ≤ N.length)
    (h : ∀ (cdv : Value) (A : Around) (outer : List Env) (s : Shared) (H : Hp) (E : XK), A.guards = some [] → Room k (A.deeper (envOfC (Str.ofString z) scope s.heap.objs.size f cdv)) →
      MSs (cxOf (L2.CX P w) P w K mg base N (Str.ofString z) scope f cdv A outer s H E) (callQ T k) (fun c d _ H => E c d H) body D.body) : FnQ P w K mg base (callQ T (k + 1)) (k + 1) x ps.length :=
  ⟨f, fd, ps, fn_succG d hT hn hs hl h, d.g, d.F.kp, d.b, rfl⟩
theorem only_scr {H : Hp} {a : Addr} {xs : List V} (h : SqL K H a xs) : RdF K H (NR (fun _ => False) []) a xs := by
  rcases h with h | h
  · exact .inl ⟨fun z => z.elim (fun z => by cases z) id, h⟩
  · exact .inr (.inr h)
theorem law_sp {x : String} (law : ∀ ns : List Int, ns.length ≤ 63 → ∃ S', callQ T k x [.scr ns] [] = .ok (.d (.bool true)) S') (H : Hp) (a : Addr) (ns : List Int) (hl : ns.length ≤ 63) (hO : Only H) (hS : SqL K H a (ns.map V.int)) :
    SpQ K mg (callQ T k) x 1 [.ref a] H (fun v _ => v = .bl true) fun _ _ _ => False := by
  obtain ⟨S', e⟩ := law ns hl
  refine ⟨rfl, [.scr ns], [], [], fun _ => False, ⟨⟨rfl, .nil, fun n o h => by simp at h⟩, fun _ h => h.elim, fun _ h => h.elim⟩, .cons (.scr (only_scr hS)) .nil, rfl, ?_⟩
  rw [e]
  intro v H' μ' _ _ rv
  exact rw_bl rv
end
end Q

namespace Q
open PySem PySem.Spec PyProof.Rows L2
structure ExcF (K : PySem.W.Frag) (mg : Str → Option Value) (c : String) : Prop where
  ex : ∃ C, mg (Str.ofString c) = some (.ref C) ∧ PySem.W.excIn K C He.veBase "ValueError.__new__" = true ∧ PySem.W.keepIn K (.ref C) = true ∧ PySem.W.subIn K (.ref C) (.type "BaseException") = some true ∧ PySem.W.typeIn K (.ref C) = some (.type "type")
section
variable {X : Cx} {cf : CF} {EX : WX} {pos p p2 : Pos} {c : String}
theorem pmk_own0 {C : Addr} {bmB : List Value} {B newId initId : String} {x : Str} (F : ExcBaseFacts B newId initId bmB) (q : PySem.W.excIn X.K C bmB newId = true) (gC : X.mg x = some (.ref C)) (kC : PySem.W.keepIn X.K (.ref C) = true) (r : Raises X (.ref C)) (hg : Gl X x)
    (hdb : (x == ("__debug__" : Str)) = false) : PMk X (.Call (.Name x p) [] [] pos) (fun _ H Q => Q (.ref C) none H) := by
  intro pins s σ H Q I h
  refine wpAny_Call_Name_kw (ld_glob I hg gC ?_ hdb)
  refine PySem.W.callWith_K0 I.kIn kC ?_
  show wpAny _ _ (call (.ref C) []) _ _ _
  obtain ⟨bm, N, nm, qn, bs, hdct, sn, sub, ab, col, dd, k0, k1, k2, k3, k5, mN, hC, hN, hni, T⟩ := exc_obj I.kIn q
  refine wpAny_call_exc_subT F T hC hN hni (fun h' e hm => ?_) (by show 0 ≤ sizeLine; omega)
  exact mk_of I hm r h (I.hok.gone hm.new)
theorem ms_raise (f : ExcF X.K X.mg c) (hc : X.calm = true) (tk : Takes X EX) (hg : Gl X (Str.ofString c)) (hd : (Str.ofString c == ("__debug__" : Str)) = false := by decide) : MS X cf EX (.Raise (some (.Call (.Name (Str.ofString c) p) [] [] p2)) none pos) (sRaise c) := by
  obtain ⟨C, h1, h2, h3, h4, h5⟩ := f.ex
  exact PS.weak (ps_raise hc tk (pmk_own0 PySem.F.excBase_ValueError h2 h1 h3 (raises_own h4 h5) hg hd)) fun D σ H ⟨env, S, μ, F, s, q⟩ => q C σ H μ h1 s (ExS.refl _ _ _ _)
end
end Q

namespace Q
open PySem PySem.Spec PyProof.Rows L2
section
variable {X : Cx} {cf : CF} {EX : WX} {k n : Nat} {p pos : Pos} {e : Expr} {es : List Expr} {ff : SE} {ha : SA} {t : TA} {tf : TE} {x : Str} {ys : List String}
/-- the call of what a name holds: one of these defs -/
def fCallV (ff : SE) (n : Nat) (ys : List String) (a : SA) : SE := fun cf env S => (ff cf env S).bind fun w S1 => match w with
  | .fn y => if y ∈ ys then (a cf env S1).bind fun ws S2 => arity n ws (cf y ws S2) else .stuck
  | _ => .stuck
@[simp] theorem x_callV {env : EnvQ} {S : Sto} (ff : SE) (n : Nat) (ys : List String) (a : SA) : fCallV ff n ys a cf env S = (ff cf env S).bind fun w S1 => match w with
  | .fn y => if y ∈ ys then (a cf env S1).bind fun ws S2 => arity n ws (cf y ws S2) else .stuck
  | _ => .stuck := rfl
end
end Q

namespace Q
open PySem PySem.Spec PyProof.Rows L2
def max2 (i j : Int) : Int := if i < j then j else i
def min2 (i j : Int) : Int := if j < i then j else i
def gMax3 : GN
  | [.d (.int i), .d (.int j), .d (.int l)], S => .ok (.d (.int (max2 (max2 i j) l))) S
  | _, _ => .stuck
def gMin3 : GN
  | [.d (.int i), .d (.int j), .d (.int l)], S => .ok (.d (.int (min2 (min2 i j) l))) S
  | _, _ => .stuck
section
variable {X : Cx} {cf : CF} {EX : WX} {e : Expr} {es : List Expr} {ha : SA} {p pos : Pos}
@[simp] theorem g_max3 (i j l : Int) (S : Sto) : gMax3 [.d (.int i), .d (.int j), .d (.int l)] S = .ok (.d (.int (max2 (max2 i j) l))) S := rfl
@[simp] theorem g_min3 (i j l : Int) (S : Sto) : gMin3 [.d (.int i), .d (.int j), .d (.int l)] S = .ok (.d (.int (min2 (min2 i j) l))) S := rfl
end
end Q

namespace Q
open PySem PySem.Spec PyProof.Rows L2
/-- what is handed in by names stands in the def's own order -/
def byIx {α : Type} (z : α) (idx : List Nat) (xs : List α) : List α := idx.map fun i => xs.getD i z
section
variable {X : Cx} {cf : CF} {k n : Nat} {f : Addr} {fd : FuncData} {ps ks : List Str} {idx : List Nat} {sp : Sp} {EX : WX} {x : Str} {p pos kpos : Pos} {kws : List Keyword} {t : TA} {e : Expr} {fa : SE} {ha : SA} {nm : Option Str}
theorem PK.weak {t' : TA} (h : PK X kws t) (w : ∀ σ H Q, t' σ H Q → t σ H Q) : PK X kws t' := ⟨fun pos pins s σ H Q I q => h.run pos pins s σ H Q I (w σ H Q q)⟩
def fCallK (x : String) (m : Nat) (idx : List Nat) (a : SA) : SE := fun cf env S => (a cf env S).bind fun ws S1 => if ws.length = m ∧ W.plains ws = true then cf x (byIx (.d .none) idx ws) S1 else .stuck
end
section
variable {P : Program} {w : World} {K : PySem.W.Frag} {mg : Str → Option Value} {base : Heap} {k : Nat} {T : Tab} {ks : List Str} {idx : List Nat} {x y z : String} {params : Arguments} {body : List Stmt} {scope : Scope} {N ps : List Str} {f : Addr} {fd : FuncData}
end
@[simp] theorem x_callK (x : String) (m : Nat) (idx : List Nat) (a : SA) (cf : CF) (env : EnvQ) (S : Sto) : fCallK x m idx a cf env S = (a cf env S).bind fun ws S1 => if ws.length = m ∧ W.plains ws = true then cf x (byIx (.d .none) idx ws) S1 else .stuck := rfl
end Q

namespace Q
open PySem PySem.Spec PyProof.Rows L2
def okShowX (d : D) : Bool := d.showable && decide (d.depth ≤ 60) && decide (d.shown.length ≤ LIM)
def gReprX : GN
  | [.d d], S => if okShowX d then .ok (.d (.str d.shown)) S else .stuck
  | _, _ => .stuck
section
variable {X : Cx} {pins : List (Addr × Obj)} {σ : L2.St} {H : Hp} {s : Shared} {N : Addr → Prop} {cf : CF} {EX : WX} {e : Expr} {ha : SA} {p pos : Pos}
theorem one_free (h1 : ∃ o, X.K.lookup 1 = some o) (I : Inv X pins σ H s) : H 1 = none := by
  obtain ⟨o, e⟩ := h1
  exact (I.bs 1 o (I.ok.mod.kin 1 o e)).2
theorem kvf_reads {P : Program} {w : World} {h : Heap} : ∀ {kvs : List (Key × V)} {ds : List (D × D)} {vs : List (Key × Value)} {es : List DictEntry}, KvF kvs ds → KV kvs vs → Pairs (mixKind P w) es vs → ReadsAll h (es.map (·.key)) (ds.map (·.1)) [] ∧ ReadsAll h (es.map (·.val)) (ds.map (·.2)) []
  | _, _, _, _, .nil, kv, pr => by
    cases kv
    cases pr
    exact ⟨.nil, .nil⟩
  | _, _, _, _, .cons k f t, kv, pr => by
    cases kv with
    | @cons _ b _ _ rv kt =>
      obtain ⟨k', u⟩ := b
      obtain ⟨e0, rv⟩ := rv
      have e0 : k = k' := e0
      subst e0
      cases pr with
      | @cons e kv' es' kvs' h1 h2 pt =>
        obtain ⟨a1, a2⟩ := kvf_reads t kt pt
        refine ⟨ReadsAll.cons (as := []) (bs := []) ?_ a1, ReadsAll.cons (as := []) (bs := []) ?_ a2⟩
        · rcases keyIs_shape (show keyIs k e.key = true from h1) with ⟨i, t, rfl, e3⟩ | ⟨x, t, rfl, e3⟩
          · show Reads h e.key (.int i) []
            rw [e3]; exact .int i t
          · show Reads h e.key (.str x) []
            rw [e3]; exact .str x t
        · have rv : RelV _ u := rv
          show Reads h e.val _ []
          rw [h2]
          show Reads h u _ []
          cases f with
          | non => cases rv; exact .none
          | bl b => cases rv; exact .bool b
          | int i => obtain ⟨t, rfl⟩ := rv; exact .int i t
          | str x => obtain ⟨t, rfl⟩ := rv; exact .str x t
mutual
theorem dn_reads (h1 : H 1 = none) (I : Inv X pins σ H s) : ∀ {v : V} {d : D} {u : Value}, Dn X.K H N v d → RelV v u → ∃ as, Reads s.heap u d as ∧ ¬ sysModules ∈ as
  | _, _, u, .non, r => by cases r; exact ⟨[], .none, by simp⟩
  | _, _, u, .bl b, r => by cases r; exact ⟨[], .bool b, by simp⟩
  | _, _, u, .int i, r => by obtain ⟨t, rfl⟩ := r; exact ⟨[], .int i t, by simp⟩
  | _, _, u, .str x, r => by obtain ⟨t, rfl⟩ := r; exact ⟨[], .str x t, by simp⟩
  | _, _, u, .lst (a := a) h t, r => by
    cases r
    obtain ⟨its, n, vr, e, hl⟩ := I.lst h.2
    obtain ⟨as, ra, hn⟩ := dns_reads h1 I t vr
    refine ⟨a :: as, .list e rfl rfl (by simpa using ra), fun m => ?_⟩
    rcases List.mem_cons.mp m with m | m
    · have : a = 1 := m.symm
      subst this
      have := h.2
      rw [h1] at this
      cases this
    · exact hn m
  | _, _, u, .tup (a := a) h t, r => by
    cases r
    obtain ⟨its, vr, e, hl⟩ := I.tuple h.sq
    obtain ⟨as, ra, hn⟩ := dns_reads h1 I t vr
    obtain ⟨o, e0, e1, n, e2⟩ := e
    exact ⟨as, .tuple e0 e1 e2 (by simpa using ra), hn⟩
  | _, _, u, .dic (a := a) h t f, r => by
    cases r
    obtain ⟨_, hl, ha, vs, kv, o, es, ep, e1, ⟨e2, e2', e2''⟩, e3, e4, e5, e6⟩ := I.hok a _ t
    obtain ⟨r1, r2⟩ := kvf_reads (h := s.heap) f kv e5
    refine ⟨a :: [] ++ [], .dict e1 e2 e3 r1 r2, fun m => ?_⟩
    simp at m
    subst m
    simp at ha
theorem dns_reads (h1 : H 1 = none) (I : Inv X pins σ H s) : ∀ {vs : List V} {ds : List D} {us : List Value}, DnAll X.K H N vs ds → Vals vs us → ∃ as, ReadsAll s.heap us ds as ∧ ¬ sysModules ∈ as
  | _, _, us, .nil, r => by cases r; exact ⟨[], .nil, by simp⟩
  | _, _, us, .cons h t, r => by
    cases r with
    | cons r1 r2 =>
      obtain ⟨as, ra, hn⟩ := dn_reads h1 I h r1
      obtain ⟨bs, rb, hm⟩ := dns_reads h1 I t r2
      exact ⟨as ++ bs, .cons ra rb, fun m => (List.mem_append.mp m).elim hn hm⟩
end
theorem call_reprX {k : Nat} (h1 : ∃ o, X.K.lookup 1 = some o) (hA : X.A.guards = some []) (hr : Room k X.A) : CallR X (.builtin "repr") (fun xs H Q => ∃ N x d, xs = [x] ∧ Dn X.K H N x d ∧ d.showable = true ∧ d.depth ≤ 60 ∧ d.shown.length ≤ sizeLine ∧ Q (.str d.shown) H) := by
  intro pins s σ H xs us Q I r h
  obtain ⟨N, x, d, rfl, hd, hs, h3, h4, q⟩ := h
  obtain ⟨u, rfl, rx⟩ := vals1 r
  have un := hr.units
  obtain ⟨as, rd, hn⟩ := dn_reads (one_free h1 I) I hd rx
  cases d with
  | none =>
    cases rd
    exact PySem.P.repr_of_none ⟨.str _, H, I.tok _, ⟨_, rfl⟩, by simpa [PyData.shown] using q⟩
  | bool b =>
    cases rd
    exact PySem.P.repr_of_bool ⟨.str _, H, I.tok _, ⟨_, rfl⟩, by simpa [PyData.shown] using q⟩
  | int i =>
    cases rd
    exact PySem.P.repr_of_int (by simpa [PyData.showable] using hs) ⟨.str _, H, I.tok _, ⟨_, rfl⟩, by simpa [PyData.shown] using q⟩
  | str z =>
    cases rd
    exact PySem.P.repr_of_str ⟨.str _, H, I.tok _, ⟨_, rfl⟩, by simpa [PyData.shown] using q⟩ (by simpa [PyData.shown] using h4)
  | list ds =>
    have hu : X.A.units + (PyData.depth (.list ds) + 1) < cLine := by omega
    cases rd with
    | list e1 e2 e3 e4 =>
      exact repr_of_reads' (.list e1 e2 e3 e4) hs (fun _ => hn) hA hu (fun _ _ e => e) (fun h' u tk hk => ⟨.str _, H, I.kept (t' := tk) hk, ⟨_, rfl⟩, q⟩) h4
  | tuple ds =>
    have hu : X.A.units + (PyData.depth (.tuple ds) + 1) < cLine := by omega
    cases rd with
    | tuple e1 e2 e3 e4 =>
      exact repr_of_reads' (.tuple e1 e2 e3 e4) hs (fun _ => hn) hA hu (fun _ _ e => e) (fun h' u tk hk => ⟨.str _, H, I.kept (t' := tk) hk, ⟨_, rfl⟩, q⟩) h4
  | dict kvs =>
    have hu : X.A.units + (PyData.depth (.dict kvs) + 1) < cLine := by omega
    cases rd with
    | dict e1 e2 e3 e4 e5 =>
      exact repr_of_reads' (.dict e1 e2 e3 e4 e5) hs (fun _ => hn) hA hu (fun _ _ e => e) (fun h' u tk hk => ⟨.str _, H, I.kept (t' := tk) hk, ⟨_, rfl⟩, q⟩) h4
theorem co_reprX : CallOp X EX (fun xs H Q => ∃ N x d, xs = [x] ∧ Dn X.K H N x d ∧ d.showable = true ∧ d.depth ≤ 60 ∧ d.shown.length ≤ sizeLine ∧ Q (.str d.shown) H) gReprX := by
  intro F σ env S H μ vs ws Q s rvs q
  unfold gReprX at q
  split at q
  · obtain ⟨v, rfl, rv⟩ := rws1 rvs
    split at q
    · rename_i hs
      simp only [okShowX, Bool.and_eq_true, decide_eq_true_eq] at hs
      obtain ⟨⟨h1, h3⟩, h4⟩ := hs
      cases rv with
      | d hd => exact ⟨_, v, _, rfl, hd, h1, h3, by rw [← lim_line]; exact h4, post_here s (.d (.str _)) q⟩
    · exact q.elim
  · exact q.elim
theorem me_reprX {k : Nat} (h1 : ∃ o, X.K.lookup 1 = some o) (hA : X.A.guards = some []) (hr : Room k X.A) (hg : Gl X "repr") (hm : X.mg "repr" = none) (h : MA X cf EX [e] ha) (he : starEach [e] X.env = (false, eval e X.env) :: starEach [] X.env := by rfl) (hpl : (backTo pos (starEach [] X.env)).any (·.1) = false := by rfl) :
    ME X cf EX (.Call (.Name "repr" p) [e] [] pos) (fB gReprX ha) := me_callB (call_reprX h1 hA hr) co_reprX hg hm (by decide +kernel) h (he := he) (hpl := hpl)
end
theorem one_ok {K : PySem.W.Frag} {cs : List (Str × D)} (h : oneB cs K = true) : ∃ o, K.lookup 1 = some o := Option.isSome_iff_exists.mp (band h).1
theorem obs1_eq {n : Nat} {fa : List He.Fa} {fn : List He.DefD} {ex : PySem.W.Frag → Bool} {g : Addr → Option Obj} {s : Shared} (h : ∀ a, g a = s.heap.get? a) : obs1 n fa fn ex g = (hookQ1 n fa fn ex).obs s := by
  have e : g = s.heap.get? := funext h
  rw [e] <;> rfl
end Q

namespace Q
open PySem PySem.Spec PyProof.Rows L2
section
variable {X : Cx} {cf : CF} {EX : WX}
def rEqZ (K : PySem.W.Frag) : R2 := fun x y H Q => (∃ a b xs, x = .ref a ∧ y = .ref b ∧ SqT K H a xs ∧ SqT K H b [] ∧ Q (.bl xs.isEmpty) H) ∨ (∃ a b xs, x = .ref a ∧ y = .ref b ∧ SqL K H a xs ∧ SqL K H b [] ∧ Q (.bl xs.isEmpty) H)
theorem op_eqZ (hu : X.A.units < cLine) : OpR X (compareOp .Eq) (rEqZ X.K) := by
  rintro pins s σ H x y v u Q I rx ry (⟨a, b, xs, rfl, rfl, h1, h2, q⟩ | ⟨a, b, xs, rfl, rfl, h1, h2, q⟩)
  · cases rx; cases ry
    obtain ⟨its, vr, e, -⟩ := I.tuple h1
    obtain ⟨its2, vr2, e2, -⟩ := I.tuple h2
    cases vr2
    refine PySem.SeqAt.eq_tupleAt (e := fun _ => true) e e2 hu (fun j _ h => absurd h (by simp)) ?_
    refine ⟨.bl xs.isEmpty, H, I, ?_, q⟩
    have hl := vr.length
    cases xs with
    | nil => cases its with
      | nil => rfl
      | cons => simp at hl
    | cons y ys => cases its with
      | nil => simp at hl
      | cons => rfl
  · cases rx; cases ry
    obtain ⟨its, vr, e, -⟩ := I.list h1
    obtain ⟨its2, vr2, e2, -⟩ := I.list h2
    cases vr2
    have hl := vr.length
    obtain ⟨o, n, a1, a2, a3, a4⟩ := e
    obtain ⟨o', n', b1, b2, b3, b4⟩ := e2
    cases xs with
    | nil =>
      cases its with
      | nil => exact PySem.SeqAt.eq_listAt (e := fun _ => true) ⟨o, a1, a2, n, a4⟩ ⟨o', b1, b2, n', b4⟩ rfl hu (fun j _ h => absurd h (by simp)) ⟨.bl true, H, I, rfl, q⟩
      | cons => simp at hl
    | cons y ys => cases its with
      | nil => simp at hl
      | cons z zs => exact PySem.SeqAt.eq_list_lengthsAt ⟨o, a1, a2, n, a4⟩ ⟨o', b1, b2, n', b4⟩ (by simp) hu ⟨.bl false, H, I, rfl, q⟩
/-- == where one side is () or [] -/
def gEqZ : G2
  | .d (.tuple xs), .d (.tuple []), S => .ok (.d (.bool xs.isEmpty)) S
  | .d (.list xs), .d (.list []), S => .ok (.d (.bool xs.isEmpty)) S
  | x, y, S => gEq x y S
theorem dns_isEmpty {K : PySem.W.Frag} {H : Hp} {N : Addr → Prop} {vs : List V} {ds : List D} (h : DnAll K H N vs ds) : vs.isEmpty = ds.isEmpty := by cases h <;> rfl
theorem o_eqZ : Op X EX (fun x y H Q => rEqZ X.K x y H Q ∨ (rEqD X.K x y H Q ∨ rEq x y H Q)) gEqZ := by
  intro F σ env S H μ x y w u Q s rx pw ry pu q
  unfold gEqZ at q
  split at q
  · cases rx with
    | d hx => cases ry with
      | d hy => cases hx with
        | tup h1 t1 => cases hy with
          | tup h2 t2 =>
            cases t2
            exact .inl (.inl ⟨_, _, _, rfl, rfl, h1.sq, h2.sq, by rw [dns_isEmpty t1]; exact post_here (EX := EX) s (.d (.bl _)) q⟩)
  · cases rx with
    | d hx => cases ry with
      | d hy => cases hx with
        | lst h1 t1 => cases hy with
          | lst h2 t2 =>
            cases t2
            exact .inl (.inr ⟨_, _, _, rfl, rfl, h1.sq, h2.sq, by rw [dns_isEmpty t1]; exact post_here (EX := EX) s (.d (.bl _)) q⟩)
  · exact .inr (o_eq F σ env S H μ x y w u Q s rx pw ry pu q)
theorem gp_eqZ : ∀ w u S, w.plain = false ∨ u.plain = false → gEqZ w u S = .stuck := by
  intro w u S h
  unfold gEqZ
  split
  · simp [W.plain] at h
  · simp [W.plain] at h
  · exact gp_eq _ _ _ h
theorem cm_eqZ {k : Nat} (hr : Room k X.A) : Cm X EX .Eq gEqZ := ⟨⟨_, OpR.or (op_eqZ (by have := hr.units; omega)) (op_eqU hr), o_eqZ⟩, gp_eqZ⟩
@[simp] theorem g_eqZT (xs : List D) (S : Sto) : gEqZ (.d (.tuple xs)) (.d (.tuple [])) S = .ok (.d (.bool xs.isEmpty)) S := rfl
@[simp] theorem g_eqZL (xs : List D) (S : Sto) : gEqZ (.d (.list xs)) (.d (.list [])) S = .ok (.d (.bool xs.isEmpty)) S := rfl
@[simp] theorem x_dic0 (cf : CF) (env : EnvQ) (S : Sto) : fDic0 cf env S = .ok (.d (.dict [])) S := rfl
end
end Q

namespace Q
open PySem PySem.Spec PyProof.Rows L2
theorem asIndex_int {M : Model} {A : Around} {E : Value → Shared → Prop} {s : Shared} {k : Int} {u : Tok} {Q : Int → Shared → Prop} (q : Q k s) : wpAny M A (asIndex (.int k u)) Q E s := by
  have e : asIndex (.int k u) = pure k := by rfl
  rw [e]
  exact wpAny_pure q
theorem tuple_mul0 {prog : Program} {w : World} {A : Around} {E : Value → Shared → Prop} {s : Shared} {l : Addr} {items : Array Value} {k : Int} {u : Tok} {Q : PySem.Fin → Shared → Prop} (ht : IsTup s.heap l items) (hk : k ≤ 0) (hk2 : ¬ k < -2 ^ 63) (hne : items.isEmpty = false)
    (q : Q (.done (.ret (.ref s.heap.objs.size))) { s with heap := s.heap.push { cls := .type "tuple", data := .seq #[] } }) : wpAny (model prog w) A (Builtin.«tuple.__mul__» ⟨[.ref l, .int k u], []⟩) Q E s := by
  show wpAny _ _ (asIndex (.int k u) >>= _) _ _ _
  refine wpAny_bind (asIndex_int ?_)
  have h1 : (decide (k < -2 ^ 63) || decide (k ≥ 2 ^ 63)) = false := by simp; omega
  have h2 : (items.isEmpty || k == 1) = false := by rw [hne]; simp; omega
  have h3 : (decide (k ≤ 0) || items.isEmpty) = true := by simp [hk]
  simp only [h1]
  show wpAny _ _ (Builtin.Tuple.tupleItemsOf (.ref l) >>= _) _ _ _
  refine wpAny_bind (tupleItemsOf_ ht ?_)
  simp only [h2, h3]
  show wpAny _ _ (newTuple [] >>= _) _ _ _
  refine wpAny_bind (wpAny_newTuple ?_)
  exact wpAny_pure q
def rRep0 (K : PySem.W.Frag) : R2 := fun x y H Q => ∃ l k xs, x = .ref l ∧ y = .int k ∧ SqT K H l xs ∧ xs ≠ [] ∧ k ≤ 0 ∧ -1000 ≤ k ∧ ∀ p, H p = none → Q (.ref p) (upd H p (.tup []))
section
variable {X : Cx} {cf : CF} {EX : WX}
theorem op_rep0 : OpR X (binaryOp .Mult) (rRep0 X.K) := by
  rintro pins s σ H x y v u Q I rx ry ⟨l, k, xs, rfl, rfl, hT, hne, h0, h1, q⟩
  cases rx
  obtain ⟨t, rfl⟩ := ry
  obtain ⟨its, r, e, hl⟩ := I.tuple hT
  have hits : its ≠ [] := fun z => by subst z; cases r; exact hne rfl
  have hie : its.toArray.isEmpty = false := by cases its with | nil => exact absurd rfl hits | cons => rfl
  have ty : s.TypeIs (.ref l) "tuple" := e.typeIs
  obtain ⟨⟨cls, dd, data, sl⟩, ho, hc, n, hd⟩ := e
  cases hc
  cases hd
  refine wpAny_binaryOp_repeat_ref (T := "tuple") (U := "int") (id := "tuple.__mul__") (idr := "int.__rmul__") (by decide) ty (fun s' => by first | rfl | exact ⟨⟩ | trivial) noFill_tuple_mul PySem.F.fills_int_mul PySem.F.slot_int_rmul repeat_tuple PySem.int_index ?_
  refine PySem.call_meets PySem.F.slot_int_rmul (by first | rfl | exact ⟨⟩ | trivial) PySem.F.entry_int_rmul (PySem.F.args_int_rmul_2 _ _) (int_rmul_tuple k t l its.toArray n dd sl) ⟨ho, rfl, ty, ?_⟩
  refine PySem.call_meets (S := fun A R s' => s' = s ∧ R (.ok (.ret (.ref s.heap.objs.size))) { s with heap := s.heap.push { cls := .type "tuple", data := .seq #[] } }) PySem.F.slot_tuple_mul ty PySem.F.entry_tuple_mul (PySem.F.args_tuple_mul_2 _ _) ?_ ⟨rfl, ?_⟩
  · intro prog w A R s' ⟨e, h⟩
    subst e
    exact tuple_mul0 ⟨_, ho, rfl, n, rfl⟩ h0 (by omega) hie h
  · refine ⟨.ref s.heap.objs.size, upd H s.heap.objs.size (.tup []), I.laid (t' := s.toks) (fun b u e => Heap.get?_push_of_some _ e) (Nat.le_refl _) ?_, rfl, q _ I.fresh⟩
    exact ⟨Nat.zero_le _, [], .nil, ⟨_, Heap.get?_push_size _ rfl, rfl, _, rfl⟩⟩
variable {a b : Expr} {fa fb : SE} {pos : Pos}
/-- a tuple so often, as none too -/
def gMul0 : G2
  | .d (.tuple xs), .d (.int k), S => if k ≤ 0 then (if xs ≠ [] ∧ -1000 ≤ k then .ok (.d (.tuple [])) S else .stuck) else gMul2 (.d (.tuple xs)) (.d (.int k)) S
  | x, y, S => gMul2 x y S
theorem o_mul0 : Op X EX (fun x y H Q => rRep0 X.K x y H Q ∨ ((rI CMul fun i j => .int (i * j)) x y H Q ∨ rRep x y H Q ∨ rRepT X.K x y H Q)) gMul0 := by
  intro F σ env S H μ x y w u Q s rx pw ry pu q
  unfold gMul0 at q
  split at q
  · split at q
    · rename_i h0
      split at q
      · rename_i h
        obtain ⟨a, vs, rfl, ha, ta⟩ := rw_tup rx
        rw [rw_int ry]
        refine .inl ⟨a, _, vs, rfl, rfl, ha.sq, fun e => h.1 ?_, h0, h.2, fun p n => post_tup (α := Unit) s DnAll.nil q n⟩
        subst e
        cases ta
        rfl
      · exact q.elim
    · exact .inr (o_mul F σ env S H μ x y _ _ Q s rx rfl ry rfl q)
  · exact .inr (o_mul F σ env S H μ x y w u Q s rx pw ry pu q)
end
end Q

namespace Q
open PySem PySem.Spec PyProof.Rows L2
theorem tuple_mul1 {prog : Program} {w : World} {A : Around} {E : Value → Shared → Prop} {s : Shared} {l : Addr} {items : Array Value} {k : Int} {u : Tok} {Q : PySem.Fin → Shared → Prop} (ht : IsTup s.heap l items) (hk : k ≤ 1000) (hk2 : ¬ k < -2 ^ 63) (hne : (items.isEmpty || k == 1) = true)
    (q : Q (.done (.ret (.ref l))) s) : wpAny (model prog w) A (Builtin.«tuple.__mul__» ⟨[.ref l, .int k u], []⟩) Q E s := by
  show wpAny _ _ (asIndex (.int k u) >>= _) _ _ _
  refine wpAny_bind (asIndex_int ?_)
  have h1 : (decide (k < -2 ^ 63) || decide (k ≥ 2 ^ 63)) = false := by simp; omega
  simp only [h1]
  show wpAny _ _ (Builtin.Tuple.tupleItemsOf (.ref l) >>= _) _ _ _
  refine wpAny_bind (tupleItemsOf_ ht ?_)
  simp only [hne]
  show wpAny _ _ (Builtin.Tuple.tupleIsExact (.ref l) >>= _) _ _ _
  refine wpAny_bind ?_
  obtain ⟨o, ho, hc, n, hd⟩ := ht
  unfold Builtin.Tuple.tupleIsExact
  refine wpAny_bind (wpAny_typeOf_ref ho ?_)
  rw [hc]
  refine wpAny_pure ?_
  show wpAny _ _ (rule _ >>= _) _ _ _
  refine wpAny_bind (wpAny_rule ?_)
  exact wpAny_pure q
def rRep1 (K : PySem.W.Frag) : R2 := fun x y H Q => ∃ l k xs, x = .ref l ∧ y = .int k ∧ SqT K H l xs ∧ (xs = [] ∨ k = 1) ∧ k ≤ 1000 ∧ -1000 ≤ k ∧ Q (.ref l) H
section
variable {X : Cx} {cf : CF} {EX : WX}
theorem op_rep1 : OpR X (binaryOp .Mult) (rRep1 X.K) := by
  rintro pins s σ H x y v u Q I rx ry ⟨l, k, xs, rfl, rfl, hT, hne, h0, h1, q⟩
  cases rx
  obtain ⟨t, rfl⟩ := ry
  obtain ⟨its, r, e, hl⟩ := I.tuple hT
  have hie : (its.toArray.isEmpty || k == 1) = true := by
    rcases hne with hne | hne
    · subst hne
      cases r
      rfl
    · subst hne
      simp
  have ty : s.TypeIs (.ref l) "tuple" := e.typeIs
  obtain ⟨⟨cls, dd, data, sl⟩, ho, hc, n, hd⟩ := e
  cases hc
  cases hd
  refine wpAny_binaryOp_repeat_ref (T := "tuple") (U := "int") (id := "tuple.__mul__") (idr := "int.__rmul__") (by decide) ty (fun s' => by first | rfl | exact ⟨⟩ | trivial) noFill_tuple_mul PySem.F.fills_int_mul PySem.F.slot_int_rmul repeat_tuple PySem.int_index ?_
  refine PySem.call_meets PySem.F.slot_int_rmul (by first | rfl | exact ⟨⟩ | trivial) PySem.F.entry_int_rmul (PySem.F.args_int_rmul_2 _ _) (int_rmul_tuple k t l its.toArray n dd sl) ⟨ho, rfl, ty, ?_⟩
  refine PySem.call_meets (S := fun A R s' => s' = s ∧ R (.ok (.ret (.ref l))) s) PySem.F.slot_tuple_mul ty PySem.F.entry_tuple_mul (PySem.F.args_tuple_mul_2 _ _) ?_ ⟨rfl, ?_⟩
  · intro prog w A R s' ⟨e, h⟩
    subst e
    exact tuple_mul1 ⟨_, ho, rfl, n, rfl⟩ h0 (by omega) hie h
  · exact ⟨.ref l, H, I, rfl, q⟩
variable {a b : Expr} {fa fb : SE} {pos : Pos}
/-- a tuple so often -/
def gMulA : G2
  | .d (.tuple xs), .d (.int k), S => if xs.isEmpty || k == 1 then (if -1000 ≤ k ∧ k ≤ 1000 then .ok (.d (.tuple xs)) S else .stuck) else gMul0 (.d (.tuple xs)) (.d (.int k)) S
  | x, y, S => gMul2 x y S
theorem o_mulA : Op X EX (fun x y H Q => rRep1 X.K x y H Q ∨ (rRep0 X.K x y H Q ∨ ((rI CMul fun i j => .int (i * j)) x y H Q ∨ rRep x y H Q ∨ rRepT X.K x y H Q))) gMulA := by
  intro F σ env S H μ x y w u Q s rx pw ry pu q
  unfold gMulA at q
  split at q
  · split at q
    · rename_i h0
      split at q
      · rename_i h
        obtain ⟨a, vs, rfl, ha, ta⟩ := rw_tup rx
        rw [rw_int ry]
        refine .inl ⟨a, _, vs, rfl, rfl, ha.sq, ?_, h.2, h.1, Post.ok q s (Ext.refl _ _ _ _) _ rx⟩
        rw [Bool.or_eq_true] at h0
        rcases h0 with h0 | h0
        · left
          have h2 := List.isEmpty_iff.mp h0
          subst h2
          cases ta
          rfl
        · exact .inr (by simpa using h0)
      · exact q.elim
    · exact .inr (o_mul0 F σ env S H μ x y _ _ Q s rx rfl ry rfl q)
  · exact .inr (.inr (o_mul F σ env S H μ x y w u Q s rx pw ry pu q))
theorem gp_mulA : ∀ w u S, w.plain = false ∨ u.plain = false → gMulA w u S = .stuck := by
  intro w u S h
  unfold gMulA
  split
  · simp [W.plain] at h
  · exact gp_mul _ _ _ h
theorem me_mulA (h1 : ME X cf EX a fa) (h2 : ME X cf EX b fb) : ME X cf EX (.BinOp a .Mult b pos) (fBin gMulA fa fb) :=
  me_bin (OpR.or op_rep1 (OpR.or op_rep0 (OpR.or op_mul (OpR.or op_rep op_repT)))) o_mulA gp_mulA h1 h2
/-- what it tells -/
theorem g_mulA (S : Sto) (xs : List D) {t : Nat} (ht : t ≤ 1000) (hl : xs.length ≤ 1000) : gMulA (.d (.tuple xs)) (.d (.int (t : Int))) S = .ok (.d (.tuple (List.replicate t xs).flatten)) S := by
  show (if xs.isEmpty || (t : Int) == 1 then (if -1000 ≤ (t : Int) ∧ (t : Int) ≤ 1000 then R.ok (W.d (.tuple xs)) S else .stuck) else (if (t : Int) ≤ 0 then (if xs ≠ [] ∧ -1000 ≤ (t : Int) then R.ok (W.d (.tuple [])) S else .stuck) else (if xs ≠ [] ∧ 2 ≤ (t : Int) ∧ (t : Int) ≤ 1000 ∧ xs.length ≤ 1000 then R.ok (W.d (.tuple (List.replicate (t : Int).toNat xs).flatten)) S else .stuck))) = _
  by_cases hx : xs = []
  · subst hx
    simp
    omega
  · have hxe : xs.isEmpty = false := by cases xs with | nil => exact absurd rfl hx | cons _ _ => rfl
    by_cases h1 : t = 1
    · subst h1
      simp
    · have h1' : ((t : Int) == 1) = false := by simp; omega
      rw [hxe, h1']
      simp only [Bool.or_false, Bool.false_eq_true, if_false, Int.toNat_natCast]
      by_cases h0 : t = 0
      · subst h0
        simp [hx]
      · rw [if_neg (by omega), if_pos ⟨hx, by omega, by omega, hl⟩]
end
end Q

namespace Q
open PySem PySem.Spec PyProof.Rows L2
section
variable {X : Cx} {cf : CF} {EX : WX}
end
end Q

namespace Q
open PySem PySem.Spec PyProof.Rows L2
section
variable {X : Cx} {cf : CF} {EX : WX}
end
end Q

namespace Q
open PySem PySem.Spec PyProof.Rows L2
section
variable {X : Cx} {cf : CF} {EX : WX} {a b c : Expr} {ha : SA} {p p2 pos q : Pos} {ta : TA}
def fLstRg3 (a : SA) : SE := fun cf env S => (a cf env S).bind fun ws S1 => match ws with
  | [.d (.int i), .d (.int j), .d (.int c)] => (match rng3 i j c with | some ds => if ds.length ≤ 16777216 then .ok (.d (.list ds)) S1 else .stuck | none => .stuck)
  | _ => .stuck
end
@[simp] theorem x_lstRg3 {cf : CF} {env : EnvQ} {S : Sto} (a : SA) : fLstRg3 a cf env S = (a cf env S).bind fun ws S1 => match ws with
  | [.d (.int i), .d (.int j), .d (.int c)] => (match rng3 i j c with | some ds => if ds.length ≤ 16777216 then .ok (.d (.list ds)) S1 else .stuck | none => .stuck)
  | _ => .stuck := rfl
end Q

namespace Q
open PySem PySem.Spec PyProof.Rows L2
def sAddO (i : Nat) (f : SE) : SS := fun cf env S => match env[i]? with
  | some (some (.own xs)) => (f cf env S).then env fun w S1 => (match w with
    | .d (.list ys) => if xs.length + ys.length ≤ LIM then .next (env.set i (some (.own (xs ++ ys)))) S1 else .stuck
    | _ => .stuck)
  | _ => .stuck
section
variable {X : Cx} {cf : CF} {EX : WX} {x : Str} {e : Expr} {fa : SE} {pos p1 pb pp : Pos}
theorem ms_addO {i : Nat} (hv : PE X (.Name x p1) (tVar i)) (hN : X.N.Nodup) (hi : X.N[i]? = some x) (hx : Loc X.env.scope x) (h : ME X cf EX e fa) (hs : swapsWith (.BinOp (.Name x p1) .Add e pb) (some (.Name x pp)) pos.line X.env = pure false := by rfl)
    (hf : X.fn x = true ∨ X.env.scope.names.lookup x = some .local := by first | exact .inl rfl | exact .inr rfl | assumption) :
    MS X cf EX (.Assign [.Name x pp] (.BinOp (.Name x p1) .Add e pb) pos) (sAddO i fa) := by
  refine PS.weak (ps_set hN hi hx (pe_op op_cat hv h) hs hf) fun D σ H ⟨env, S, μ, F, s, q⟩ => ?_
  unfold sAddO at q
  split at q
  · rename_i xs e0
    obtain ⟨v, hv0, r⟩ := s.slot i _ e0
    refine ⟨v, hv0, env, S, μ, F, s, (PostS.expr q).mono fun w S1 H1 μ1 s1 x1 q1 v2 rv => ?_⟩
    split at q1
    · obtain ⟨b, us, rfl, nb, hb, tb⟩ := rw_lst rv
      split at q1
      · rename_i hz
        obtain ⟨v', hv1, r1⟩ := s1.slot i _ e0
        rw [hv0] at hv1
        cases hv1
        cases r1 with
        | own ha1 ta1 =>
          refine ⟨_, b, _, us, rfl, rfl, ha1, hb, by rw [← lim_line, ta1.length, tb.length]; exact hz, fun p n => ?_⟩
          obtain ⟨s2, x2⟩ := s1.newOwn (i := i) n (ta1.append tb)
          exact q1 _ _ μ1 s2 x2
      · exact q1.elim
    · exact q1.elim
  · exact q.elim
end
@[simp] theorem y_addO {cf : CF} {env : EnvQ} {S : Sto} (i : Nat) (f : SE) : sAddO i f cf env S = (match env[i]? with
  | some (some (.own xs)) => (f cf env S).then env fun w S1 => (match w with
    | .d (.list ys) => if xs.length + ys.length ≤ LIM then .next (env.set i (some (.own (xs ++ ys)))) S1 else .stuck
    | _ => .stuck)
  | _ => .stuck) := rfl
end Q

namespace Q
open PySem PySem.Spec PyProof.Rows L2
section
variable {X : Cx} {cf : CF} {EX : WX} {e : Expr} {fa : SE} {p p2 q pos : Pos}
end
end Q

namespace Q
open PySem PySem.Spec PyProof.Rows L2
section
variable {X : Cx} {cf : CF} {EX : WX} {x : Str} {e e2 : Expr} {es : List Expr} {ha : SA} {p pos : Pos}
end
section
variable {cf : CF} {env : EnvQ} {S : Sto}
end
end Q

namespace Q
open PySem PySem.Spec PyProof.Rows L2
section
variable {K : PySem.W.Frag} {H : Hp} {N : Addr → Prop}
end
section
variable {X : Cx} {cf : CF} {EX : WX} {F : Addr → Prop} {σ : L2.St} {env : EnvQ} {S S' : Sto} {H H' : Hp} {μ μ' : List Addr} {K : PySem.W.Frag} {mg : Str → Option Value} {e c tg : Expr} {es : List Expr} {sts : List Stmt} {g : SS} {fa fb : SE} {pos p : Pos} {x : Str}
theorem KvF.length : ∀ {vs : List (Key × V)} {ds : List (D × D)}, KvF vs ds → vs.length = ds.length
  | _, _, .nil => rfl
  | _, _, .cons _ _ t => congrArg (· + 1) (KvF.length t)
end
end Q

namespace Q
open PySem PySem.Spec PyProof.Rows L2
section
variable {X : Cx} {cf : CF} {EX : WX} {F : Addr → Prop} {σ : L2.St} {env : EnvQ} {S S' : Sto} {H H' : Hp} {μ μ' : List Addr} {K : PySem.W.Frag} {mg : Str → Option Value} {e c tg : Expr} {es : List Expr} {fa fb : SE} {pos p : Pos} {x : Str}
end
end Q

namespace Q
open PySem PySem.Spec PyProof.Rows L2
section
variable {P : Program} {w : World} {A : Around} {E : Value → Shared → Prop} {s : Shared}
end
section
variable {X : Cx} {cf : CF} {EX : WX} {e : Expr} {fa : SE} {ta : TE} {ha : SA} {p p2 q pos : Pos}
end
end Q

namespace Q
open PySem PySem.Spec PyProof.Rows L2
section
variable {X : Cx} {cf : CF} {EX : WX} {o e : Expr} {fo fx : SE} {p p2 pos : Pos}
end
end Q

namespace Q
open PySem PySem.Spec PyProof.Rows L2
section
variable {X : Cx} {cf : CF} {EX : WX} {a b : Expr} {fa fb : SE} {pos : Pos}
end
end Q

namespace Q
open PySem PySem.Spec PyProof.Rows L2
section
variable {X : Cx} {cf : CF} {EX : WX} {a b : Expr} {fa fb : SE} {pos : Pos}
end
end Q

namespace Q
open PySem PySem.Spec PyProof.Rows L2
section
variable {X : Cx} {cf : CF} {EX : WX} {e : Expr} {ha : SA} {p pos : Pos}
end
end Q

namespace Q
open PySem PySem.Spec PyProof.Rows L2
section
variable {X : Cx} {cf : CF} {EX : WX}
def rEqM (K : PySem.W.Frag) : R2 := fun x y H Q => ∃ a b t r m, x = .ref a ∧ y = .ref b ∧ SqT K H a (.str t :: r) ∧ SqT K H b [.str m] ∧ Q (.bl (decide (t = m) && r.isEmpty)) H
theorem op_eqM (hu : X.A.units < cLine) : OpR X (compareOp .Eq) (rEqM X.K) := by
  rintro pins s σ H x y v u Q I rx ry ⟨a, b, t, r, m, rfl, rfl, h1, h2, q⟩
  cases rx; cases ry
  obtain ⟨its, vr, e, -⟩ := I.tuple h1
  obtain ⟨its2, vr2, e2, -⟩ := I.tuple h2
  cases vr with
  | cons r1 vr =>
    cases vr2 with
    | cons r2 vr2 =>
      cases vr2
      obtain ⟨tk, rfl⟩ := r1
      obtain ⟨tk2, rfl⟩ := r2
      have hl := vr.length
      refine PySem.SeqAt.eq_tupleAt (e := fun _ => t == m) e e2 hu (fun j h1 h2 => ?_) ?_
      · obtain rfl : j = 0 := by simp at h2; exact h2
        exact PySem.SeqAt.EqAt.str_str _ _ _ _
      · refine ⟨.bl (decide (t = m) && r.isEmpty), H, I, ?_, q⟩
        show Value.bool _ = Value.bool _
        rename_i vs
        congr 1
        have hd : (t == m) = decide (t = m) := by by_cases h : t = m <;> simp [h]
        cases r with
        | nil => cases vs with
          | nil => simp [hd]
          | cons => simp at hl
        | cons y ys => cases vs with
          | nil => simp at hl
          | cons z zs => simp
/-- == where one side is () or [] or (text,) -/
def gEqM : G2
  | .d (.tuple (.str t :: r)), .d (.tuple [.str m]), S => .ok (.d (.bool (decide (t = m) && r.isEmpty))) S
  | x, y, S => gEqZ x y S
theorem o_eqM : Op X EX (fun x y H Q => rEqM X.K x y H Q ∨ (rEqZ X.K x y H Q ∨ (rEqD X.K x y H Q ∨ rEq x y H Q))) gEqM := by
  intro F σ env S H μ x y w u Q s rx pw ry pu q
  unfold gEqM at q
  split at q
  · cases rx with
    | d hx => cases ry with
      | d hy => cases hx with
        | tup h1 t1 => cases hy with
          | tup h2 t2 =>
            cases t1 with
            | cons f1 t1 => cases f1; cases t2 with
              | cons f2 t2 =>
                cases f2; cases t2
                refine .inl ⟨_, _, _, _, _, rfl, rfl, h1.sq, h2.sq, ?_⟩
                rw [dns_isEmpty t1]
                exact post_here (EX := EX) s (.d (.bl _)) q
  · exact .inr (o_eqZ F σ env S H μ x y w u Q s rx pw ry pu q)
theorem gp_eqM : ∀ w u S, w.plain = false ∨ u.plain = false → gEqM w u S = .stuck := by
  intro w u S h
  unfold gEqM
  split
  · simp [W.plain] at h
  · exact gp_eqZ _ _ _ h
theorem cm_eqM {k : Nat} (hr : Room k X.A) : Cm X EX .Eq gEqM := ⟨⟨_, OpR.or (op_eqM (by have := hr.units; omega)) (OpR.or (op_eqZ (by have := hr.units; omega)) (op_eqU hr)), o_eqM⟩, gp_eqM⟩
@[simp] theorem g_eqM1 (t m : Str) (r : List D) (S : Sto) : gEqM (.d (.tuple (.str t :: r))) (.d (.tuple [.str m])) S = .ok (.d (.bool (decide (t = m) && r.isEmpty))) S := rfl
end
end Q

namespace Q
open PySem PySem.Spec PyProof.Rows L2
variable {X : Cx} {cf : CF} {EX : WX} {pos : Pos}
structure DisK (X : Cx) (pos : Pos) (ks : List (Option Expr)) (vs : List Expr) (kvs : List (Key × V)) : Prop where
  has : ∃ trs, PPs X pos ks vs trs ∧ ∀ σ H Q, Q (kvs.map fun kv => (kV kv.1, kv.2)) H → tPairs trs σ H Q
theorem disK_nil : DisK X pos [] [] [] := ⟨[], pps_nil, fun _ _ _ q => q⟩
theorem disK_cons {k v : Expr} {ks : List (Option Expr)} {vs : List Expr} {key : Key} {x : V} {kvs : List (Key × V)} (hk : PE X k (tC (kV key))) (hv : PE X v (tC x)) (h : DisK X pos ks vs kvs) : DisK X pos (some k :: ks) (v :: vs) ((key, x) :: kvs) := by
  obtain ⟨trs, hp, ht⟩ := h
  exact ⟨_, pps_cons hk hv hp, fun σ H Q q => ht σ H _ q⟩
/-- {k: v, ..} of constants -/
def fDicK (ds : List (D × D)) : SE := fun _ _ S => .ok (.d (.dict ds)) S
theorem me_dicK {ks : List (Option Expr)} {vs : List Expr} {kvs : List (Key × V)} {ds : List (D × D)} (h : DisK X pos ks vs kvs) (hall : ks.all (·.isSome) = true) (hl : ks.length = vs.length) (h0 : ks ≠ []) (h15 : ks.length ≤ 15) (hkl : kvs.length ≤ 15) (hm : mergeK [] kvs = kvs) (hf : KvF kvs ds) : ME X cf EX (.Dict ks vs pos) (fDicK ds) := by
  obtain ⟨trs, hp, ht⟩ := h
  refine PE.weak (PE.postlock (pe_disp hp hall hl h0 h15)) fun σ H Q ⟨env, S, μ, F, s, q⟩ p n => ht _ _ _ ⟨upd_same, kvs, rfl, hkl, p, _, rfl, upd_same, True.intro, fun od => ?_⟩
  rw [upd_upd, upd_upd, hm]
  exact q _ μ (s.new n) (ext_new n) _ (.d (.dic (s.fresh n) upd_same hf))
@[simp] theorem x_dicK (ds : List (D × D)) (cf : CF) (env : EnvQ) (S : Sto) : fDicK ds cf env S = .ok (.d (.dict ds)) S := rfl
example {j j2} {p1 p2 : Pos} : ME X cf EX (.Dict [some (.Constant (.int 0) j p1)] [.Constant (.int 0) j2 p2] pos) (fDicK [(.int 0, .int 0)]) :=
  me_dicK (kvs := [(.inl 0, .int 0)]) (disK_cons (key := .inl 0) pe_int pe_int disK_nil) rfl rfl (fun h => nomatch h) (Nat.le_of_ble_eq_true rfl) (Nat.le_of_ble_eq_true rfl) rfl (.cons (.inl 0) (.int 0) .nil)
end Q

namespace Q
open PySem PySem.Spec PyProof.Rows L2

section
variable {cf : CF} {env : EnvQ} {S : Sto}
@[simp] theorem x_int (i : Int) : fInt i cf env S = .ok (.d (.int i)) S := rfl
@[simp] theorem x_bl (b : Bool) : fBl b cf env S = .ok (.d (.bool b)) S := rfl
@[simp] theorem x_non : fNon cf env S = .ok (.d .none) S := rfl
@[simp] theorem x_str (s : Str) : fStr s cf env S = .ok (.d (.str s)) S := rfl
@[simp] theorem x_var (i : Nat) : fVar i cf env S = (match env[i]? with | some (some w) => if w.plain then .ok w S else .stuck | _ => .stuck) := rfl
@[simp] theorem x_bin (g : G2) (a b : SE) : fBin g a b cf env S = (a cf env S).bind fun x S1 => (b cf env S1).bind fun y S2 => g x y S2 := rfl
@[simp] theorem x_isNone (a : SE) : fIsNone a cf env S = (a cf env S).bind fun x S1 => .ok (.d (.bool x.isNone)) S1 := rfl
@[simp] theorem x_notNone (a : SE) : fNotNone a cf env S = (a cf env S).bind fun x S1 => .ok (.d (.bool (!x.isNone))) S1 := rfl
@[simp] theorem x_cVal (a : SE) : cVal a cf env S = (a cf env S).bind fun x S1 => match x with | .d (.bool b) => .ok b S1 | _ => .stuck := rfl
@[simp] theorem x_cNot (a : ST) : cNot a cf env S = (a cf env S).bind fun b S1 => .ok (!b) S1 := rfl
@[simp] theorem x_cAnd (a b : ST) : cAnd a b cf env S = (a cf env S).bind fun x S1 => if x = true then b cf env S1 else .ok false S1 := rfl
@[simp] theorem x_cOr (a b : ST) : cOr a b cf env S = (a cf env S).bind fun x S1 => if x = true then .ok true S1 else b cf env S1 := rfl
@[simp] theorem x_and (a b : SE) : fAnd a b cf env S = (a cf env S).bind fun x S1 => match x with | .d (.bool c) => if c = true then b cf env S1 else .ok (.d (.bool false)) S1 | _ => .stuck := rfl
@[simp] theorem x_or (a b : SE) : fOr a b cf env S = (a cf env S).bind fun x S1 => match x with | .d (.bool c) => if c = true then .ok (.d (.bool true)) S1 else b cf env S1 | _ => .stuck := rfl
@[simp] theorem x_not (a : SE) : fNot a cf env S = (a cf env S).bind fun x S1 => match x with | .d (.bool c) => .ok (.d (.bool (!c))) S1 | _ => .stuck := rfl
@[simp] theorem x_neg (a : SE) : fNeg a cf env S = (a cf env S).bind fun x S1 => match x with | .d (.int i) => .ok (.d (.int (-i))) S1 | _ => .stuck := rfl
@[simp] theorem x_if (c : ST) (a b : SE) : fIf c a b cf env S = (c cf env S).bind fun x S1 => if x = true then a cf env S1 else b cf env S1 := rfl
@[simp] theorem x_nil : aNil cf env S = .ok [] S := rfl
@[simp] theorem x_cons (a : SE) (r : SA) : aCons a r cf env S = (a cf env S).bind fun x S1 => (r cf env S1).bind fun xs S2 => if x.plain then .ok (x :: xs) S2 else .stuck := rfl
@[simp] theorem x_one (a : SE) : aOne a cf env S = (a cf env S).bind fun x S1 => .ok [x] S1 := rfl
@[simp] theorem x_tup (a : SA) : fTup a cf env S = (a cf env S).bind fun ws S1 => if ws.length ≤ LIM then (match datas ws with | some ds => .ok (.d (.tuple ds)) S1 | none => .ok (.tw ws) S1) else .stuck := rfl
@[simp] theorem x_lst (a : SA) : fLst a cf env S = (a cf env S).bind fun ws S1 => if ws.length ≤ LIM then (match datas ws with | some ds => .ok (.d (.list ds)) S1 | none => .stuck) else .stuck := rfl
@[simp] theorem x_newL (a : SA) : fNewL a cf env S = (a cf env S).bind fun ws S1 => if ws.length ≤ LIM then (match datas ws with | some ds => .ok (.ref S1.length) (S1 ++ [.lst ds]) | none => .stuck) else .stuck := rfl
@[simp] theorem x_B (g : GN) (a : SA) : fB g a cf env S = (a cf env S).bind fun ws S1 => g ws S1 := rfl
@[simp] theorem x_callN (x : String) (n : Nat) (a : SA) : fCallN x n a cf env S = (a cf env S).bind fun ws S1 => arity n ws (cf x ws S1) := rfl
@[simp] theorem x_call0 (x : String) : fCall0 x cf env S = cf x [] S := rfl
@[simp] theorem x_isI (t : String) (a : SE) : fIsI t a cf env S = (a cf env S).bind fun x S1 => match x with | .d d => .ok (.d (.bool (isTy t d))) S1 | _ => .stuck := rfl
@[simp] theorem x_at (a b : SE) : fAt a b cf env S = (a cf env S).bind fun x S1 => if x.plain then (b cf env S1).bind fun y S2 => gAt x y S2 else .stuck := rfl
@[simp] theorem x_own (i : Nat) : fOwn i cf env S = (match env[i]? with | some (some (.own xs)) => .ok (.own xs) S | some (some (.ownd xs)) => .ok (.ownd xs) S | _ => .stuck) := rfl
@[simp] theorem x_atOwn (i : Nat) (b : SE) : fAtOwn i b cf env S = (match env[i]? with | some (some (.own xs)) => (b cf env S).bind fun y S2 => gAt (.own xs) y S2 | _ => .stuck) := rfl
@[simp] theorem x_chain (g g' : G2) (a b c : SE) : fChain g g' a b c cf env S = (a cf env S).bind fun x S1 => (b cf env S1).bind fun y S2 => (g x y S2).bind fun z S3 => match z with | .d (.bool k) => if k = true then (c cf env S3).bind fun w S4 => g' y w S4 else .ok (.d (.bool false)) S3 | _ => .stuck := rfl
@[simp] theorem x_oNone : oNone cf env S = .ok none S := rfl
@[simp] theorem x_oSome (a : SE) : oSome a cf env S = (a cf env S).bind fun x S1 => match x with | .d (.int i) => .ok (some i) S1 | _ => .stuck := rfl
@[simp] theorem x_sl (a : SE) (lo hi : SO) : fSl a lo hi cf env S = (a cf env S).bind fun x S1 => if x.plain then (lo cf env S1).bind fun l S2 => (hi cf env S2).bind fun u S3 => gSlice x l u S3 else .stuck := rfl
@[simp] theorem x_comp (vs : List Nat) (t : Tg) (it : SI) (c : ST) (f : SE) : fComp vs t it c f cf env S = if vs.all (notOwn env) then (it cf env S).bind fun ds S1 => (compL t (c cf) (f cf) (wipeE env vs) ds S1).bind fun xs S2 => if xs.length ≤ LIM then .ok (.d (.list xs)) S2 else .stuck else .stuck := rfl
@[simp] theorem x_yes : cYes cf env S = .ok true S := rfl
@[simp] theorem x_iSeq (f : SE) : iSeq f cf env S = (f cf env S).bind fun w S1 => match w with | .d (.list xs) => .ok xs S1 | .d (.tuple xs) => .ok xs S1 | .scr xs => .ok (xs.map PyData.int) S1 | _ => .stuck := rfl
@[simp] theorem x_range1 (a : SA) : iRange1 a cf env S = (a cf env S).bind fun ws S1 => match ws with | [.d (.int j)] => if inR j then .ok (rangeD 0 j.toNat) S1 else .stuck | _ => .stuck := rfl
@[simp] theorem x_range2 (a : SA) : iRange2 a cf env S = (a cf env S).bind fun ws S1 => match ws with | [.d (.int i), .d (.int j)] => if inR i && inR j then .ok (rangeD i (j - i).toNat) S1 else .stuck | _ => .stuck := rfl
@[simp] theorem y_next : sNext cf env S = .next env S := rfl
@[simp] theorem y_never : sNever cf env S = .stuck := rfl
@[simp] theorem y_raise (c : String) : sRaise c cf env S = .exc c env S := rfl
@[simp] theorem y_brk : sBreak cf env S = .brk env S := rfl
@[simp] theorem y_cont : sCont cf env S = .cont env S := rfl
@[simp] theorem y_seq (a b : SS) : sSeq a b cf env S = (a cf env S).seq fun env' S' => b cf env' S' := rfl
@[simp] theorem y_set (i : Nat) (f : SE) : sSet i f cf env S = (f cf env S).then env fun w S' => if w.plain then .next (env.set i (some w)) S' else .stuck := rfl
@[simp] theorem y_new (i : Nat) (a : SA) : sNew i a cf env S = (a cf env S).then env fun ws S' => if ws.length ≤ LIM then (match datas ws with | some ds => .next (env.set i (some (.own ds))) S' | none => .stuck) else .stuck := rfl
@[simp] theorem y_app (i : Nat) (f : SE) : sApp i f cf env S = (match env[i]? with | some (some (.own xs)) => (f cf env S).then env (fun w S' => (match w with | .d x => if xs.length < LIM then .next (env.set i (some (.own (xs ++ [x])))) S' else .stuck | _ => .stuck)) | _ => .stuck) := rfl
@[simp] theorem y_freeze (i : Nat) : sFreeze i cf env S = (match env[i]? with | some (some (.own xs)) => .next (env.set i (some (.d (.list xs)))) S | _ => .stuck) := rfl
@[simp] theorem y_retN : sRetN cf env S = .ret (.d .none) S := rfl
@[simp] theorem y_retP (f : SE) : sRetP f cf env S = (f cf env S).then env fun w S' => if w.plain then .ret w S' else .stuck := rfl
@[simp] theorem y_retO (i : Nat) : sRetO i cf env S = (match env[i]? with | some (some (.own xs)) => .ret (.d (.list xs)) S | _ => .stuck) := rfl
@[simp] theorem y_expr (f : SE) : sExpr f cf env S = (f cf env S).then env fun _ S' => .next env S' := rfl
@[simp] theorem y_if (c : ST) (a b : SS) : sIf c a b cf env S = (c cf env S).then env fun k S' => if k = true then a cf env S' else b cf env S' := rfl
@[simp] theorem y_for (t : Tg) (it : SI) (body : SS) : sFor t it body cf env S = (it cf env S).then env fun ds S' => forL t (body cf) ds env S' := rfl
@[simp] theorem y_while (n : Nat) (c : ST) (body : SS) : sWhile n c body cf env S = whileL (c cf) (body cf) n env S := rfl
@[simp] theorem y_par (is : List Nat) (a : SA) : sPar is a cf env S = (a cf env S).then env fun ws S' => if W.plains ws then (match setW is ws env with | some env' => .next env' S' | none => .stuck) else .stuck := rfl
@[simp] theorem y_unp (is : List Nat) (f : SE) : sUnp is f cf env S = (f cf env S).then env fun w S' => match w with | .d (.tuple ds) => (match setAll is ds env with | some env' => .next env' S' | none => .stuck) | _ => .stuck := rfl
@[simp] theorem y_aug (i : Nat) (g : G2) (f : SE) : sAug i g f cf env S = (match env[i]? with | some (some w) => if w.plain then (f cf env S).then env fun u S1 => (g w u S1).then env fun z S2 => if z.plain then .next (env.set i (some z)) S2 else .stuck else .stuck | _ => .stuck) := rfl
@[simp] theorem z_d (x : D) : W.plain (.d x) = true := rfl
@[simp] theorem z_ref (n : Nat) : W.plain (.ref n) = true := rfl
@[simp] theorem z_scr (n : List Int) : W.plain (.scr n) = true := rfl
@[simp] theorem z_own (n : List D) : W.plain (.own n) = false := rfl
@[simp] theorem z_nil : W.plains [] = true := rfl
@[simp] theorem z_cons (w : W) (ws : List W) : W.plains (w :: ws) = (w.plain && W.plains ws) := rfl
@[simp] theorem z_datas0 : datas [] = some [] := rfl
@[simp] theorem z_datas1 (x : D) (ws : List W) : datas (.d x :: ws) = (datas ws).map (x :: ·) := rfl
@[simp] theorem z_datas2 (n : Nat) (ws : List W) : datas (.ref n :: ws) = none := rfl
@[simp] theorem z_set0 (env : EnvQ) : setW [] [] env = some env := rfl
@[simp] theorem z_set1 (i : Nat) (is : List Nat) (w : W) (ws : List W) (env : EnvQ) : setW (i :: is) (w :: ws) env = setW is ws (env.set i (some w)) := rfl
@[simp] theorem z_setA0 (env : EnvQ) : setAll [] [] env = some env := rfl
@[simp] theorem z_setA1 (i : Nat) (is : List Nat) (w : D) (ws : List D) (env : EnvQ) : setAll (i :: is) (w :: ws) env = setAll is ws (env.set i (some (.d w))) := rfl
@[simp] theorem z_name (i : Nat) (d : D) (env : EnvQ) : Tg.set (.name i) d env = some (env.set i (some (.d d))) := rfl
@[simp] theorem z_names (is : List Nat) (ds : List D) (env : EnvQ) : Tg.set (.names is) (.tuple ds) env = setAll is ds env := rfl
@[simp] theorem z_wipe0 : wipeE env [] = env := rfl
@[simp] theorem z_wipe1 (v : Nat) (vs : List Nat) : wipeE env (v :: vs) = (wipeE env vs).set v none := rfl
@[simp] theorem z_arity (n : Nat) (ws : List W) (r : R W) : arity n ws r = if ws.length = n ∧ W.plains ws = true then r else .stuck := rfl
@[simp] theorem g_add (i j : Int) : gAdd (.d (.int i)) (.d (.int j)) S = .ok (.d (.int (i + j))) S := rfl
@[simp] theorem g_sub (i j : Int) : gSub (.d (.int i)) (.d (.int j)) S = .ok (.d (.int (i - j))) S := rfl
@[simp] theorem g_mul (i j : Int) : gMul2 (.d (.int i)) (.d (.int j)) S = if sm i || sm j then .ok (.d (.int (i * j))) S else .stuck := rfl
@[simp] theorem g_mod (i j : Int) : gMod (.d (.int i)) (.d (.int j)) S = if 0 < j then .ok (.d (.int (i % j))) S else .stuck := rfl
@[simp] theorem g_div (i j : Int) : gDiv (.d (.int i)) (.d (.int j)) S = if 0 < j ∧ Nat.ble j.natAbs 18446744073709551615 = true then .ok (.d (.int (i / j))) S else .stuck := rfl
@[simp] theorem g_pow (i j : Int) : gPow (.d (.int i)) (.d (.int j)) S = if 0 ≤ j ∧ j ≤ 1000000 ∧ i.natAbs < 2 ^ 64 then .ok (.d (.int (i ^ j.toNat))) S else .stuck := rfl
@[simp] theorem g_lt (i j : Int) : gLt (.d (.int i)) (.d (.int j)) S = .ok (.d (.bool (decide (i < j)))) S := rfl
@[simp] theorem g_le (i j : Int) : gLe (.d (.int i)) (.d (.int j)) S = .ok (.d (.bool (decide (i ≤ j)))) S := rfl
@[simp] theorem g_gt (i j : Int) : gGt (.d (.int i)) (.d (.int j)) S = .ok (.d (.bool (decide (j < i)))) S := rfl
@[simp] theorem g_ge (i j : Int) : gGe (.d (.int i)) (.d (.int j)) S = .ok (.d (.bool (decide (j ≤ i)))) S := rfl
@[simp] theorem g_lenT (xs : List D) : gLen [.d (.tuple xs)] S = .ok (.d (.int xs.length)) S := rfl
@[simp] theorem g_lenL (xs : List D) : gLen [.d (.list xs)] S = .ok (.d (.int xs.length)) S := rfl
@[simp] theorem g_tupL (xs : List D) : gTuple [.d (.list xs)] S = .ok (.d (.tuple xs)) S := rfl
@[simp] theorem g_tupT (xs : List D) : gTuple [.d (.tuple xs)] S = .ok (.d (.tuple xs)) S := rfl
@[simp] theorem g_tupO (xs : List D) : gTuple [.own xs] S = .ok (.d (.tuple xs)) S := rfl
@[simp] theorem g_max2 (i j : Int) : gMax2 [.d (.int i), .d (.int j)] S = .ok (.d (.int (if j > i then j else i))) S := rfl
@[simp] theorem g_min2 (i j : Int) : gMin2 [.d (.int i), .d (.int j)] S = .ok (.d (.int (if j < i then j else i))) S := rfl
@[simp] theorem g_repr (d : D) : gRepr [.d d] S = if okShow d then .ok (.d (.str d.shown)) S else .stuck := rfl
@[simp] theorem g_atT (xs : List D) (i : Int) : gAt (.d (.tuple xs)) (.d (.int i)) S = (match atI xs i with | some x => .ok (.d x) S | none => .stuck) := rfl
@[simp] theorem g_atL (xs : List D) (i : Int) : gAt (.d (.list xs)) (.d (.int i)) S = (match atI xs i with | some x => .ok (.d x) S | none => .stuck) := rfl
@[simp] theorem g_atO (xs : List D) (i : Int) : gAt (.own xs) (.d (.int i)) S = (match atI xs i with | some x => .ok (.d x) S | none => .stuck) := rfl
@[simp] theorem g_atR (n : Nat) (i : Int) : gAt (.ref n) (.d (.int i)) S = (match S[n]? with | some (.lst xs) => (match atI xs i with | some x => .ok (.d x) S | none => .stuck) | _ => .stuck) := rfl
@[simp] theorem g_atS (xs : List Int) (i : Int) : gAt (.scr xs) (.d (.int i)) S = (match atI xs i with | some x => .ok (.d (.int x)) S | none => .stuck) := rfl
@[simp] theorem g_eqI (i j : Int) : gEq (.d (.int i)) (.d (.int j)) S = .ok (.d (.bool (decide (i = j)))) S := by
  simp [gEq, okEq, PyData.canLay0, PyData.depth, PyData.eqv]
  rw [Bool.eq_iff_iff]; simp
@[simp] theorem g_neI (i j : Int) : gNe (.d (.int i)) (.d (.int j)) S = .ok (.d (.bool (!decide (i = j)))) S := by
  simp [gNe, okEq, PyData.canLay0, PyData.depth, PyData.eqv]
  rw [Bool.eq_iff_iff]; simp
@[simp] theorem g_neS (i j : Str) : gNe (.d (.str i)) (.d (.str j)) S = .ok (.d (.bool (!decide (i = j)))) S := rfl
@[simp] theorem g_eqS (i j : Str) : gEq (.d (.str i)) (.d (.str j)) S = .ok (.d (.bool (decide (i = j)))) S := rfl
@[simp] theorem g_all (xs : List D) : gAll [.d (.list xs)] S = (match bools xs with | some bs => .ok (.d (.bool (bs.all id))) S | none => .stuck) := rfl
@[simp] theorem g_any (xs : List D) : gAny [.d (.list xs)] S = (match bools xs with | some bs => .ok (.d (.bool (bs.any id))) S | none => .stuck) := rfl
@[simp] theorem g_sumL (xs : List D) : gSum [.d (.list xs)] S = (match intsOf xs with | some is => .ok (.d (.int is.sum)) S | none => .stuck) := rfl
@[simp] theorem g_sumT (xs : List D) : gSum [.d (.tuple xs)] S = (match intsOf xs with | some is => .ok (.d (.int is.sum)) S | none => .stuck) := rfl
@[simp] theorem g_slT (xs : List D) (lo hi : Option Int) : gSlice (.d (.tuple xs)) lo hi S = .ok (.d (.tuple (cutD xs lo hi))) S := rfl
@[simp] theorem g_slL (xs : List D) (lo hi : Option Int) : gSlice (.d (.list xs)) lo hi S = .ok (.d (.list (cutD xs lo hi))) S := rfl
@[simp] theorem g_slS (xs : List Int) (lo hi : Option Int) : gSlice (.scr xs) lo hi S = .ok (.d (.list ((cutD xs lo hi).map PyData.int))) S := rfl
@[simp] theorem fin_ret (w : W) : fin (.ret w S) = .ok w S := rfl
@[simp] theorem fin_next : fin (.next env S) = .ok (.d .none) S := rfl
@[simp] theorem fin_exc (c : String) : fin (.exc c env S) = .exc c S := rfl
@[simp] theorem calm_ok {α : Type} (a : α) : (R.ok a S).calm = .ok a S := rfl
@[simp] theorem ty_int (i : Int) : isTy "int" (.int i) = true := by simp [isTy, tyName]
@[simp] theorem ty_bool (i : Int) : isTy "bool" (.int i) = false := by simp [isTy, tyName]
@[simp] theorem ty_tup (xs : List D) : isTy "tuple" (.tuple xs) = true := by simp [isTy, tyName]
theorem y_setIx (o i f : SE) : sSetIx o i f cf env S = (f cf env S).then env fun w S1 => (o cf env S1).then env fun u S2 => (i cf env S2).then env fun k S3 => match w, u, k with
  | .d x, .ref n, .d (.int j) => (match S3[n]? with
    | some (.lst xs) => (match ixN xs.length j with
      | some m => .next env (S3.set n (.lst (xs.set m x)))
      | none => .stuck)
    | _ => .stuck)
  | _, _, _ => .stuck := rfl
end
theorem callQ_succ {T : Tab} {x : String} {d : FD} {k : Nat} {ws : List W} {S : Sto} (h : T x = some d) (hl : ws.length = d.n) (hp : W.plains ws = true) : callQ T (k + 1) x ws S = fin (d.body (callQ T k) (startQ d.slots ws) S) := by
  show (match T x with | none => R.stuck | some d => if ws.length = d.n ∧ W.plains ws = true then fin (d.body (callQ T k) (startQ d.slots ws) S) else .stuck) = _
  rw [h]
  exact if_pos ⟨hl, hp⟩
theorem sm_lt {i : Int} (h : 0 ≤ i) (h2 : i < 18446744073709551616) : sm i = true := by
  exact Nat.ble_eq_true_of_le (by omega)

theorem atI_nat {α : Type} (xs : List α) (i : Nat) : atI xs (i : Int) = xs[i]? := by
  simp [atI, ixN]
  by_cases h : i < xs.length
  · simp [h]
  · rw [List.getElem?_eq_none (by omega)]
    simp [h]
theorem inR_of {i : Int} (h : -4611686018427387904 < i) (h2 : i < 4611686018427387904) : inR i = true := by
  exact Nat.ble_eq_true_of_le (by omega)
theorem compL_on {α : Type} {i : Nat} {f : EnvQ → Sto → R W} {env : EnvQ} {S : Sto} {c : EnvQ → Sto → R Bool} (q g : α → D) : ∀ {xs : List α}, (∀ x ∈ xs, c (env.set i (some (.d (q x)))) S = .ok true S) → (∀ x ∈ xs, f (env.set i (some (.d (q x)))) S = .ok (.d (g x)) S) → compL (.name i) c f env (xs.map q) S = .ok (xs.map g) S
  | [], _, _ => rfl
  | x :: xs, hc, h => by
    have e := compL_on q g (xs := xs) (fun d hd => hc d (by simp [hd])) fun d hd => h d (by simp [hd])
    simp only [compL, z_name, List.map_cons]
    rw [hc x (by simp)]
    simp [e, h x (by simp)]
theorem forL_inv {t : Tg} {body : EnvQ → Sto → RS} (I : Nat → EnvQ → Sto → Prop) : ∀ {ds : List D} {n : Nat} {env : EnvQ} {S : Sto}, I n env S → (∀ i d env S, ds[i]? = some d → I (n + i) env S → ∃ env1 env2 S2, t.set d env = some env1 ∧ (body env1 S = .next env2 S2 ∨ body env1 S = .cont env2 S2) ∧ I (n + i + 1) env2 S2) → ∃ env' S', forL t body ds env S = .next env' S' ∧ I (n + ds.length) env' S'
  | [], n, env, S, h, _ => ⟨env, S, rfl, by simpa using h⟩
  | d :: ds, n, env, S, h, st => by
    obtain ⟨env1, env2, S2, e1, e2, i2⟩ := st 0 d env S rfl (by simpa using h)
    obtain ⟨env', S', e3, i3⟩ := forL_inv I (ds := ds) (n := n + 1) (env := env2) (S := S2) (by simpa using i2) fun i d env S hd hi => by
      have := st (i + 1) d env S (by simpa using hd) (by rw [show n + (i + 1) = n + 1 + i by omega]; exact hi)
      rw [show n + (i + 1) + 1 = n + 1 + i + 1 by omega] at this
      exact this
    refine ⟨env', S', ?_, by rw [show n + (d :: ds).length = n + 1 + ds.length by simp; omega]; exact i3⟩
    simp only [forL, e1]
    rcases e2 with e2 | e2 <;> rw [e2] <;> exact e3
theorem forL_inv0 {t : Tg} {body : EnvQ → Sto → RS} (I : Nat → EnvQ → Sto → Prop) {ds : List D} {env : EnvQ} {S : Sto} (h : I 0 env S) (st : ∀ i d env S, ds[i]? = some d → I i env S → ∃ env1 env2 S2, t.set d env = some env1 ∧ (body env1 S = .next env2 S2 ∨ body env1 S = .cont env2 S2) ∧ I (i + 1) env2 S2) : ∃ env' S', forL t body ds env S = .next env' S' ∧ I ds.length env' S' := by
  have := forL_inv I (n := 0) h fun i d env S hd hi => by
    have := st i d env S hd (by simpa using hi)
    simpa using this
  simpa using this
/-- each turn ends well -/
theorem forL_all {t : Tg} {body : EnvQ → Sto → RS} (I : EnvQ → Sto → Prop) {ds : List D} {env : EnvQ} {S : Sto} (h : I env S) (st : ∀ d ∈ ds, ∀ env S, I env S → ∃ env1 env2 S2, t.set d env = some env1 ∧ (body env1 S = .next env2 S2 ∨ body env1 S = .cont env2 S2) ∧ I env2 S2) : ∃ env' S', forL t body ds env S = .next env' S' ∧ I env' S' :=
  forL_inv (fun _ => I) (n := 0) h fun i d env S hd hi => st d (List.mem_of_getElem? hd) env S hi
theorem rangeD_mem {lo : Int} {n : Nat} {d : D} (h : d ∈ rangeD lo n) : ∃ i : Nat, i < n ∧ d = .int (lo + i) := by
  simp only [rangeD, List.mem_map, List.mem_range] at h
  obtain ⟨k, hk, rfl⟩ := h
  exact ⟨k, hk, rfl⟩
@[simp] theorem intsOf_map : ∀ (xs : List Int), intsOf (xs.map PyData.int) = some xs
  | [] => rfl
  | x :: xs => by simp [intsOf, intsOf_map xs]
theorem bools_on {α : Type} {g : α → D} (p : α → Bool) : ∀ {xs : List α}, (∀ x ∈ xs, g x = .bool (p x)) → bools (xs.map g) = some (xs.map p)
  | [], _ => rfl
  | x :: xs, h => by
    have e := bools_on p (xs := xs) fun y hy => h y (by simp [hy])
    simp [bools, h x (by simp), e]
theorem intsOf_on {α : Type} {g : α → D} (p : α → Int) : ∀ {xs : List α}, (∀ x ∈ xs, g x = .int (p x)) → intsOf (xs.map g) = some (xs.map p)
  | [], _ => rfl
  | x :: xs, h => by
    have e := intsOf_on p (xs := xs) fun y hy => h y (by simp [hy])
    simp [intsOf, h x (by simp), e]
@[simp] theorem bools_map : ∀ (xs : List Bool), bools (xs.map PyData.bool) = some xs
  | [] => rfl
  | x :: xs => by simp [bools, bools_map xs]

theorem sOk_iff {x : Str} : PyData.strOk x = true ↔ ∀ c ∈ x.cps.toList, c < 0x110000 := by
  unfold PyData.strOk
  rw [Array.all_eq_true_iff_forall_mem]
  simp
theorem sOk_of (s : String) : PyData.strOk (Str.ofString s) = true := by
  rw [sOk_iff, Str.ofString_eq_toList]
  intro c hc
  obtain ⟨z, _, rfl⟩ := List.mem_map.mp (by simpa using hc)
  have := z.valid
  unfold Nat.isValidChar at this
  have e : z.toNat = z.val.toNat := rfl
  rcases this with h | h <;> omega
theorem sOk_app {x y : Str} (h : PyData.strOk x = true) (h2 : PyData.strOk y = true) : PyData.strOk (x ++ y) = true := by
  rw [sOk_iff] at h h2 ⊢
  intro c hc
  have : (x ++ y).cps = x.cps ++ y.cps := rfl
  rw [this, Array.toList_append] at hc
  exact (List.mem_append.mp hc).elim (h c) (h2 c)
theorem sOk_from : ∀ {ts : List Str} {k : Nat} {acc : Str}, PyData.strOk acc = true → (∀ t ∈ ts, PyData.strOk t = true) → PyData.strOk (textFrom k acc ts) = true
  | [], _, _, h, _ => h
  | t :: ts, k, acc, h, ht => sOk_from (ts := ts) (sOk_app (sOk_app h (sOk_of _)) (ht t (by simp))) fun u hu => ht u (by simp [hu])
theorem sOk_join : ∀ {ts : List Str}, (∀ t ∈ ts, PyData.strOk t = true) → PyData.strOk (Str.join ", " ts) = true
  | [], _ => sOk_of ""
  | [x], h => h x (by simp)
  | x :: y :: r, h => sOk_app (sOk_app (h x (by simp)) (sOk_of _)) (sOk_join (ts := y :: r) fun t ht => h t (by simp at ht ⊢; right; exact ht))
structure Sh (n k : Nat) (d : D) : Prop where
  ok' : PyData.strOk d.shown = true
  sw : d.showable = true
  nd : d.hasDict = false
  dp : d.depth ≤ k
  ln : d.shown.length ≤ n
theorem Sh.mono {n k m l : Nat} {d : D} (h : Sh n k d) (h1 : n ≤ m) (h2 : k ≤ l) : Sh m l d := ⟨h.ok', h.sw, h.nd, Nat.le_trans h.dp h2, Nat.le_trans h.ln h1⟩
theorem Sh.ok {n k : Nat} {d : D} (h : Sh n k d) (hk : k ≤ 60) (hn : n ≤ 16777216) : okShow d = true := by
  have h1 := h.dp
  have h2 := h.ln
  simp [okShow, h.sw, h.nd]
  exact ⟨by omega, by show _ ≤ 16777216; omega⟩
theorem sh_int {i : Int} (h : i.natAbs < 10 ^ 12) : Sh 13 0 (.int i) := by
  refine ⟨sOk_of _, ?_, rfl, Nat.le_refl _, ?_⟩
  · simp only [PyData.showable, decide_eq_true_eq]
    by_cases h0 : i.natAbs = 0
    · rw [h0]; decide
    · rw [Nat.log2_lt h0]
      exact Nat.lt_of_lt_of_le h (by decide)
  · exact PyData.shown_int_le h
end Q
namespace Q
open PySem PySem.Spec PyProof.Rows L2
/-- with a store that changes, by the turn's number -/
theorem compL_stI' {i : Nat} {f : EnvQ → Sto → R W} {env : EnvQ} {c : EnvQ → Sto → R Bool} (I : Nat → Sto → Prop) (P : D → Prop) (hc : ∀ d S, c (env.set i (some (.d d))) S = .ok true S) : ∀ {ds : List D} {n : Nat} {S : Sto}, I n S → (∀ j d S, ds[j]? = some d → I (n + j) S → ∃ x S', f (env.set i (some (.d d))) S = .ok (.d x) S' ∧ I (n + j + 1) S' ∧ P x) → ∃ xs S', compL (.name i) c f env ds S = .ok xs S' ∧ I (n + ds.length) S' ∧ xs.length = ds.length ∧ ∀ x ∈ xs, P x
  | [], n, S, hI, _ => ⟨[], S, rfl, hI, rfl, by simp⟩
  | d :: ds, n, S, hI, h => by
    obtain ⟨x, S1, e1, I1, p1⟩ := h 0 d S rfl hI
    obtain ⟨xs, S2, e2, I2, l2, p2⟩ := compL_stI' I P hc (ds := ds) (n := n + 1) I1 fun j d S hd hj => by
      have := h (j + 1) d S (by simpa using hd) (by rw [show n + (j + 1) = n + 1 + j by omega]; exact hj)
      rw [show n + (j + 1) + 1 = n + 1 + j + 1 by omega] at this
      exact this
    refine ⟨x :: xs, S2, ?_, by rw [show n + (d :: ds).length = n + 1 + ds.length by simp; omega]; exact I2, by simp [l2], fun y hy => ?_⟩
    · simp only [compL, z_name]
      rw [hc d S]
      simp [e1, e2]
    · rcases List.mem_cons.mp hy with rfl | hy
      · exact p1
      · exact p2 y hy
theorem compL_stI {i : Nat} {f : EnvQ → Sto → R W} {env : EnvQ} {c : EnvQ → Sto → R Bool} (I : Nat → Sto → Prop) (P : D → Prop) {ds : List D} {S : Sto} (hc : ∀ d S, c (env.set i (some (.d d))) S = .ok true S) (h0 : I 0 S) (h : ∀ j d S, ds[j]? = some d → I j S → ∃ x S', f (env.set i (some (.d d))) S = .ok (.d x) S' ∧ I (j + 1) S' ∧ P x) : ∃ xs S', compL (.name i) c f env ds S = .ok xs S' ∧ I ds.length S' ∧ xs.length = ds.length ∧ ∀ x ∈ xs, P x := by
  have := compL_stI' I P hc (ds := ds) (n := 0) h0 fun j d S hd hj => by
    have := h j d S hd (by simpa using hj)
    simpa using this
  simpa using this
end Q

namespace Q
open PySem PySem.Spec PyProof.Rows L2
section
variable {cf : CF} {env : EnvQ} {S : Sto}
@[simp] theorem y_setCompO (i : Nat) (vs : List Nat) (t : Tg) (it : SI) (c : ST) (f : SE) : sSetCompO i vs t it c f cf env S = if vs.all (notOwn env) then (it cf env S).then env fun ds S1 => (compL t (c cf) (f cf) (wipeE env vs) ds S1).calm.then env fun xs S2 => if xs.length ≤ LIM then .next (env.set i (some (.own xs))) S2 else .stuck else .stuck := rfl
@[simp] theorem y_setIxO (i : Nat) (fk fe : SE) : sSetIxO i fk fe cf env S = (match env[i]? with
  | some (some (.own xs)) => (fe cf env S).then env fun w S1 => (match w with
    | .d x => (fk cf env S1).then env fun u S2 => (match u with
      | .d (.int j) => (match ixN xs.length j with
        | some m => .next (env.set i (some (.own (xs.set m x)))) S2
        | none => .stuck)
      | _ => .stuck)
    | _ => .stuck)
  | _ => .stuck) := rfl
@[simp] theorem y_newD (i : Nat) : sNewD i cf env S = .next (env.set i (some (.ownd []))) S := rfl
@[simp] theorem y_putD (i : Nat) (fk fe : SE) : sPutD i fk fe cf env S = (match env[i]? with
  | some (some (.ownd kvs)) => (fe cf env S).then env fun w S1 => (match w with
    | .d x => (fk cf env S1).then env fun u S2 => (match u with
      | .d y => (match keyOfD y with
        | some k => if kvs.length < LIM then .next (env.set i (some (.ownd (putD kvs k x)))) S2 else .stuck
        | none => .stuck)
      | _ => .stuck)
    | _ => .stuck)
  | _ => .stuck) := rfl
@[simp] theorem x_comp2 (vs : List Nat) (t : Tg) (it : SI) (c : ST) (g : SI) : fComp2 vs t it c g cf env S = if vs.all (notOwn env) then (it cf env S).bind fun ds S1 => (compL2 t (c cf) (g cf) (wipeE env vs) ds S1).calm.bind fun xs S2 => if xs.length ≤ LIM then .ok (.d (.list xs)) S2 else .stuck else .stuck := rfl
@[simp] theorem g_sortP (ps : List (Int × Int)) : gSortedP [.d (.list (ps.map pairD))] S = .ok (.d (.list ((sortP ps).map pairD))) S := by
  simp only [gSortedP, pairsOf_map]
@[simp] theorem g_sortDK (kvs : List (Key × D)) : gSortedDK [.ownd kvs] S = (match intKeys kvs with | some ks => if ks.length < 64 then .ok (.d (.list ((sortI ks).map PyData.int))) S else .stuck | none => .stuck) := rfl
end
end Q

namespace Q
open PySem PySem.Spec PyProof.Rows L2
@[simp] theorem intsOf_map' {α : Type} (p : α → Int) (xs : List α) : intsOf (xs.map fun x => PyData.int (p x)) = some (xs.map p) := intsOf_on p fun _ _ => rfl
@[simp] theorem bools_map' {α : Type} (p : α → Bool) (xs : List α) : bools (xs.map fun x => PyData.bool (p x)) = some (xs.map p) := bools_on p fun _ _ => rfl
theorem cutD_from {α : Type} (xs : List α) (k : Nat) : cutD xs (some (k : Int)) none = xs.drop k := by
  unfold cutD
  rw [HT.sIx_none, HT.sIx_nat]
  by_cases h : k ≤ xs.length
  · rw [Nat.min_eq_left h]
    exact List.take_of_length_le (by simp)
  · rw [Nat.min_eq_right (by omega)]
    simp
    omega
theorem cutD_to {α : Type} (xs : List α) (k : Nat) : cutD xs none (some (k : Int)) = xs.take k := by
  unfold cutD
  rw [HT.sIx_none, HT.sIx_nat]
  by_cases h : k ≤ xs.length
  · rw [Nat.min_eq_left h]; simp
  · rw [Nat.min_eq_right (by omega)]
    simp
    rw [List.take_of_length_le (by omega)]
theorem g_sliceT1 (S : Sto) (xs : List D) (k : Nat) : gSlice (.d (.tuple xs)) (some (k : Int)) none S = .ok (.d (.tuple (xs.drop k))) S := by
  simp only [gSlice, cutD_from]
end Q

namespace Q
open PySem PySem.Spec PyProof.Rows L2
section
variable {cf : CF} {env : EnvQ} {S : Sto}
@[simp] theorem x_rev (f : SE) : fRev f cf env S = (f cf env S).bind fun w S1 => match w with
  | .d (.list xs) => .ok (.d (.list xs.reverse)) S1
  | .d (.tuple xs) => .ok (.d (.tuple xs.reverse)) S1
  | _ => .stuck := rfl
@[simp] theorem x_W (w : W) : fW w cf env S = .ok w S := rfl
@[simp] theorem x_range3 (a : SA) : iRange3 a cf env S = (a cf env S).bind fun ws S1 => match ws with
  | [.d (.int i), .d (.int j), .d (.int c)] => (match rng3 i j c with | some ds => .ok ds S1 | none => .stuck)
  | _ => .stuck := rfl
@[simp] theorem x_lstRg (f : SE) : fLstRg f cf env S = (f cf env S).bind fun w S1 => match w with
  | .d (.int n) => if inR n && decide (n ≤ 16777216) then .ok (.d (.list (rangeD 0 n.toNat))) S1 else .stuck
  | _ => .stuck := rfl
@[simp] theorem x_tupRg (f : SE) : fTupRg f cf env S = (f cf env S).bind fun w S1 => match w with
  | .d (.int n) => if inR n && decide (n ≤ 16777216) then .ok (.d (.tuple (rangeD 0 n.toNat))) S1 else .stuck
  | _ => .stuck := rfl
@[simp] theorem x_zipS (a : SA) : iZipS a cf env S = (a cf env S).bind fun ws S1 => match ws with
  | [.d (.tuple xs), .d (.tuple ys)] => if xs.length = ys.length then .ok (zipD xs ys) S1 else .stuck
  | _ => .stuck := rfl
@[simp] theorem g_addT (xs ys : List D) : gAdd (.d (.tuple xs)) (.d (.tuple ys)) S = if xs.length + ys.length ≤ LIM then .ok (.d (.tuple (xs ++ ys))) S else .stuck := rfl
@[simp] theorem g_addL (xs ys : List D) : gAdd (.d (.list xs)) (.d (.list ys)) S = if xs.length + ys.length ≤ LIM then .ok (.d (.list (xs ++ ys))) S else .stuck := rfl
end
@[simp] theorem at0 {α : Type} (x : α) (xs : List α) : atI (x :: xs) 0 = some x := atI_nat _ 0
@[simp] theorem at1 {α : Type} (x y : α) (xs : List α) : atI (x :: y :: xs) 1 = some y := atI_nat _ 1
@[simp] theorem at2 {α : Type} (x y z : α) (xs : List α) : atI (x :: y :: z :: xs) 2 = some z := atI_nat _ 2
@[simp] theorem at3 {α : Type} (x y z w : α) (xs : List α) : atI (x :: y :: z :: w :: xs) 3 = some w := atI_nat _ 3
@[simp] theorem cut1 {α : Type} (x : α) (xs : List α) : cutD (x :: xs) (some 1) none = xs := cutD_from (x :: xs) 1
@[simp] theorem cut2 {α : Type} (x y : α) (xs : List α) : cutD (x :: y :: xs) (some 2) none = xs := cutD_from (x :: y :: xs) 2
@[simp] theorem cutTo1 {α : Type} (x : α) (xs : List α) : cutD (x :: xs) none (some 1) = [x] := cutD_to (x :: xs) 1
@[simp] theorem cutTo2 {α : Type} (x y : α) (xs : List α) : cutD (x :: y :: xs) none (some 2) = [x, y] := cutD_to (x :: y :: xs) 2
@[simp] theorem cutTo3 {α : Type} (x y z : α) (xs : List α) : cutD (x :: y :: z :: xs) none (some 3) = [x, y, z] := cutD_to (x :: y :: z :: xs) 3
structure Ly (k : Nat) (d : D) : Prop where
  lay : PyData.canLay0 d = true
  dp : PyData.depth d ≤ k
theorem Ly.mono {k l : Nat} {d : D} (h : Ly k d) (q : k ≤ l) : Ly l d := ⟨h.lay, Nat.le_trans h.dp q⟩
theorem Ly.ok {k : Nat} {d : D} (h : Ly k d) (q : k ≤ 64) : okEq d = true := by
  unfold okEq
  rw [h.lay, Bool.true_and]
  exact decide_eq_true (Nat.le_trans h.dp q)
end Q

namespace Q
open PySem PySem.Spec PyProof.Rows L2
section
variable {prog : Program} {w : World}
end
end Q

namespace Q
open PySem PySem.Spec PyProof.Rows L2
section
variable {h h' : Heap}
end
section
variable {prog : Program} {w : World} {A : Around} {h : Heap}
end
end Q

namespace Q
open PySem PySem.Spec PyProof.Rows L2
section
variable {X : Cx} {cf : CF} {EX : WX} {F : Addr → Prop} {σ : L2.St} {env : EnvQ} {S S' : Sto} {H H' : Hp} {μ μ' : List Addr} {K : PySem.W.Frag} {mg : Str → Option Value} {e a b c tg : Expr} {es : List Expr} {fa fb : SE} {ha hb : SA} {pos p : Pos} {x : Str}
end
end Q

namespace Q
open PySem PySem.Spec PyProof.Rows L2
def F_is_whole : SS := (sRetP (fAnd (fIsI "int" (fVar 0)) (fNot (fIsI "bool" (fVar 0)))))
def F_is_among : SS := (sRetP (fAnd (fCallN "is_whole" 1 (aCons (fVar 0) aNil)) (fChain gLe gLe (fVar 1) (fVar 0) (fVar 2))))
def F_is_row : SS := (sRetP (fAnd (fIsI "tuple" (fVar 0)) (fChain gLe gLe (fVar 1) (fB gLen (aCons (fVar 0) aNil)) (fVar 2))))
def C_is_light_of_1 : SE := (fCallN "is_among" 3 (aCons (fVar 3) (aCons (fInt 0) (aCons (fBin gSub (fVar 2) (fInt 1)) aNil))))
def F_is_light_of : SS := (sSeq (sIf (cOr (cNot (cVal (fCallN "is_row" 3 (aCons (fVar 0) (aCons (fInt 3) (aCons (fInt 3) aNil)))))) (cNot (cVal (fCallN "is_among" 3 (aCons (fAt (fVar 0) (fInt 0)) (aCons (fInt 0) (aCons (fBin gSub (fVar 1) (fInt 1)) aNil)))))))
  (sRetP (fBl false))
  sNext)
  (sSeq (sIf (cOr (cNot (cVal (fCallN "is_among" 3 (aCons (fAt (fVar 0) (fInt 1)) (aCons (fNeg (fInt 9)) (aCons (fInt 9) aNil)))))) (cNot (cVal (fCallN "is_row" 3 (aCons (fAt (fVar 0) (fInt 2)) (aCons (fInt 1) (aCons (fInt 4) aNil)))))))
  (sRetP (fBl false))
  sNext)
  (sRetP (fB gAll (aCons (fComp [3] (.name 3) (iSeq (fAt (fVar 0) (fInt 2))) cYes C_is_light_of_1) aNil)))))
def C_is_sky_1 : SE := (fCallN "is_light_of" 3 (aCons (fVar 1) (aCons (fAt (fVar 0) (fInt 0)) (aCons (fAt (fVar 0) (fInt 1)) aNil))))
def F_is_sky : SS := (sSeq (sIf (cOr (cNot (cVal (fCallN "is_row" 3 (aCons (fVar 0) (aCons (fInt 3) (aCons (fInt 3) aNil)))))) (cNot (cVal (fCallN "is_among" 3 (aCons (fAt (fVar 0) (fInt 0)) (aCons (fInt 4) (aCons (fInt 12) aNil)))))))
  (sRetP (fBl false))
  sNext)
  (sSeq (sIf (cOr (cNot (cVal (fCallN "is_among" 3 (aCons (fAt (fVar 0) (fInt 1)) (aCons (fInt 1) (aCons (fInt 5) aNil)))))) (cNot (cVal (fCallN "is_row" 3 (aCons (fAt (fVar 0) (fInt 2)) (aCons (fInt 1) (aCons (fInt 6) aNil)))))))
  (sRetP (fBl false))
  sNext)
  (sRetP (fB gAll (aCons (fComp [1] (.name 1) (iSeq (fAt (fVar 0) (fInt 2))) cYes C_is_sky_1) aNil)))))
def F_need_sky : SS := (sIf (cNot (cVal (fCallN "is_sky" 1 (aCons (fVar 0) aNil))))
  (sRaise "NoSky")
  sNext)
def C_is_item_1 : SE := (fCallN "is_among" 3 (aCons (fVar 3) (aCons (fBin gSub (fInt 0) (fInt 99)) (aCons (fInt 99) aNil))))
def F_is_item : SS := (sSeq (sIf (cOr (cNot (cVal (fIsI "tuple" (fVar 1)))) (cOr (cVal (fBin gEqM (fVar 1) (fTup aNil))) (cNot (cVal (fIsI "str" (fAt (fVar 1) (fInt 0)))))))
  (sRetP (fBl false))
  sNext)
  (sSeq (sIf (cVal (fBin gEq (fAt (fVar 1) (fInt 0)) (fStr "go")))
  (sRetP (fAnd (fBin gEq (fB gLen (aCons (fVar 1) aNil)) (fInt 4)) (fB gAll (aCons (fComp [3] (.name 3) (iSeq (fSl (fVar 1) (oSome (fInt 1)) oNone)) cYes C_is_item_1) aNil))))
  sNext)
  (sSeq (sIf (cVal (fBin gEq (fAt (fVar 1) (fInt 0)) (fStr "flip")))
  (sRetP (fAnd (fBin gEq (fB gLen (aCons (fVar 1) aNil)) (fInt 2)) (fCallN "is_among" 3 (aCons (fAt (fVar 1) (fInt 1)) (aCons (fInt 0) (aCons (fBin gSub (fB gLen (aCons (fAt (fVar 0) (fInt 2)) aNil)) (fInt 1)) aNil))))))
  sNext)
  (sSeq (sIf (cVal (fBin gEq (fAt (fVar 1) (fInt 0)) (fStr "again")))
  (sRetP (fAnd (fBin gEq (fB gLen (aCons (fVar 1) aNil)) (fInt 3)) (fAnd (fBin gGt (fVar 2) (fInt 0)) (fAnd (fCallN "is_among" 3 (aCons (fAt (fVar 1) (fInt 1)) (aCons (fInt 0) (aCons (fInt 1000000) aNil)))) (fCallN "are_items" 3 (aCons (fVar 0) (aCons (fAt (fVar 1) (fInt 2)) (aCons (fBin gSub (fVar 2) (fInt 1)) aNil))))))))
  sNext)
  (sRetP (fBin gEqM (fVar 1) (fTup (aCons (fStr "mark") aNil))))))))
def C_are_items_1 : SE := (fCallN "is_item" 3 (aCons (fVar 0) (aCons (fVar 3) (aCons (fVar 2) aNil))))
def F_are_items : SS := (sRetP (fAnd (fCallN "is_row" 3 (aCons (fVar 1) (aCons (fInt 0) (aCons (fInt 8) aNil)))) (fB gAll (aCons (fComp [3] (.name 3) (iSeq (fVar 1)) cYes C_are_items_1) aNil))))
def B_size_of_1 : SS := (sIf (cVal (fBin gEq (fAt (fVar 2) (fInt 0)) (fStr "again")))
  (sAug 1 gAddI (fBin gMul2 (fAt (fVar 2) (fInt 1)) (fCallN "size_of" 1 (aCons (fAt (fVar 2) (fInt 2)) aNil))))
  (sAug 1 gAddI (fB gInt (aCons (fBin gNe (fAt (fVar 2) (fInt 0)) (fStr "mark")) aNil))))
def F_size_of : SS := (sSeq (sSet 1 (fInt 0))
  (sSeq (sFor (.name 2) (iSeq (fVar 0))
  B_size_of_1)
  (sRetP (fVar 1))))
def F_is_scene_by : SS := (sRetP (fAnd (fCallN "are_items" 3 (aCons (fVar 0) (aCons (fVar 1) (aCons (fInt 3) aNil)))) (fBin gLe (fCallN "size_of" 1 (aCons (fVar 1) aNil)) (fInt 100000000000))))
def F_is_scene : SS := (sSeq (sExpr (fCallN "need_sky" 1 (aCons (fVar 0) aNil)))
  (sRetP (fCallN "is_scene_by" 2 (aCons (fVar 0) (aCons (fVar 1) aNil)))))
def F_need_scene : SS := (sIf (cNot (cVal (fCallN "is_scene_by" 2 (aCons (fVar 0) (aCons (fVar 1) aNil)))))
  (sRaise "NoScene")
  sNext)
def F_need_both : SS := (sSeq (sExpr (fCallN "need_sky" 1 (aCons (fVar 0) aNil)))
  (sExpr (fCallN "need_scene" 2 (aCons (fVar 0) (aCons (fVar 1) aNil)))))
def F_beats_of : SS := (sSeq (sExpr (fCallN "need_both" 2 (aCons (fVar 0) (aCons (fVar 1) aNil))))
  (sRetP (fCallN "size_of" 1 (aCons (fVar 1) aNil))))
def B_marks_in_1 : SS := (sIf (cVal (fBin gEq (fAt (fVar 2) (fInt 0)) (fStr "again")))
  (sAug 1 gAddI (fBin gMul2 (fAt (fVar 2) (fInt 1)) (fCallN "marks_in" 1 (aCons (fAt (fVar 2) (fInt 2)) aNil))))
  (sAug 1 gAddI (fB gInt (aCons (fBin gEq (fAt (fVar 2) (fInt 0)) (fStr "mark")) aNil))))
def F_marks_in : SS := (sSeq (sSet 1 (fInt 0))
  (sSeq (sFor (.name 2) (iSeq (fVar 0))
  B_marks_in_1)
  (sRetP (fVar 1))))
def F_marks_of : SS := (sSeq (sExpr (fCallN "need_both" 2 (aCons (fVar 0) (aCons (fVar 1) aNil))))
  (sRetP (fCallN "marks_in" 1 (aCons (fVar 1) aNil))))
def F__law_cell_at : SS := (sSeq (sIf (cVal (fBin gLt (fVar 1) (fB gLen (aCons (fVar 0) aNil))))
  (sRetP (fAt (fVar 0) (fVar 1)))
  sNext)
  (sRetP (fInt 0)))
def F__law_pen : SS := (sRetP (fNewL (aCons (fB gMax2 (aCons (fInt 0) (aCons (fBin gSub (fVar 0) (fBin gPow (fInt 10) (fInt 18))) aNil))) (aCons (fBin gMod (fVar 0) (fInt 1000000007)) (aCons (fInt 0) aNil)))))
def F__law_draw : SS := (sSeq (sIf (cVal (fBin gGt (fAt (fVar 0) (fInt 0)) (fInt 0)))
  (sSeq (sSet 2 (fBin gMod (fAt (fVar 0) (fInt 0)) (fVar 1)))
  (sSeq (sSetIx (fVar 0) (fInt 0) (fBin gDiv (fAt (fVar 0) (fInt 0)) (fVar 1)))
  (sRetP (fVar 2))))
  sNext)
  (sSeq (sSetIx (fVar 0) (fInt 2) (fBin gAdd (fAt (fVar 0) (fInt 2)) (fInt 1)))
  (sSeq (sSet 3 (fBin gMod (fBin gMul2 (fBin gAdd (fAt (fVar 0) (fInt 1)) (fBin gMul2 (fInt 17) (fAt (fVar 0) (fInt 2)))) (fBin gAdd (fInt 69621) (fBin gMul2 (fInt 2) (fAt (fVar 0) (fInt 2))))) (fInt 2147483647)))
  (sSeq (sSet 3 (fBin gMod (fBin gAdd (fBin gAdd (fBin gMul2 (fVar 3) (fVar 3)) (fBin gMul2 (fInt 40503) (fAt (fVar 0) (fInt 2)))) (fInt 5)) (fInt 2147483629)))
  (sRetP (fBin gMod (fBin gDiv (fBin gMod (fBin gMul2 (fVar 3) (fInt 48271)) (fInt 2147483647)) (fInt 32)) (fVar 1)))))))
def C__law_sky_1 : SE := (fCallN "_law_draw" 2 (aCons (fVar 0) (aCons (fVar 3) aNil)))
def B__law_sky_2 : SS := (sSeq (sSet 6 (fB gTuple (aCons (fComp [7] (.name 7) (iRange1 (aCons (fBin gAdd (fInt 1) (fCallN "_law_draw" 2 (aCons (fVar 0) (aCons (fInt 4) aNil)))) aNil)) cYes C__law_sky_1) aNil)))
  (sApp 4 (fTup (aCons (fCallN "_law_draw" 2 (aCons (fVar 0) (aCons (fVar 2) aNil))) (aCons (fBin gSub (fCallN "_law_draw" 2 (aCons (fVar 0) (aCons (fInt 19) aNil))) (fInt 9)) (aCons (fVar 6) aNil))))))
def F__law_sky : SS := (sSeq (sUnp [2, 3] (fTup (aCons (fBin gAdd (fInt 4) (fCallN "_law_draw" 2 (aCons (fVar 0) (aCons (fInt 9) aNil)))) (aCons (fBin gAdd (fInt 1) (fCallN "_law_draw" 2 (aCons (fVar 0) (aCons (fInt 5) aNil)))) aNil))))
  (sSeq (sNew 4 aNil)
  (sSeq (sFor (.name 5) (iRange1 (aCons (fBin gAdd (fInt 1) (fCallN "_law_draw" 2 (aCons (fVar 0) (aCons (fVar 1) aNil)))) aNil))
  B__law_sky_2)
  (sRetP (fTup (aCons (fVar 2) (aCons (fVar 3) (aCons (fB gTuple (aOne (fOwn 4))) aNil))))))))
def F__law_go : SS := (sSeq (sSet 1 (fAt (fLst (aCons (fInt 2) (aCons (fInt 5) (aCons (fInt 99) aNil)))) (fCallN "_law_draw" 2 (aCons (fVar 0) (aCons (fInt 3) aNil)))))
  (sSeq (sPar [2, 3] (aCons (fBin gSub (fCallN "_law_draw" 2 (aCons (fVar 0) (aCons (fBin gAdd (fBin gMul2 (fInt 2) (fVar 1)) (fInt 1)) aNil))) (fVar 1)) (aCons (fBin gSub (fCallN "_law_draw" 2 (aCons (fVar 0) (aCons (fBin gAdd (fBin gMul2 (fInt 2) (fVar 1)) (fInt 1)) aNil))) (fVar 1)) aNil)))
  (sRetP (fTup (aCons (fStr "go") (aCons (fVar 2) (aCons (fVar 3) (aCons (fAt (fLst (aCons (fInt 0) (aCons (fInt 0) (aCons (fInt 1) (aCons (fNeg (fInt 1)) (aCons (fInt 2) (aCons (fNeg (fInt 3)) aNil))))))) (fCallN "_law_draw" 2 (aCons (fVar 0) (aCons (fInt 6) aNil)))) aNil))))))))
def B__law_items_1 : SS := (sSeq (sSet 6 (fCallN "_law_draw" 2 (aCons (fVar 0) (aCons (fInt 8) aNil))))
  (sIf (cVal (fBin gLt (fVar 6) (fInt 4)))
  (sApp 4 (fCallN "_law_go" 1 (aCons (fVar 0) aNil)))
  (sIf (cVal (fBin gEq (fVar 6) (fInt 4)))
  (sApp 4 (fTup (aCons (fStr "flip") (aCons (fCallN "_law_draw" 2 (aCons (fVar 0) (aCons (fB gLen (aCons (fAt (fVar 1) (fInt 2)) aNil)) aNil))) aNil))))
  (sIf (cOr (cVal (fBin gEq (fVar 6) (fInt 5))) (cVal (fBin gEq (fVar 3) (fInt 0))))
  (sApp 4 (fTup (aCons (fStr "mark") aNil)))
  (sApp 4 (fTup (aCons (fStr "again") (aCons (fCallN "_law_draw" 2 (aCons (fVar 0) (aCons (fInt 4) aNil))) (aCons (fCallN "_law_items" 4 (aCons (fVar 0) (aCons (fVar 1) (aCons (fInt 2) (aCons (fBin gSub (fVar 3) (fInt 1)) aNil))))) aNil)))))))))
def F__law_items : SS := (sSeq (sNew 4 aNil)
  (sSeq (sFor (.name 5) (iRange1 (aCons (fCallN "_law_draw" 2 (aCons (fVar 0) (aCons (fBin gAdd (fVar 2) (fInt 1)) aNil))) aNil))
  B__law_items_1)
  (sRetP (fB gTuple (aOne (fOwn 4))))))
def F__law_whole : SS := (sRetP (fAnd (fIsI "int" (fVar 0)) (fNot (fIsI "bool" (fVar 0)))))
def F__law_within : SS := (sRetP (fAnd (fCallN "_law_whole" 1 (aCons (fVar 0) aNil)) (fChain gLe gLe (fVar 1) (fVar 0) (fVar 2))))
def F__law_odd : SS := (sSeq (sSet 1 (fLst (aCons fNon (aCons (fBl true) (aCons (fBl false) (aCons (fNeg (fInt 1)) (aCons (fBin gPow (fInt 10) (fInt 11)) (aCons (fStr "") (aCons (fStr "lame") (aCons (fStr "alike") (aCons (fTup aNil) (aCons (fLst aNil) (aCons fDic0 (aCons (fTup (aCons (fInt 0) aNil)) (aCons (fLst (aCons (fInt 0) aNil)) (aCons (fTup (aCons (fStr "off") (aCons (fInt 0) aNil))) (aCons (fDicK [(.int (0), .int (0))]) (aCons (fInt 99) aNil))))))))))))))))))
  (sRetP (fAt (fVar 1) (fCallN "_law_draw" 2 (aCons (fVar 0) (aCons (fInt 16) aNil))))))
def F__law_bent : SS := (sSeq (sIf (cAnd (cVal (fCallN "_law_whole" 1 (aCons (fVar 1) aNil))) (cVal (fBin gGt (fCallN "_law_draw" 2 (aCons (fVar 0) (aCons (fInt 3) aNil))) (fInt 0))))
  (sRetP (fAt (fLst (aCons (fBin gAdd (fVar 1) (fInt 1)) (aCons (fBin gSub (fVar 1) (fInt 1)) (aCons (fBin gSub (fInt 0) (fVar 1)) (aCons (fBin gAdd (fVar 1) (fInt 64)) (aCons (fBin gPow (fInt 10) (fInt 11)) (aCons (fBl true) aNil))))))) (fCallN "_law_draw" 2 (aCons (fVar 0) (aCons (fInt 6) aNil)))))
  sNext)
  (sSeq (sIf (cOr (cNot (cVal (fIsI "tuple" (fVar 1)))) (cOr (cVal (fBin gEqZ (fVar 1) (fTup aNil))) (cVal (fBin gEq (fVar 2) (fInt 0)))))
  (sRetP (fCallN "_law_odd" 1 (aCons (fVar 0) aNil)))
  sNext)
  (sSeq (sPar [3, 4] (aCons (fCallN "_law_draw" 2 (aCons (fVar 0) (aCons (fB gLen (aCons (fVar 1) aNil)) aNil))) (aCons (fCallN "_law_draw" 2 (aCons (fVar 0) (aCons (fInt 10) aNil))) aNil)))
  (sSeq (sIf (cVal (fBin gEq (fVar 4) (fInt 0)))
  (sRetP (fBin gAdd (fBin gAdd (fSl (fVar 1) oNone (oSome (fVar 3))) (fTup (aCons (fCallN "_law_odd" 1 (aCons (fVar 0) aNil)) aNil))) (fSl (fVar 1) (oSome (fVar 3)) oNone)))
  sNext)
  (sSeq (sIf (cVal (fBin gEq (fVar 4) (fInt 1)))
  (sRetP (fBin gAdd (fSl (fVar 1) oNone (oSome (fVar 3))) (fSl (fVar 1) (oSome (fBin gAdd (fVar 3) (fInt 1))) oNone)))
  sNext)
  (sSeq (sIf (cVal (fBin gEq (fVar 4) (fInt 2)))
  (sRetP (fBin gAdd (fBin gAdd (fSl (fVar 1) oNone (oSome (fVar 3))) (fSl (fVar 1) (oSome (fVar 3)) (oSome (fBin gAdd (fVar 3) (fInt 1))))) (fSl (fVar 1) (oSome (fVar 3)) oNone)))
  sNext)
  (sSeq (sIf (cVal (fBin gEq (fVar 4) (fInt 3)))
  (sRetP (fAt (fLst (aCons (fB gList (aCons (fVar 1) aNil)) (aCons (fRev (fVar 1)) aNil))) (fCallN "_law_draw" 2 (aCons (fVar 0) (aCons (fInt 2) aNil)))))
  sNext)
  (sRetP (fBin gAdd (fBin gAdd (fSl (fVar 1) oNone (oSome (fVar 3))) (fTup (aCons (fCallN "_law_bent" 3 (aCons (fVar 0) (aCons (fAt (fVar 1) (fVar 3)) (aCons (fBin gSub (fVar 2) (fInt 1)) aNil)))) aNil))) (fSl (fVar 1) (oSome (fBin gAdd (fVar 3) (fInt 1))) oNone))))))))))
def C__law_are_items_1 : SE := (fCallN "_law_is_item" 3 (aCons (fVar 0) (aCons (fVar 3) (aCons (fVar 2) aNil))))
def F__law_are_items : SS := (sSeq (sIf (cOr (cNot (cVal (fIsI "tuple" (fVar 1)))) (cVal (fBin gGt (fB gLen (aCons (fVar 1) aNil)) (fInt 8))))
  (sRetP (fBl false))
  sNext)
  (sRetP (fB gAll (aCons (fComp [3] (.name 3) (iSeq (fVar 1)) cYes C__law_are_items_1) aNil))))
def C__law_is_item_1 : SE := (fCallN "_law_within" 3 (aCons (fVar 3) (aCons (fNeg (fInt 99)) (aCons (fInt 99) aNil))))
def F__law_is_item : SS := (sSeq (sIf (cOr (cNot (cVal (fIsI "tuple" (fVar 1)))) (cOr (cVal (fBin gEqZ (fVar 1) (fTup aNil))) (cNot (cVal (fIsI "str" (fAt (fVar 1) (fInt 0)))))))
  (sRetP (fBl false))
  sNext)
  (sSeq (sIf (cVal (fBin gEq (fAt (fVar 1) (fInt 0)) (fStr "go")))
  (sRetP (fAnd (fBin gEq (fB gLen (aCons (fVar 1) aNil)) (fInt 4)) (fB gAll (aCons (fComp [3] (.name 3) (iSeq (fSl (fVar 1) (oSome (fInt 1)) oNone)) cYes C__law_is_item_1) aNil))))
  sNext)
  (sSeq (sIf (cVal (fBin gEq (fAt (fVar 1) (fInt 0)) (fStr "flip")))
  (sRetP (fAnd (fBin gEq (fB gLen (aCons (fVar 1) aNil)) (fInt 2)) (fCallN "_law_within" 3 (aCons (fAt (fVar 1) (fInt 1)) (aCons (fInt 0) (aCons (fBin gSub (fB gLen (aCons (fAt (fVar 0) (fInt 2)) aNil)) (fInt 1)) aNil))))))
  sNext)
  (sSeq (sIf (cVal (fBin gNe (fAt (fVar 1) (fInt 0)) (fStr "again")))
  (sRetP (fAnd (fBin gEq (fAt (fVar 1) (fInt 0)) (fStr "mark")) (fBin gEq (fB gLen (aCons (fVar 1) aNil)) (fInt 1))))
  sNext)
  (sSeq (sIf (cOr (cVal (fBin gNe (fB gLen (aCons (fVar 1) aNil)) (fInt 3))) (cOr (cVal (fBin gEq (fVar 2) (fInt 0))) (cNot (cVal (fCallN "_law_within" 3 (aCons (fAt (fVar 1) (fInt 1)) (aCons (fInt 0) (aCons (fInt 1000000) aNil))))))))
  (sRetP (fBl false))
  sNext)
  (sRetP (fCallN "_law_are_items" 3 (aCons (fVar 0) (aCons (fAt (fVar 1) (fInt 2)) (aCons (fBin gSub (fVar 2) (fInt 1)) aNil))))))))))
def B__law_counted_1 : SS := (sIf (cVal (fBin gEq (fAt (fVar 3) (fInt 0)) (fStr "again")))
  (sSeq (sSet 4 (fCallN "_law_counted" 1 (aCons (fAt (fVar 3) (fInt 2)) aNil)))
  (sPar [1, 2] (aCons (fBin gAdd (fVar 1) (fBin gMul2 (fAt (fVar 3) (fInt 1)) (fAt (fVar 4) (fInt 0)))) (aCons (fBin gAdd (fVar 2) (fBin gMul2 (fAt (fVar 3) (fInt 1)) (fAt (fVar 4) (fInt 1)))) aNil))))
  (sPar [1, 2] (aCons (fBin gAdd (fVar 1) (fB gInt (aCons (fBin gNe (fAt (fVar 3) (fInt 0)) (fStr "mark")) aNil))) (aCons (fBin gAdd (fVar 2) (fB gInt (aCons (fBin gEq (fAt (fVar 3) (fInt 0)) (fStr "mark")) aNil))) aNil))))
def F__law_counted : SS := (sSeq (sUnp [1, 2] (fTup (aCons (fInt 0) (aCons (fInt 0) aNil))))
  (sSeq (sFor (.name 3) (iSeq (fVar 0))
  B__law_counted_1)
  (sRetP (fTup (aCons (fVar 1) (aCons (fVar 2) aNil))))))
def F__law_by_hand : SS := (sSeq (sUnp [0, 1, 2] (fTup (aCons (fTup (aCons (fStr "flip") (aCons (fInt 0) aNil))) (aCons (fTup (aCons (fStr "mark") aNil)) (aCons (fInt 1000000) aNil)))))
  (sSeq (sSet 3 (fTup (aCons (fStr "again") (aCons (fVar 2) (aCons (fTup (aCons (fTup (aCons (fStr "again") (aCons (fInt 100000) (aCons (fTup (aCons (fVar 0) aNil)) aNil)))) aNil)) aNil)))))
  (sSeq (sNew 4 (aCons (fTup aNil) (aCons (fBin gMulA (fTup (aCons (fVar 0) aNil)) (fInt 8)) (aCons (fBin gMulA (fTup (aCons (fVar 0) aNil)) (fInt 9)) (aCons (fTup (aCons (fVar 3) aNil)) (aCons (fTup (aCons (fVar 3) (aCons (fVar 0) aNil))) (aCons (fTup (aCons (fVar 3) (aCons (fVar 1) aNil))) (aCons (fTup (aCons (fTup (aCons (fStr "again") (aCons (fBin gAdd (fVar 2) (fInt 1)) (aCons (fTup aNil) aNil)))) aNil)) aNil))))))))
  (sSeq (sApp 4 (fTup (aCons (fVar 1) (aCons (fTup (aCons (fStr "mark") (aCons (fInt 0) aNil))) aNil))))
  (sSeq (sAddO 4 (fLst (aCons (fTup (aCons (fTup (aCons (fStr "go") (aCons (fInt 99) (aCons (fNeg (fInt 99)) (aCons (fInt 0) aNil))))) aNil)) (aCons (fTup (aCons (fTup (aCons (fStr "go") (aCons (fInt 100) (aCons (fInt 0) (aCons (fInt 0) aNil))))) aNil)) (aCons (fTup (aCons (fTup (aCons (fStr "go") (aCons (fInt 0) (aCons (fInt 0) (aCons (fNeg (fInt 100)) aNil))))) aNil)) (aCons (fTup (aCons (fTup (aCons (fStr "go") (aCons (fInt 0) (aCons (fInt 0) aNil)))) aNil)) aNil))))))
  (sSeq (sApp 4 (fTup (aCons (fTup (aCons (fStr "flip") (aCons (fNeg (fInt 1)) aNil))) aNil)))
  (sSeq (sAddO 4 (fLst (aCons (fTup (aCons (fTup (aCons (fStr "flip") (aCons (fBl true) aNil))) aNil)) (aCons (fTup (aCons (fTup (aCons (fStr "again") (aCons (fBl true) (aCons (fTup aNil) aNil)))) aNil)) (aCons (fTup (aCons (fTup (aCons (fStr "again") (aCons (fNeg (fInt 1)) (aCons (fTup aNil) aNil)))) aNil)) (aCons (fTup (aCons (fTup (aCons (fStr "again") (aCons (fInt 2) aNil))) aNil)) (aCons (fTup (aCons (fTup aNil) aNil)) aNil)))))))
  (sSeq (sApp 4 (fTup (aCons (fTup (aCons (fStr "stop") aNil)) aNil)))
  (sSeq (sSet 5 (fTup (aCons (fTup (aCons (fStr "again") (aCons (fInt 0) (aCons (fTup (aCons (fTup (aCons (fStr "again") (aCons (fInt 9) (aCons (fTup (aCons (fTup (aCons (fStr "again") (aCons (fInt 9) (aCons (fTup (aCons (fTup (aCons (fStr "again") (aCons (fInt 9) (aCons (fTup aNil) aNil)))) aNil)) aNil)))) aNil)) aNil)))) aNil)) aNil)))) aNil)))
  (sSeq (sAddO 4 (fLst (aCons (fVar 5) (aCons (fAt (fAt (fVar 5) (fInt 0)) (fInt 2)) aNil))))
  (sSeq (sApp 4 (fTup (aCons (fTup (aCons (fStr "again") (aCons (fInt 1) (aCons (fTup (aCons (fTup (aCons (fStr "again") (aCons (fInt 1) (aCons (fTup (aCons (fTup (aCons (fStr "again") (aCons (fInt 1) (aCons (fTup (aCons (fTup (aCons (fStr "flip") (aCons (fInt 9) aNil))) aNil)) aNil)))) aNil)) aNil)))) aNil)) aNil)))) aNil)))
  (sSeq (sApp 4 (fTup (aCons (fTup (aCons (fStr "again") (aCons (fVar 2) (aCons (fTup (aCons (fTup (aCons (fStr "again") (aCons (fVar 2) (aCons (fTup (aCons (fTup (aCons (fStr "again") (aCons (fVar 2) (aCons (fBin gMulA (fTup (aCons (fVar 1) aNil)) (fInt 8)) aNil)))) aNil)) aNil)))) aNil)) aNil)))) aNil)))
  (sSeq (sApp 4 (fTup (aCons (fTup (aCons (fStr "again") (aCons (fInt 0) (aCons (fTup (aCons (fTup (aCons (fStr "again") (aCons (fVar 2) (aCons (fTup (aCons (fTup (aCons (fStr "again") (aCons (fVar 2) (aCons (fTup (aCons (fVar 0) aNil)) aNil)))) aNil)) aNil)))) aNil)) aNil)))) aNil)))
  (sSeq (sFreeze 4) (sRetP (fBin gAdd (fVar 4) (fLst (aCons (fLst (aCons (fVar 0) aNil)) (aCons (fTup (aCons (fTup (aCons (fStr "again") (aCons (fInt 1) (aCons (fLst (aCons (fVar 0) aNil)) aNil)))) aNil)) (aCons (fVar 0) (aCons fNon aNil)))))))))))))))))))))
def F__law_right : SS := (sSeq (sPar [2, 3] (aCons (fB gReprX (aCons (fTup (aCons (fVar 0) (aCons (fVar 1) aNil))) aNil)) (aCons (fAnd (fCallN "_law_are_items" 3 (aCons (fVar 0) (aCons (fVar 1) (aCons (fInt 3) aNil)))) (fBin gLe (fAt (fCallN "_law_counted" 1 (aCons (fVar 1) aNil)) (fInt 0)) (fInt 100000000000))) aNil)))
  (sSeq (sIf (cVal (fBin gNe (fB gReprX (aCons (fCallN "is_scene" 2 (aCons (fVar 0) (aCons (fVar 1) aNil))) aNil)) (fB gReprX (aCons (fVar 3) aNil))))
  (sRetP (fBl false))
  sNext)
  (sSeq (sIf (cAnd (cVal (fVar 3)) (cVal (fBin gNe (fTup (aCons (fCallN "beats_of" 2 (aCons (fVar 0) (aCons (fVar 1) aNil))) (aCons (fCallN "marks_of" 2 (aCons (fVar 0) (aCons (fVar 1) aNil))) aNil))) (fCallN "_law_counted" 1 (aCons (fVar 1) aNil)))))
  (sRetP (fBl false))
  sNext)
  (sRetP (fBin gEq (fB gReprX (aCons (fTup (aCons (fVar 0) (aCons (fVar 1) aNil))) aNil)) (fVar 2))))))
def C_law_1 : SE := (fCallN "_law_right" 2 (aCons (fTup (aCons (fInt 4) (aCons (fInt 1) (aCons (fTup (aCons (fTup (aCons (fInt 0) (aCons (fInt 0) (aCons (fTup (aCons (fInt 0) aNil)) aNil)))) aNil)) aNil)))) (aCons (fVar 7) aNil)))
def C_law_2 : SE := (fCallN "_law_bent" 3 (aCons (fVar 2) (aCons (fVar 5) (aCons (fBin gAdd (fInt 1) (fBin gMod (fVar 8) (fInt 5))) aNil))))
def C_law_3 : SE := (fCallN "_law_right" 2 (aCons (fVar 4) (aCons (fVar 7) aNil)))
def B_law_4 : SS := (sSeq (sSet 4 (fCallN "_law_sky" 2 (aCons (fVar 2) (aCons (fInt 6) aNil))))
  (sSeq (sSet 5 (fCallN "_law_items" 4 (aCons (fVar 2) (aCons (fVar 4) (aCons (fInt 4) (aCons (fInt 3) aNil))))))
  (sSeq (sSet 6 (fLst (aCons (fVar 5) (aCons (fB gList (aCons (fVar 5) aNil)) (aCons (fBin gMulA (fSl (fVar 5) oNone (oSome (fInt 1))) (fInt 9)) (aCons fNon (aCons (fCallN "_law_odd" 1 (aCons (fVar 2) aNil)) aNil)))))))
  (sSeq (sSet 6 (fBin gAdd (fVar 6) (fComp [8] (.name 8) (iRange1 (aCons (fInt 10) aNil)) cYes C_law_2)))
  (sIf (cOr (cNot (cVal (fB gAll (aCons (fComp [7] (.name 7) (iSeq (fVar 6)) cYes C_law_3) aNil)))) (cVal (fBin gNotB (fCallN "is_scene" 2 (aCons (fVar 4) (aCons (fVar 5) aNil))) (fBl true))))
  (sRetP (fBl false))
  sNext)))))
def B_law_5 : SS := (sSeq (sSet 2 (fCallN "_law_pen" 1 (aCons (fCallN "_law_cell_at" 2 (aCons (fVar 0) (aCons (fVar 1) aNil))) aNil)))
  (sFor (.name 3) (iRange1 (aCons (fInt 4) aNil))
  B_law_4))
def F_law : SS := (sSeq (sIf (cNot (cVal (fB gAll (aCons (fComp [7] (.name 7) (iSeq (fCall0 "_law_by_hand")) cYes C_law_1) aNil))))
  (sRetP (fBl false))
  sNext)
  (sSeq (sFor (.name 1) (iRange1 (aCons (fB gMax2 (aCons (fInt 1) (aCons (fB gMin2 (aCons (fB gLen (aCons (fVar 0) aNil)) (aCons (fInt 3) aNil))) aNil))) aNil))
  B_law_5)
  (sRetP (fBl true))))
def T : Tab := fun x => ([("is_whole", ⟨1, 1, F_is_whole⟩),
  ("is_among", ⟨3, 3, F_is_among⟩),
  ("is_row", ⟨3, 3, F_is_row⟩),
  ("is_light_of", ⟨3, 4, F_is_light_of⟩),
  ("is_sky", ⟨1, 2, F_is_sky⟩),
  ("need_sky", ⟨1, 1, F_need_sky⟩),
  ("is_item", ⟨3, 4, F_is_item⟩),
  ("are_items", ⟨3, 4, F_are_items⟩),
  ("size_of", ⟨1, 3, F_size_of⟩),
  ("is_scene_by", ⟨2, 2, F_is_scene_by⟩),
  ("is_scene", ⟨2, 2, F_is_scene⟩),
  ("need_scene", ⟨2, 2, F_need_scene⟩),
  ("need_both", ⟨2, 2, F_need_both⟩),
  ("beats_of", ⟨2, 2, F_beats_of⟩),
  ("marks_in", ⟨1, 3, F_marks_in⟩),
  ("marks_of", ⟨2, 2, F_marks_of⟩),
  ("_law_cell_at", ⟨2, 2, F__law_cell_at⟩),
  ("_law_pen", ⟨1, 1, F__law_pen⟩),
  ("_law_draw", ⟨2, 4, F__law_draw⟩),
  ("_law_sky", ⟨2, 8, F__law_sky⟩),
  ("_law_go", ⟨1, 4, F__law_go⟩),
  ("_law_items", ⟨4, 7, F__law_items⟩),
  ("_law_whole", ⟨1, 1, F__law_whole⟩),
  ("_law_within", ⟨3, 3, F__law_within⟩),
  ("_law_odd", ⟨1, 2, F__law_odd⟩),
  ("_law_bent", ⟨3, 5, F__law_bent⟩),
  ("_law_are_items", ⟨3, 4, F__law_are_items⟩),
  ("_law_is_item", ⟨3, 4, F__law_is_item⟩),
  ("_law_counted", ⟨1, 5, F__law_counted⟩),
  ("_law_by_hand", ⟨0, 6, F__law_by_hand⟩),
  ("_law_right", ⟨2, 4, F__law_right⟩),
  ("law", ⟨1, 9, F_law⟩)] : List (String × FD)).lookup x
theorem T_is_whole : T "is_whole" = some ⟨1, 1, F_is_whole⟩ := by simp [T, List.lookup]
theorem T_is_among : T "is_among" = some ⟨3, 3, F_is_among⟩ := by simp [T, List.lookup]
theorem T_is_row : T "is_row" = some ⟨3, 3, F_is_row⟩ := by simp [T, List.lookup]
theorem T_is_light_of : T "is_light_of" = some ⟨3, 4, F_is_light_of⟩ := by simp [T, List.lookup]
theorem T_is_sky : T "is_sky" = some ⟨1, 2, F_is_sky⟩ := by simp [T, List.lookup]
theorem T_need_sky : T "need_sky" = some ⟨1, 1, F_need_sky⟩ := by simp [T, List.lookup]
theorem T_is_item : T "is_item" = some ⟨3, 4, F_is_item⟩ := by simp [T, List.lookup]
theorem T_are_items : T "are_items" = some ⟨3, 4, F_are_items⟩ := by simp [T, List.lookup]
theorem T_size_of : T "size_of" = some ⟨1, 3, F_size_of⟩ := by simp [T, List.lookup]
theorem T_is_scene_by : T "is_scene_by" = some ⟨2, 2, F_is_scene_by⟩ := by simp [T, List.lookup]
theorem T_is_scene : T "is_scene" = some ⟨2, 2, F_is_scene⟩ := by simp [T, List.lookup]
theorem T_need_scene : T "need_scene" = some ⟨2, 2, F_need_scene⟩ := by simp [T, List.lookup]
theorem T_need_both : T "need_both" = some ⟨2, 2, F_need_both⟩ := by simp [T, List.lookup]
theorem T_beats_of : T "beats_of" = some ⟨2, 2, F_beats_of⟩ := by simp [T, List.lookup]
theorem T_marks_in : T "marks_in" = some ⟨1, 3, F_marks_in⟩ := by simp [T, List.lookup]
theorem T_marks_of : T "marks_of" = some ⟨2, 2, F_marks_of⟩ := by simp [T, List.lookup]
theorem T__law_cell_at : T "_law_cell_at" = some ⟨2, 2, F__law_cell_at⟩ := by simp [T, List.lookup]
theorem T__law_pen : T "_law_pen" = some ⟨1, 1, F__law_pen⟩ := by simp [T, List.lookup]
theorem T__law_draw : T "_law_draw" = some ⟨2, 4, F__law_draw⟩ := by simp [T, List.lookup]
theorem T__law_sky : T "_law_sky" = some ⟨2, 8, F__law_sky⟩ := by simp [T, List.lookup]
theorem T__law_go : T "_law_go" = some ⟨1, 4, F__law_go⟩ := by simp [T, List.lookup]
theorem T__law_items : T "_law_items" = some ⟨4, 7, F__law_items⟩ := by simp [T, List.lookup]
theorem T__law_whole : T "_law_whole" = some ⟨1, 1, F__law_whole⟩ := by simp [T, List.lookup]
theorem T__law_within : T "_law_within" = some ⟨3, 3, F__law_within⟩ := by simp [T, List.lookup]
theorem T__law_odd : T "_law_odd" = some ⟨1, 2, F__law_odd⟩ := by simp [T, List.lookup]
theorem T__law_bent : T "_law_bent" = some ⟨3, 5, F__law_bent⟩ := by simp [T, List.lookup]
theorem T__law_are_items : T "_law_are_items" = some ⟨3, 4, F__law_are_items⟩ := by simp [T, List.lookup]
theorem T__law_is_item : T "_law_is_item" = some ⟨3, 4, F__law_is_item⟩ := by simp [T, List.lookup]
theorem T__law_counted : T "_law_counted" = some ⟨1, 5, F__law_counted⟩ := by simp [T, List.lookup]
theorem T__law_by_hand : T "_law_by_hand" = some ⟨0, 6, F__law_by_hand⟩ := by simp [T, List.lookup]
theorem T__law_right : T "_law_right" = some ⟨2, 4, F__law_right⟩ := by simp [T, List.lookup]
theorem T_law : T "law" = some ⟨1, 9, F_law⟩ := by simp [T, List.lookup]
end Q

namespace Q
open PySem PySem.Spec PyProof.Rows L2
def P_is_whole : SS := (sRetP (fAnd (fIsI "int" (fVar 0)) (fNot (fIsI "bool" (fVar 0)))))
abbrev Has_is_whole (T : Tab) : Prop := T "is_whole" = some ⟨1, 1, P_is_whole⟩
def P_is_among : SS := (sRetP (fAnd (fCallN "is_whole" 1 (aCons (fVar 0) aNil)) (fChain gLe gLe (fVar 1) (fVar 0) (fVar 2))))
abbrev Has_is_among (T : Tab) : Prop := T "is_among" = some ⟨3, 3, P_is_among⟩
def P_is_row : SS := (sRetP (fAnd (fIsI "tuple" (fVar 0)) (fChain gLe gLe (fVar 1) (fB gLen (aCons (fVar 0) aNil)) (fVar 2))))
abbrev Has_is_row (T : Tab) : Prop := T "is_row" = some ⟨3, 3, P_is_row⟩
def PC_is_light_of_1 : SE := (fCallN "is_among" 3 (aCons (fVar 3) (aCons (fInt 0) (aCons (fBin gSub (fVar 2) (fInt 1)) aNil))))
def P_is_light_of : SS := (sSeq (sIf (cOr (cNot (cVal (fCallN "is_row" 3 (aCons (fVar 0) (aCons (fInt 3) (aCons (fInt 3) aNil)))))) (cNot (cVal (fCallN "is_among" 3 (aCons (fAt (fVar 0) (fInt 0)) (aCons (fInt 0) (aCons (fBin gSub (fVar 1) (fInt 1)) aNil)))))))
  (sRetP (fBl false))
  sNext)
  (sSeq (sIf (cOr (cNot (cVal (fCallN "is_among" 3 (aCons (fAt (fVar 0) (fInt 1)) (aCons (fNeg (fInt 9)) (aCons (fInt 9) aNil)))))) (cNot (cVal (fCallN "is_row" 3 (aCons (fAt (fVar 0) (fInt 2)) (aCons (fInt 1) (aCons (fInt 4) aNil)))))))
  (sRetP (fBl false))
  sNext)
  (sRetP (fB gAll (aCons (fComp [3] (.name 3) (iSeq (fAt (fVar 0) (fInt 2))) cYes PC_is_light_of_1) aNil)))))
abbrev Has_is_light_of (T : Tab) : Prop := T "is_light_of" = some ⟨3, 4, P_is_light_of⟩
def PC_is_sky_1 : SE := (fCallN "is_light_of" 3 (aCons (fVar 1) (aCons (fAt (fVar 0) (fInt 0)) (aCons (fAt (fVar 0) (fInt 1)) aNil))))
def P_is_sky : SS := (sSeq (sIf (cOr (cNot (cVal (fCallN "is_row" 3 (aCons (fVar 0) (aCons (fInt 3) (aCons (fInt 3) aNil)))))) (cNot (cVal (fCallN "is_among" 3 (aCons (fAt (fVar 0) (fInt 0)) (aCons (fInt 4) (aCons (fInt 12) aNil)))))))
  (sRetP (fBl false))
  sNext)
  (sSeq (sIf (cOr (cNot (cVal (fCallN "is_among" 3 (aCons (fAt (fVar 0) (fInt 1)) (aCons (fInt 1) (aCons (fInt 5) aNil)))))) (cNot (cVal (fCallN "is_row" 3 (aCons (fAt (fVar 0) (fInt 2)) (aCons (fInt 1) (aCons (fInt 6) aNil)))))))
  (sRetP (fBl false))
  sNext)
  (sRetP (fB gAll (aCons (fComp [1] (.name 1) (iSeq (fAt (fVar 0) (fInt 2))) cYes PC_is_sky_1) aNil)))))
abbrev Has_is_sky (T : Tab) : Prop := T "is_sky" = some ⟨1, 2, P_is_sky⟩
def P_need_sky : SS := (sIf (cNot (cVal (fCallN "is_sky" 1 (aCons (fVar 0) aNil))))
  (sRaise "NoSky")
  sNext)
abbrev Has_need_sky (T : Tab) : Prop := T "need_sky" = some ⟨1, 1, P_need_sky⟩
def P_stands_by : SS := (sSeq (sUnp [3, 4, 5] (fVar 0))
  (sSeq (sUnp [6, 7, 8] (fAt (fVar 5) (fVar 1)))
  (sRetP (fTup (aCons (fBin gMod (fBin gAdd (fVar 6) (fBin gMul2 (fVar 7) (fVar 2))) (fVar 3)) (aCons (fAt (fVar 8) (fBin gMod (fVar 2) (fB gLen (aCons (fVar 8) aNil)))) aNil))))))
abbrev Has_stands_by (T : Tab) : Prop := T "stands_by" = some ⟨3, 9, P_stands_by⟩
def P_half_of : SS := (sRetP (fBin gDiv (fAt (fVar 0) (fInt 0)) (fInt 2)))
abbrev Has_half_of (T : Tab) : Prop := T "half_of" = some ⟨1, 1, P_half_of⟩
def P_is_cell : SS := (sRetP (fAnd (fCallN "is_row" 3 (aCons (fVar 1) (aCons (fInt 2) (aCons (fInt 2) aNil)))) (fAnd (fCallN "is_among" 3 (aCons (fAt (fVar 1) (fInt 0)) (aCons (fInt 0) (aCons (fBin gSub (fCallN "half_of" 1 (aCons (fVar 0) aNil)) (fInt 1)) aNil)))) (fCallN "is_among" 3 (aCons (fAt (fVar 1) (fInt 1)) (aCons (fInt 0) (aCons (fBin gSub (fAt (fVar 0) (fInt 1)) (fInt 1)) aNil)))))))
abbrev Has_is_cell (T : Tab) : Prop := T "is_cell" = some ⟨2, 2, P_is_cell⟩
def P_up_by : SS := (sSeq (sUnp [5, 6] (fCallN "stands_by" 3 (aCons (fVar 0) (aCons (fVar 1) (aCons (fVar 4) aNil)))))
  (sSeq (sSet 7 (fTup (aCons (fBin gMod (fBin gAdd (fVar 5) (fVar 2)) (fAt (fVar 0) (fInt 0))) (aCons (fBin gAdd (fVar 6) (fVar 3)) aNil))))
  (sRetP (fIf (cVal (fCallN "is_cell" 2 (aCons (fVar 0) (aCons (fVar 7) aNil)))) (fVar 7) fNon))))
abbrev Has_up_by (T : Tab) : Prop := T "up_by" = some ⟨5, 8, P_up_by⟩
def PC_are_items_1 : SE := (fCallN "is_item" 3 (aCons (fVar 0) (aCons (fVar 3) (aCons (fVar 2) aNil))))
def P_are_items : SS := (sRetP (fAnd (fCallN "is_row" 3 (aCons (fVar 1) (aCons (fInt 0) (aCons (fInt 8) aNil)))) (fB gAll (aCons (fComp [3] (.name 3) (iSeq (fVar 1)) cYes PC_are_items_1) aNil))))
abbrev Has_are_items (T : Tab) : Prop := T "are_items" = some ⟨3, 4, P_are_items⟩
def PB_size_of_1 : SS := (sIf (cVal (fBin gEq (fAt (fVar 2) (fInt 0)) (fStr "again")))
  (sAug 1 gAddI (fBin gMul2 (fAt (fVar 2) (fInt 1)) (fCallN "size_of" 1 (aCons (fAt (fVar 2) (fInt 2)) aNil))))
  (sAug 1 gAddI (fB gInt (aCons (fBin gNe (fAt (fVar 2) (fInt 0)) (fStr "mark")) aNil))))
def P_size_of : SS := (sSeq (sSet 1 (fInt 0))
  (sSeq (sFor (.name 2) (iSeq (fVar 0))
  PB_size_of_1)
  (sRetP (fVar 1))))
abbrev Has_size_of (T : Tab) : Prop := T "size_of" = some ⟨1, 3, P_size_of⟩
def P_is_scene_by : SS := (sRetP (fAnd (fCallN "are_items" 3 (aCons (fVar 0) (aCons (fVar 1) (aCons (fInt 3) aNil)))) (fBin gLe (fCallN "size_of" 1 (aCons (fVar 1) aNil)) (fInt 100000000000))))
abbrev Has_is_scene_by (T : Tab) : Prop := T "is_scene_by" = some ⟨2, 2, P_is_scene_by⟩
def P_need_scene : SS := (sIf (cNot (cVal (fCallN "is_scene_by" 2 (aCons (fVar 0) (aCons (fVar 1) aNil)))))
  (sRaise "NoScene")
  sNext)
abbrev Has_need_scene (T : Tab) : Prop := T "need_scene" = some ⟨2, 2, P_need_scene⟩
def PC_is_lamp_1 : SE := (fCallN "is_among" 3 (aCons (fVar 2) (aCons (fInt 0) (aCons (fBin gSub (fCallN "half_of" 1 (aCons (fVar 0) aNil)) (fInt 1)) aNil))))
def PC_is_lamp_2 : SE := (fCallN "is_among" 3 (aCons (fVar 2) (aCons (fInt 0) (aCons (fBin gSub (fAt (fVar 0) (fInt 1)) (fInt 1)) aNil))))
def P_is_lamp : SS := (sSeq (sIf (cOr (cNot (cVal (fCallN "is_row" 3 (aCons (fVar 1) (aCons (fInt 4) (aCons (fInt 4) aNil)))))) (cNot (cVal (fB gAll (aCons (fComp [2] (.name 2) (iSeq (fSl (fVar 1) oNone (oSome (fInt 2)))) cYes PC_is_lamp_1) aNil)))))
  (sRetP (fBl false))
  sNext)
  (sSeq (sIf (cNot (cVal (fB gAll (aCons (fComp [2] (.name 2) (iSeq (fSl (fVar 1) (oSome (fInt 2)) oNone)) cYes PC_is_lamp_2) aNil))))
  (sRetP (fBl false))
  sNext)
  (sRetP (fAnd (fBin gLe (fAt (fVar 1) (fInt 0)) (fAt (fVar 1) (fInt 1))) (fBin gLe (fAt (fVar 1) (fInt 2)) (fAt (fVar 1) (fInt 3)))))))
abbrev Has_is_lamp (T : Tab) : Prop := T "is_lamp" = some ⟨2, 3, P_is_lamp⟩
def PC_are_lamps_1 : SE := (fCallN "is_lamp" 2 (aCons (fVar 0) (aCons (fVar 2) aNil)))
def P_are_lamps : SS := (sRetP (fAnd (fCallN "is_row" 3 (aCons (fVar 1) (aCons (fInt 1) (aCons (fInt 6) aNil)))) (fB gAll (aCons (fComp [2] (.name 2) (iSeq (fVar 1)) cYes PC_are_lamps_1) aNil))))
abbrev Has_are_lamps (T : Tab) : Prop := T "are_lamps" = some ⟨2, 3, P_are_lamps⟩
def PC_is_show_1 : SE := (fCallN "is_among" 3 (aCons (fVar 2) (aCons (fNeg (fInt 9)) (aCons (fInt 9) aNil))))
def P_is_show : SS := (sSeq (sIf (cOr (cNot (cVal (fCallN "is_row" 3 (aCons (fVar 1) (aCons (fInt 3) (aCons (fInt 3) aNil)))))) (cOr (cNot (cVal (fCallN "are_lamps" 2 (aCons (fVar 0) (aCons (fAt (fVar 1) (fInt 0)) aNil))))) (cNot (cVal (fCallN "is_row" 3 (aCons (fAt (fVar 1) (fInt 1)) (aCons (fB gLen (aCons (fAt (fVar 1) (fInt 0)) aNil)) (aCons (fB gLen (aCons (fAt (fVar 1) (fInt 0)) aNil)) aNil))))))))
  (sRetP (fBl false))
  sNext)
  (sRetP (fAnd (fB gAll (aCons (fComp [2] (.name 2) (iSeq (fAt (fVar 1) (fInt 1))) cYes PC_is_show_1) aNil)) (fCallN "is_among" 3 (aCons (fAt (fVar 1) (fInt 2)) (aCons (fInt 0) (aCons (fInt 9) aNil)))))))
abbrev Has_is_show (T : Tab) : Prop := T "is_show" = some ⟨2, 3, P_is_show⟩
def P_need_show : SS := (sSeq (sExpr (fCallN "need_sky" 1 (aCons (fVar 0) aNil)))
  (sIf (cNot (cVal (fCallN "is_show" 2 (aCons (fVar 0) (aCons (fVar 1) aNil)))))
  (sRaise "NoShow")
  sNext))
abbrev Has_need_show (T : Tab) : Prop := T "need_show" = some ⟨2, 2, P_need_show⟩
def PC_cells_of_1 : SE := (fTup (aCons (fVar 1) (aCons (fVar 2) aNil)))
def PI_cells_of_2 : SI := (gInner [2] (.name 2) (iRange1 (aCons (fAt (fVar 0) (fInt 1)) aNil)) cYes PC_cells_of_1)
def P_cells_of : SS := (sRetP (fComp2 [1, 2] (.name 1) (iRange1 (aCons (fCallN "half_of" 1 (aCons (fVar 0) aNil)) aNil)) cYes PI_cells_of_2))
abbrev Has_cells_of (T : Tab) : Prop := T "cells_of" = some ⟨1, 3, P_cells_of⟩
def P_covers : SS := (sSeq (sUnp [2, 3, 4, 5] (fVar 0))
  (sRetP (fAnd (fChain gLe gLe (fVar 2) (fAt (fVar 1) (fInt 0)) (fVar 3)) (fChain gLe gLe (fVar 4) (fAt (fVar 1) (fInt 1)) (fVar 5)))))
abbrev Has_covers (T : Tab) : Prop := T "covers" = some ⟨2, 6, P_covers⟩
def PD_covering_by_1 : ST := (cVal (fCallN "covers" 2 (aCons (fVar 3) (aCons (fVar 1) aNil))))
def PC_covering_by_2 : SE := (fVar 2)
def P_covering_by : SS := (sRetP (fB gTuple (aCons (fComp [2, 3] (.names [2, 3]) (iEnumQ (aCons (fVar 0) aNil)) PD_covering_by_1 PC_covering_by_2) aNil)))
abbrev Has_covering_by (T : Tab) : Prop := T "covering_by" = some ⟨2, 4, P_covering_by⟩
def PB_marks_in_1 : SS := (sIf (cVal (fBin gEq (fAt (fVar 2) (fInt 0)) (fStr "again")))
  (sAug 1 gAddI (fBin gMul2 (fAt (fVar 2) (fInt 1)) (fCallN "marks_in" 1 (aCons (fAt (fVar 2) (fInt 2)) aNil))))
  (sAug 1 gAddI (fB gInt (aCons (fBin gEq (fAt (fVar 2) (fInt 0)) (fStr "mark")) aNil))))
def P_marks_in : SS := (sSeq (sSet 1 (fInt 0))
  (sSeq (sFor (.name 2) (iSeq (fVar 0))
  PB_marks_in_1)
  (sRetP (fVar 1))))
abbrev Has_marks_in (T : Tab) : Prop := T "marks_in" = some ⟨1, 3, P_marks_in⟩
end Q

namespace Q
open PySem PySem.Spec PyProof.Rows L2
@[simp] theorem x_enumQ {cf : CF} {env : EnvQ} {S : Sto} (a : SA) : iEnumQ a cf env S = (a cf env S).bind fun ws S1 => match ws with | [.d (.list xs)] => .ok (enumD 0 xs) S1 | [.d (.tuple xs)] => .ok (enumD 0 xs) S1 | _ => .stuck := rfl
@[simp] theorem x_zipQ {cf : CF} {env : EnvQ} {S : Sto} (a : SA) : iZipQ a cf env S = (a cf env S).bind fun ws S1 => match ws with | [.d (.list xs), .d (.list ys)] => .ok (zipD xs ys) S1 | [.d (.tuple xs), .d (.tuple ys)] => .ok (zipD xs ys) S1 | _ => .stuck := rfl
@[simp] theorem y_parX {cf : CF} {env : EnvQ} {S : Sto} (is : List Nat) (es : List EL) : sParX is es cf env S = (elsE es cf env S).then env fun ws S' => if ws.length ≤ LIM then (match setW is ws env with | some env' => .next env' S' | none => .stuck) else .stuck := rfl
@[simp] theorem z_els0 {cf : CF} {env : EnvQ} {S : Sto} : elsE [] cf env S = .ok [] S := rfl
@[simp] theorem z_elsP {cf : CF} {env : EnvQ} {S : Sto} (f : SE) (r : List EL) : elsE (.p f :: r) cf env S = (f cf env S).bind fun w S1 => if w.plain then (elsE r cf env S1).bind fun ws S2 => .ok (w :: ws) S2 else .stuck := rfl
@[simp] theorem z_elsO {cf : CF} {env : EnvQ} {S : Sto} (a : SA) (r : List EL) : elsE (.o a :: r) cf env S = (a cf env S).bind fun ws S1 => if ws.length ≤ LIM then (match datas ws with | some ds => (elsE r cf env S1).bind fun us S2 => .ok (.own ds :: us) S2 | none => .stuck) else .stuck := rfl
structure BaseT (T : Tab) : Prop where
  whole : Has_is_whole T
  among : Has_is_among T
  row : Has_is_row T
structure SkyT (T : Tab) : Prop extends BaseT T where
  light_of : Has_is_light_of T
  sky : Has_is_sky T
  need_sky : Has_need_sky T
section
variable {T : Tab}
theorem p_whole (b : BaseT T) (k : Nat) (S : Sto) (z : Int) : callQ T (k + 1) "is_whole" [.d (.int z)] S = .ok (.d (.bool true)) S := by
  rw [callQ_succ b.whole rfl rfl]; simp [P_is_whole, startQ]
theorem p_among (b : BaseT T) (k : Nat) (S : Sto) (z l h : Int) : callQ T (k + 2) "is_among" [.d (.int z), .d (.int l), .d (.int h)] S = .ok (.d (.bool (decide (l ≤ z ∧ z ≤ h)))) S := by
  rw [callQ_succ b.among rfl rfl]; simp [P_is_among, startQ, p_whole b]
  by_cases h1 : l ≤ z <;> simp [h1]
theorem p_row (b : BaseT T) (k : Nat) (S : Sto) (xs : List D) (l h : Int) : callQ T (k + 1) "is_row" [.d (.tuple xs), .d (.int l), .d (.int h)] S = .ok (.d (.bool (decide (l ≤ xs.length ∧ (xs.length : Int) ≤ h)))) S := by
  rw [callQ_succ b.row rfl rfl]; simp [P_is_row, startQ]
  by_cases h1 : l ≤ xs.length <;> simp [h1]
structure Light where
  c : Int
  s : Int
  rows : List Int
structure Sky where
  w : Int
  h : Int
  ls : List Light
def Light.D (l : Light) : D := .tuple [.int l.c, .int l.s, .tuple (l.rows.map .int)]
def Sky.D (s : Sky) : D := .tuple [.int s.w, .int s.h, .tuple (s.ls.map Light.D)]
structure Light.Ok (l : Light) (w h : Int) : Prop where
  c0 : 0 ≤ l.c
  c1 : l.c < w
  s0 : -9 ≤ l.s
  s1 : l.s ≤ 9
  r0 : 1 ≤ l.rows.length
  r1 : l.rows.length ≤ 4
  r : ∀ r ∈ l.rows, 0 ≤ r ∧ r < h
structure Sky.Ok (s : Sky) : Prop where
  w0 : 4 ≤ s.w
  w1 : s.w ≤ 12
  h0 : 1 ≤ s.h
  h1 : s.h ≤ 5
  l0 : 1 ≤ s.ls.length
  l1 : s.ls.length ≤ 6
  l : ∀ l ∈ s.ls, l.Ok s.w s.h
theorem p_light_of (b : SkyT T) (k : Nat) (S : Sto) {l : Light} {w h : Int} (o : l.Ok w h) : callQ T (k + 3) "is_light_of" [.d l.D, .d (.int w), .d (.int h)] S = .ok (.d (.bool true)) S := by
  rw [callQ_succ b.light_of rfl rfl]
  have e : ∀ n, compL (.name 3) (cYes (callQ T (k + 2))) (PC_is_light_of_1 (callQ T (k + 2))) [some (.d l.D), some (.d (.int w)), some (.d (.int h)), n] (l.rows.map PyData.int) S = .ok (l.rows.map fun _ => PyData.bool true) S := by
    intro n
    refine compL_on _ _ (fun d hd => by simp) fun t ht => ?_
    obtain ⟨h4, h5⟩ := o.r t ht
    have h6 : t ≤ h - 1 := by omega
    simp [PC_is_light_of_1, p_among b.toBaseT, h4, h6]
  have hb : bools (l.rows.map fun _ => PyData.bool true) = some (l.rows.map fun _ => true) := bools_on _ fun _ _ => rfl
  have c0 := o.c0
  have c1 : l.c ≤ w - 1 := by have := o.c1; omega
  have s0 := o.s0
  have s1 := o.s1
  have r0 : (1 : Int) ≤ l.rows.length := by have := o.r0; omega
  have r1 : (l.rows.length : Int) ≤ 4 := by have := o.r1; omega
  have hl : l.rows.length ≤ 16777216 := by omega
  simp only [Light.D] at e ⊢
  simp [P_is_light_of, startQ, p_row b.toBaseT, p_among b.toBaseT, atI, ixN, c0, c1, s0, s1, r0, r1, notOwn, e, LIM, hl, hb]
theorem p_sky (b : SkyT T) (k : Nat) (S : Sto) {s : Sky} (o : s.Ok) : callQ T (k + 4) "is_sky" [.d s.D] S = .ok (.d (.bool true)) S := by
  rw [callQ_succ b.sky rfl rfl]
  have e : ∀ n, compL (.name 1) (cYes (callQ T (k + 3))) (PC_is_sky_1 (callQ T (k + 3))) [some (.d s.D), n] (s.ls.map Light.D) S = .ok (s.ls.map fun _ => PyData.bool true) S := by
    intro n
    refine compL_on _ _ (fun d hd => by simp) fun t ht => ?_
    simp [PC_is_sky_1, Sky.D, atI, ixN, p_light_of b k S (o.l t ht)]
  have hb : bools (s.ls.map fun _ => PyData.bool true) = some (s.ls.map fun _ => true) := bools_on _ fun _ _ => rfl
  have w0 := o.w0
  have w1 := o.w1
  have h0 := o.h0
  have h1 := o.h1
  have r0 : (1 : Int) ≤ s.ls.length := by have := o.l0; omega
  have r1 : (s.ls.length : Int) ≤ 6 := by have := o.l1; omega
  have hl : s.ls.length ≤ 16777216 := by omega
  simp only [Sky.D] at e ⊢
  simp [P_is_sky, startQ, p_row b.toBaseT, p_among b.toBaseT, atI, ixN, w0, w1, h0, h1, r0, r1, notOwn, e, LIM, hl, hb]
theorem p_need_sky (b : SkyT T) (k : Nat) (S : Sto) {s : Sky} (o : s.Ok) : callQ T (k + 5) "need_sky" [.d s.D] S = .ok (.d .none) S := by
  rw [callQ_succ b.need_sky rfl rfl]; simp [P_need_sky, startQ, p_sky b k S o]
/-- the row of a light at a moment -/
def Light.row (l : Light) (m : Int) : Int := l.rows.getD (m % l.rows.length).toNat 0
def Light.at (l : Light) (w m : Int) : PyData := .tuple [.int ((l.c + l.s * m) % w), .int (l.row m)]
theorem Light.Ok.at {l : Light} {w h : Int} (o : l.Ok w h) (m : Int) : atI (l.rows.map PyData.int) (m % (l.rows.length : Int)) = some (.int (l.row m)) := by
  have h0 := o.r0
  have a0 := Int.emod_nonneg m (b := (l.rows.length : Int)) (by omega)
  have a1 := Int.emod_lt_of_pos m (b := (l.rows.length : Int)) (by omega)
  obtain ⟨j, hj⟩ := Int.eq_ofNat_of_zero_le a0
  have hl : j < l.rows.length := by omega
  rw [hj, atI_nat]
  simp [Light.row, hj, hl]
end
end Q

namespace Q
open PySem PySem.Spec PyProof.Rows L2
structure StandB (T : Tab) : Prop extends SkyT T where
  stands_by : Has_stands_by T
structure DomeT (T : Tab) : Prop extends StandB T where
  half : Has_half_of T
  cell : Has_is_cell T
  up : Has_up_by T
def Sky.cell (s : Sky) (x y : Int) : Bool := decide (0 ≤ x ∧ x < s.w / 2 ∧ 0 ≤ y ∧ y < s.h)
def Sky.at (s : Sky) (i : Nat) : Light := s.ls.getD i ⟨0, 0, []⟩
/-- where light i is seen from (e, n) at m -/
def Sky.up (s : Sky) (i : Nat) (e n m : Int) : Option (Int × Int) :=
  let l := s.at i
  let x := (l.c + l.s * m + e) % s.w
  let y := l.row m + n
  if s.cell x y = true then some (x, y) else none
section
variable {T : Tab}
theorem Sky.at_eq {s : Sky} {i : Nat} (hi : i < s.ls.length) : s.at i = s.ls[i] := by
  simp [Sky.at, hi]
theorem Sky.Ok.at {s : Sky} (o : s.Ok) {i : Nat} (hi : i < s.ls.length) : (s.at i).Ok s.w s.h := by
  rw [Sky.at_eq hi]
  exact o.l _ (List.getElem_mem hi)
end
end Q

namespace Q
open PySem PySem.Spec PyProof.Rows L2
structure Lamp where
  a : Int
  b : Int
  c : Int
  d : Int
structure Show where
  lamps : List Lamp
  offs : List Int
  slack : Int
structure State where
  m : Int
  e : Int
  n : Int
  hid : List Int
def Lamp.D (l : Lamp) : D := .tuple [.int l.a, .int l.b, .int l.c, .int l.d]
def Show.D (s : Show) : D := .tuple [.tuple (s.lamps.map Lamp.D), .tuple (s.offs.map PyData.int), .int s.slack]
def State.D (s : State) : D := .tuple [.int s.m, .int s.e, .int s.n, .tuple (s.hid.map PyData.int)]
structure Lamp.Ok (l : Lamp) (s : Sky) : Prop where
  a0 : 0 ≤ l.a
  ab : l.a ≤ l.b
  b1 : l.b < s.w / 2
  c0 : 0 ≤ l.c
  cd : l.c ≤ l.d
  d1 : l.d < s.h
structure Show.Ok (h : Show) (s : Sky) : Prop where
  l0 : 1 ≤ h.lamps.length
  l1 : h.lamps.length ≤ 6
  l : ∀ l ∈ h.lamps, l.Ok s
  o : h.offs.length = h.lamps.length
  o1 : ∀ o ∈ h.offs, -9 ≤ o ∧ o ≤ 9
  s0 : 0 ≤ h.slack
  s1 : h.slack ≤ 9
structure State.Ok (t : State) (s : Sky) : Prop where
  h : ∀ h ∈ t.hid, 0 ≤ h ∧ h < s.ls.length
  pw : t.hid.Pairwise (· < ·)
  l : t.hid.length ≤ 6
  m1 : t.m.natAbs < 10 ^ 12
  e1 : t.e.natAbs < 10 ^ 12
  n1 : t.n.natAbs < 10 ^ 12
structure LampT (T : Tab) : Prop extends DomeT T where
  is_lamp : Has_is_lamp T
  are_lamps : Has_are_lamps T
  is_show : Has_is_show T
  need_show : Has_need_show T
  cells_of : Has_cells_of T
  covers : Has_covers T
  covering_by : Has_covering_by T
structure CoverT (T : Tab) : Prop extends DomeT T where
  covers : Has_covers T
  covering_by : Has_covering_by T
theorem LampT.cv {T : Tab} (b : LampT T) : CoverT T := ⟨b.toDomeT, b.covers, b.covering_by⟩
def Lamp.covers (l : Lamp) (p : Int × Int) : Bool := decide (l.a ≤ p.1 ∧ p.1 ≤ l.b) && decide (l.c ≤ p.2 ∧ p.2 ≤ l.d)
def lamp0 : Lamp := ⟨0, 0, 0, 0⟩
def Show.over (h : Show) (p : Int × Int) : List Nat := (List.range h.lamps.length).filter fun i => (h.lamps.getD i lamp0).covers p
def Show.own (h : Show) (p : Int × Int) : List Int := (h.over p).map fun i => h.offs.getD i 0
def Sky.seen (s : Sky) (t : State) (i : Nat) : Option (Int × Int) := if ((i : Nat) : Int) ∈ t.hid then none else s.up i t.e t.n t.m
def Show.at (h : Show) (p : Int × Int) : List (Int × Int) := (h.over p).map fun i => (p.1 + h.offs.getD i 0, (i : Int))
def atD (h : Show) : Option (Int × Int) → D
  | none => .tuple []
  | some p => .tuple ((sortP (h.at p)).map pairD)
section
variable {T : Tab}
end
end Q

namespace Q
open PySem PySem.Spec PyProof.Rows L2

structure HidOk (n : Nat) (h : List Int) : Prop where
  pw : h.Pairwise (· < ·)
  b : ∀ i ∈ h, 0 ≤ i ∧ i < n
/-- what is in just one of two -/
def unl (a b : List Int) : List Int := sortI ((a ++ b).filter fun i => decide (i ∈ a) != decide (i ∈ b))
theorem rising_le {n : Nat} : ∀ {h : List Int} {lo : Int}, h.Pairwise (· < ·) → (∀ i ∈ h, lo ≤ i ∧ i < lo + n) → h.length ≤ n := by
  induction n with
  | zero =>
    intro h lo pw b
    cases h with
    | nil => simp
    | cons x xs => have := b x (by simp); omega
  | succ n ih =>
    intro h lo pw b
    cases h with
    | nil => simp
    | cons x xs =>
      rw [List.pairwise_cons] at pw
      have hx := b x (by simp)
      have := ih (h := xs) (lo := lo + 1) pw.2 fun i hi => by
        have h1 := pw.1 i hi
        have h2 := b i (by simp [hi])
        omega
      simp only [List.length_cons]
      omega
theorem HidOk.len {n : Nat} {h : List Int} (o : HidOk n h) : h.length ≤ n := rising_le (lo := 0) o.pw fun i hi => by have := o.b i hi; omega
def State.zero : State := ⟨0, 0, 0, []⟩
def State.put (a b : State) : State := ⟨a.m + b.m, a.e + b.e, a.n + b.n, unl a.hid b.hid⟩
/-- so often, below 0 too -/
def State.oft (a : State) (t : Int) : State := ⟨a.m * t, a.e * t, a.n * t, if t % 2 = 1 then a.hid else []⟩
def State.Pw (a : State) : Prop := a.hid.Pairwise (· < ·)
/-- a state with sums taken off -/
def State.less (a b : State) : State := a.put (b.oft (-1))
inductive Item where
  | go (m e n : Int)
  | flip (i : Nat)
  | mark
  | again (t : Nat) (xs : List Item)
mutual
def Item.D : Item → D
  | .go m e n => .tuple [.str "go", .int m, .int e, .int n]
  | .flip i => .tuple [.str "flip", .int (i : Int)]
  | .mark => .tuple [.str "mark"]
  | .again t xs => .tuple [.str "again", .int (t : Int), .tuple (itemsL xs)]
def itemsL : List Item → List D
  | [] => []
  | x :: xs => x.D :: itemsL xs
end
theorem itemsL_map : ∀ xs : List Item, itemsL xs = xs.map Item.D
  | [] => rfl
  | x :: xs => by simp [itemsL, itemsL_map xs]
def itemsD (xs : List Item) : D := .tuple (xs.map Item.D)
theorem again_D (t : Nat) (xs : List Item) : (Item.again t xs).D = .tuple [.str "again", .int (t : Int), itemsD xs] := by simp [Item.D, itemsL_map, itemsD]
mutual
def Item.beats : Item → List State
  | .go m e n => [⟨m, e, n, []⟩]
  | .flip i => [⟨0, 0, 0, [(i : Int)]⟩]
  | .mark => []
  | .again t xs => (List.replicate t (beatsOf xs)).flatten
def beatsOf : List Item → List State
  | [] => []
  | x :: xs => x.beats ++ beatsOf xs
end
mutual
def Item.size : Item → Nat
  | .go _ _ _ => 1
  | .flip _ => 1
  | .mark => 0
  | .again t xs => t * sizeOf' xs
def sizeOf' : List Item → Nat
  | [] => 0
  | x :: xs => x.size + sizeOf' xs
end
mutual
def Item.marks : Item → Nat
  | .go _ _ _ => 0
  | .flip _ => 0
  | .mark => 1
  | .again t xs => t * marksOf xs
def marksOf : List Item → Nat
  | [] => 0
  | x :: xs => x.marks + marksOf xs
end
mutual
def Item.sums : Item → State
  | .go m e n => ⟨m, e, n, []⟩
  | .flip i => ⟨0, 0, 0, [(i : Int)]⟩
  | .mark => .zero
  | .again t xs => (sumsOf xs).oft t
def sumsOf : List Item → State
  | [] => .zero
  | x :: xs => x.sums.put (sumsOf xs)
end
inductive Item.Ok (n : Nat) : Nat → Item → Prop
  | go {d : Nat} {a b c : Int} : -99 ≤ a ∧ a ≤ 99 → -99 ≤ b ∧ b ≤ 99 → -99 ≤ c ∧ c ≤ 99 → Item.Ok n d (.go a b c)
  | flip {d i : Nat} : i < n → Item.Ok n d (.flip i)
  | mark {d : Nat} : Item.Ok n d .mark
  | again {d t : Nat} {xs : List Item} : t ≤ 1000000 → xs.length ≤ 8 → (∀ x ∈ xs, Item.Ok n d x) → Item.Ok n (d + 1) (.again t xs)
structure ItemsOk (n d : Nat) (xs : List Item) : Prop where
  l : xs.length ≤ 8
  o : ∀ x ∈ xs, Item.Ok n d x
structure SceneOk (s : Sky) (xs : List Item) : Prop where
  o : ItemsOk s.ls.length 3 xs
  z : sizeOf' xs ≤ 100000000000
theorem ItemsOk.again {n d t : Nat} {xs : List Item} (h : Item.Ok n (d + 1) (.again t xs)) : ItemsOk n d xs ∧ t ≤ 1000000 := by
  cases h with | again h1 h2 h3 => exact ⟨⟨h2, h3⟩, h1⟩
theorem ItemsOk.cons {n d : Nat} {x : Item} {xs : List Item} (h : ItemsOk n d (x :: xs)) : Item.Ok n d x ∧ ItemsOk n d xs := ⟨h.o x (by simp), by have := h.l; simp at this; omega, fun y hy => h.o y (by simp [hy])⟩
def State.H (n : Nat) (a : State) : Prop := HidOk n a.hid
theorem State.H.pw {n : Nat} {a : State} (h : a.H n) : a.Pw := HidOk.pw h
end Q

namespace Q
open PySem PySem.Spec PyProof.Rows L2
@[simp] theorem tg_go_flip : (Str.ofString "go" = Str.ofString "flip") = False := eq_false (by decide)
@[simp] theorem tg_go_again : (Str.ofString "go" = Str.ofString "again") = False := eq_false (by decide)
@[simp] theorem tg_go_mark : (Str.ofString "go" = Str.ofString "mark") = False := eq_false (by decide)
@[simp] theorem tg_flip_go : (Str.ofString "flip" = Str.ofString "go") = False := eq_false (by decide)
@[simp] theorem tg_flip_again : (Str.ofString "flip" = Str.ofString "again") = False := eq_false (by decide)
@[simp] theorem tg_flip_mark : (Str.ofString "flip" = Str.ofString "mark") = False := eq_false (by decide)
@[simp] theorem tg_again_go : (Str.ofString "again" = Str.ofString "go") = False := eq_false (by decide)
@[simp] theorem tg_again_flip : (Str.ofString "again" = Str.ofString "flip") = False := eq_false (by decide)
@[simp] theorem tg_again_mark : (Str.ofString "again" = Str.ofString "mark") = False := eq_false (by decide)
@[simp] theorem tg_mark_go : (Str.ofString "mark" = Str.ofString "go") = False := eq_false (by decide)
@[simp] theorem tg_mark_flip : (Str.ofString "mark" = Str.ofString "flip") = False := eq_false (by decide)
@[simp] theorem tg_mark_again : (Str.ofString "mark" = Str.ofString "again") = False := eq_false (by decide)
/-- a loop that folds, the store as it was -/
theorem forL_fold {α β γ : Type} {t : Tg} {body : EnvQ → Sto → RS} {S : Sto} (q : α → D) (E : β → γ → EnvQ) (step : β → α → β) (P : β → Prop) : ∀ (xs : List α) (a : β) (w : γ), P a → (∀ x ∈ xs, ∀ a w, P a → (∃ env1 w', t.set (q x) (E a w) = some env1 ∧ body env1 S = .next (E (step a x) w') S) ∧ P (step a x)) →
    ∃ w', forL t body (xs.map q) (E a w) S = .next (E (xs.foldl step a) w') S ∧ P (xs.foldl step a)
  | [], a, w, h, _ => ⟨w, rfl, h⟩
  | x :: xs, a, w, h, st => by
    obtain ⟨⟨env1, w1, e1, e2⟩, h1⟩ := st x (by simp) a w h
    obtain ⟨w2, e3, h2⟩ := forL_fold q E step P xs (step a x) w1 h1 fun y hy => st y (by simp [hy])
    exact ⟨w2, by simp only [List.map_cons, forL, e1, e2, e3, List.foldl_cons], h2⟩
section
variable {T : Tab}
theorem sizes_fold : ∀ (xs : List Item) (a : Int), xs.foldl (fun (b : Int) x => b + (x.size : Int)) a = a + (sizeOf' xs : Int)
  | [], a => by simp [sizeOf']
  | x :: xs, a => by simp only [List.foldl_cons, sizes_fold xs, sizeOf']; omega
theorem marks_fold : ∀ (xs : List Item) (a : Int), xs.foldl (fun (b : Int) x => b + (x.marks : Int)) a = a + (marksOf xs : Int)
  | [], a => by simp [marksOf]
  | x :: xs, a => by simp only [List.foldl_cons, marks_fold xs, marksOf]; omega
theorem p_size_of (h : Has_size_of T) {n : Nat} (S : Sto) : ∀ (d k : Nat) {xs : List Item}, ItemsOk n d xs → callQ T (k + d + 1) "size_of" [.d (itemsD xs)] S = .ok (.d (.int (sizeOf' xs : Nat))) S := by
  intro d
  induction d with
  | zero =>
    intro k xs o
    rw [callQ_succ h rfl rfl]
    have loop := forL_fold (t := .name 2) (body := PB_size_of_1 (callQ T k)) (S := S) Item.D (fun (a : Int) (w : Option W) => [some (.d (itemsD xs)), some (.d (.int a)), w]) (fun a x => a + (x.size : Int)) (fun _ => True) xs 0 none trivial fun x hx a w _ => ⟨⟨_, some (.d x.D), rfl, by
      cases x with
      | again t ys => exact nomatch o.o _ hx
      | go m e n => simp [PB_size_of_1, Item.D, Item.size, gNe, gInt, gAddI, gAdd]
      | flip i => simp [PB_size_of_1, Item.D, Item.size, gNe, gInt, gAddI, gAdd]
      | mark => simp [PB_size_of_1, Item.D, Item.size, gNe, gInt, gAddI, gAdd]⟩, trivial⟩
    obtain ⟨w', e, _⟩ := loop
    rw [sizes_fold, Int.zero_add] at e
    have e0 : (itemsD xs) = .tuple (xs.map Item.D) := rfl
    simp [P_size_of, startQ]
    rw [e0] at e ⊢
    simp [e]
  | succ d ih =>
    intro k xs o
    rw [callQ_succ h rfl rfl]
    have loop := forL_fold (t := .name 2) (body := PB_size_of_1 (callQ T (k + (d + 1)))) (S := S) Item.D (fun (a : Int) (w : Option W) => [some (.d (itemsD xs)), some (.d (.int a)), w]) (fun a x => a + (x.size : Int)) (fun _ => True) xs 0 none trivial fun x hx a w _ => ⟨⟨_, some (.d x.D), rfl, by
      cases x with
      | again t ys =>
        obtain ⟨oy, ht⟩ := ItemsOk.again (o.o _ hx)
        have e := ih k oy
        have hs : sm (t : Int) = true := Nat.ble_eq_true_of_le (by omega)
        have ea : k + (d + 1) = k + d + 1 := rfl
        rw [again_D, ea]
        simp [PB_size_of_1, Item.size, gNe, gInt, gAddI, gAdd, e, hs]
      | go m e n => simp [PB_size_of_1, Item.D, Item.size, gNe, gInt, gAddI, gAdd]
      | flip i => simp [PB_size_of_1, Item.D, Item.size, gNe, gInt, gAddI, gAdd]
      | mark => simp [PB_size_of_1, Item.D, Item.size, gNe, gInt, gAddI, gAdd]⟩, trivial⟩
    obtain ⟨w', e, _⟩ := loop
    rw [sizes_fold, Int.zero_add] at e
    have e0 : (itemsD xs) = .tuple (xs.map Item.D) := rfl
    simp [P_size_of, startQ]
    rw [e0] at e ⊢
    simp [e]
theorem p_marks_in (h : Has_marks_in T) {n : Nat} (S : Sto) : ∀ (d k : Nat) {xs : List Item}, ItemsOk n d xs → callQ T (k + d + 1) "marks_in" [.d (itemsD xs)] S = .ok (.d (.int (marksOf xs : Nat))) S := by
  intro d
  induction d with
  | zero =>
    intro k xs o
    rw [callQ_succ h rfl rfl]
    have loop := forL_fold (t := .name 2) (body := PB_marks_in_1 (callQ T k)) (S := S) Item.D (fun (a : Int) (w : Option W) => [some (.d (itemsD xs)), some (.d (.int a)), w]) (fun a x => a + (x.marks : Int)) (fun _ => True) xs 0 none trivial fun x hx a w _ => ⟨⟨_, some (.d x.D), rfl, by
      cases x with
      | again t ys => exact nomatch o.o _ hx
      | go m e n => simp [PB_marks_in_1, Item.D, Item.marks, gEq, gInt, gAddI, gAdd]
      | flip i => simp [PB_marks_in_1, Item.D, Item.marks, gEq, gInt, gAddI, gAdd]
      | mark => simp [PB_marks_in_1, Item.D, Item.marks, gEq, gInt, gAddI, gAdd]⟩, trivial⟩
    obtain ⟨w', e, _⟩ := loop
    rw [marks_fold, Int.zero_add] at e
    have e0 : (itemsD xs) = .tuple (xs.map Item.D) := rfl
    simp [P_marks_in, startQ]
    rw [e0] at e ⊢
    simp [e]
  | succ d ih =>
    intro k xs o
    rw [callQ_succ h rfl rfl]
    have loop := forL_fold (t := .name 2) (body := PB_marks_in_1 (callQ T (k + (d + 1)))) (S := S) Item.D (fun (a : Int) (w : Option W) => [some (.d (itemsD xs)), some (.d (.int a)), w]) (fun a x => a + (x.marks : Int)) (fun _ => True) xs 0 none trivial fun x hx a w _ => ⟨⟨_, some (.d x.D), rfl, by
      cases x with
      | again t ys =>
        obtain ⟨oy, ht⟩ := ItemsOk.again (o.o _ hx)
        have e := ih k oy
        have hs : sm (t : Int) = true := Nat.ble_eq_true_of_le (by omega)
        have ea : k + (d + 1) = k + d + 1 := rfl
        rw [again_D, ea]
        simp [PB_marks_in_1, Item.marks, gEq, gInt, gAddI, gAdd, e, hs]
      | go m e n => simp [PB_marks_in_1, Item.D, Item.marks, gEq, gInt, gAddI, gAdd]
      | flip i => simp [PB_marks_in_1, Item.D, Item.marks, gEq, gInt, gAddI, gAdd]
      | mark => simp [PB_marks_in_1, Item.D, Item.marks, gEq, gInt, gAddI, gAdd]⟩, trivial⟩
    obtain ⟨w', e, _⟩ := loop
    rw [marks_fold, Int.zero_add] at e
    have e0 : (itemsD xs) = .tuple (xs.map Item.D) := rfl
    simp [P_marks_in, startQ]
    rw [e0] at e ⊢
    simp [e]
end
end Q

namespace Q
open PySem PySem.Spec PyProof.Rows L2
def Light.back (l : Light) (w : Int) (many : Nat) : Bool := decide (l.s * many % w = 0) && (List.range l.rows.length).all fun n => decide (l.row (n + many) = l.rows.getD n 0)
section
variable {T : Tab}
def Sky.back (s : Sky) (many : Nat) : Bool := s.ls.all fun l => l.back s.w many
end
end Q

namespace Q
open PySem PySem.Spec PyProof.Rows L2
def N_pen : SS := (sRetP (fNewL (aCons (fB gMax2 (aCons (fInt 0) (aCons (fBin gSub (fVar 0) (fBin gPow (fInt 10) (fInt 18))) aNil))) (aCons (fBin gMod (fVar 0) (fInt 1000000007)) (aCons (fInt 0) aNil)))))
def N_draw : SS := (sSeq (sIf (cVal (fBin gGt (fAt (fVar 0) (fInt 0)) (fInt 0)))
  (sSeq (sSet 2 (fBin gMod (fAt (fVar 0) (fInt 0)) (fVar 1)))
  (sSeq (sSetIx (fVar 0) (fInt 0) (fBin gDiv (fAt (fVar 0) (fInt 0)) (fVar 1)))
  (sRetP (fVar 2))))
  sNext)
  (sSeq (sSetIx (fVar 0) (fInt 2) (fBin gAdd (fAt (fVar 0) (fInt 2)) (fInt 1)))
  (sSeq (sSet 3 (fBin gMod (fBin gMul2 (fBin gAdd (fAt (fVar 0) (fInt 1)) (fBin gMul2 (fInt 17) (fAt (fVar 0) (fInt 2)))) (fBin gAdd (fInt 69621) (fBin gMul2 (fInt 2) (fAt (fVar 0) (fInt 2))))) (fInt 2147483647)))
  (sSeq (sSet 3 (fBin gMod (fBin gAdd (fBin gAdd (fBin gMul2 (fVar 3) (fVar 3)) (fBin gMul2 (fInt 40503) (fAt (fVar 0) (fInt 2)))) (fInt 5)) (fInt 2147483629)))
  (sRetP (fBin gMod (fBin gDiv (fBin gMod (fBin gMul2 (fVar 3) (fInt 48271)) (fInt 2147483647)) (fInt 32)) (fVar 1)))))))
structure DrawT (T : Tab) : Prop where
  pen : T "_law_pen" = some ⟨1, 1, N_pen⟩
  draw : T "_law_draw" = some ⟨2, 4, N_draw⟩
section
variable {T : Tab}
def Pen (S : Sto) (n B : Nat) : Prop := ∃ a b c : Int, S[n]? = some (.lst [.int a, .int b, .int c]) ∧ 0 ≤ a ∧ 0 ≤ b ∧ b < 1000000007 ∧ 0 ≤ c ∧ c ≤ B
theorem Pen.mono {S : Sto} {n B C : Nat} (h : Pen S n B) (q : B ≤ C) : Pen S n C := by
  obtain ⟨a, b, c, e, h1, h2, h3, h4, h5⟩ := h
  exact ⟨a, b, c, e, h1, h2, h3, h4, by omega⟩
theorem n_drawS (bb : DrawT T) (k : Nat) {n B : Nat} {m : Int} {S : Sto} (h : Pen S n B) (hB : B < 1000000) (h0 : 0 < m) (hm : m < 18446744073709551616) : ∃ r S', callQ T (k + 1) "_law_draw" [.ref n, .d (.int m)] S = .ok (.d (.int r)) S' ∧ 0 ≤ r ∧ r < m ∧ Pen S' n (B + 1) ∧ ∃ o, S' = S.set n o := by
  obtain ⟨a, b, c, e, ha, hb, hb2, hc, hc2⟩ := h
  have hl : n < S.length := (List.getElem?_eq_some_iff.mp e).1
  have hm' : Nat.ble m.natAbs 18446744073709551615 = true := Nat.ble_eq_true_of_le (by omega)
  rw [callQ_succ bb.draw rfl rfl]
  by_cases h1 : 0 < a
  · refine ⟨a % m, S.set n (.lst [.int (a / m), .int b, .int c]), ?_, Int.emod_nonneg _ (by omega), Int.emod_lt_of_pos _ h0, ⟨a / m, b, c, by simp [hl], Int.ediv_nonneg ha (by omega), hb, hb2, hc, by omega⟩, _, rfl⟩
    simp [N_draw, startQ, y_setIx, e, h1, h0, hm', atI, ixN, -Nat.ble_eq]
  · have hg : ∀ o : O, (S.set n o)[n]? = some o := fun o => by simp [hl]
    have s1 : sm 17 = true := by decide
    have s2 : sm 2 = true := by decide
    have s3 : sm 40503 = true := by decide
    have s4 : sm 48271 = true := by decide
    have s5 : sm (69621 + 2 * (c + 1)) = true := sm_lt (by omega) (by omega)
    have hb' : 0 ≤ (b + 17 * (c + 1)) * (69621 + 2 * (c + 1)) % 2147483647 ∧ (b + 17 * (c + 1)) * (69621 + 2 * (c + 1)) % 2147483647 < 2147483647 := ⟨Int.emod_nonneg _ (by omega), Int.emod_lt_of_pos _ (by omega)⟩
    generalize hB : (b + 17 * (c + 1)) * (69621 + 2 * (c + 1)) % 2147483647 = R at hb'
    have s6 : sm R = true := sm_lt hb'.1 (by omega)
    refine ⟨(R * R + 40503 * (c + 1) + 5) % 2147483629 * 48271 % 2147483647 / 32 % m, S.set n (.lst [.int a, .int b, .int (c + 1)]), ?_, Int.emod_nonneg _ (by omega), Int.emod_lt_of_pos _ h0, ⟨a, b, c + 1, by simp [hl], ha, hb, hb2, by omega, by omega⟩, _, rfl⟩
    simp [N_draw, startQ, y_setIx, e, h1, h0, hg, atI, ixN, s1, s2, s3, s4, s5, s6, hB]
theorem n_pen (bb : DrawT T) (k : Nat) (S : Sto) (z : Int) : ∃ S', callQ T (k + 1) "_law_pen" [.d (.int z)] S = .ok (.ref S.length) S' ∧ Pen S' S.length 0 := by
  rw [callQ_succ bb.pen rfl rfl]
  refine ⟨S ++ [.lst [.int (if z - 10 ^ 18 > 0 then z - 10 ^ 18 else 0), .int (z % 1000000007), .int 0]], ?_, ?_⟩
  · simp [N_pen, startQ, LIM]
  · refine ⟨_, _, _, by simp; exact ⟨rfl, rfl, rfl⟩, ?_, ?_, ?_, ?_, ?_⟩
    · split <;> omega
    · have := Int.emod_nonneg z (b := 1000000007) (by omega); omega
    · have := Int.emod_lt_of_pos z (b := 1000000007) (by omega); omega
    · omega
    · omega
theorem ints_ofP {P : Int → Prop} : ∀ {xs : List D}, (∀ x ∈ xs, ∃ t : Int, x = .int t ∧ P t) → ∃ ts : List Int, xs = ts.map PyData.int ∧ ∀ t ∈ ts, P t
  | [], _ => ⟨[], rfl, by simp⟩
  | x :: xs, h => by
    obtain ⟨t, rfl, ht⟩ := h x (by simp)
    obtain ⟨ts, rfl, hts⟩ := ints_ofP (xs := xs) fun y hy => h y (by simp [hy])
    exact ⟨t :: ts, rfl, by simpa using ⟨ht, hts⟩⟩
end
end Q

namespace Q
open PySem PySem.Spec PyProof.Rows L2
def ZC_sky_1 : SE := (fCallN "_law_draw" 2 (aCons (fVar 0) (aCons (fVar 3) aNil)))
def ZB_sky_2 : SS := (sSeq (sSet 6 (fB gTuple (aCons (fComp [7] (.name 7) (iRange1 (aCons (fBin gAdd (fInt 1) (fCallN "_law_draw" 2 (aCons (fVar 0) (aCons (fInt 4) aNil)))) aNil)) cYes ZC_sky_1) aNil)))
  (sApp 4 (fTup (aCons (fCallN "_law_draw" 2 (aCons (fVar 0) (aCons (fVar 2) aNil))) (aCons (fBin gSub (fCallN "_law_draw" 2 (aCons (fVar 0) (aCons (fInt 19) aNil))) (fInt 9)) (aCons (fVar 6) aNil))))))
def Z_sky : SS := (sSeq (sUnp [2, 3] (fTup (aCons (fBin gAdd (fInt 4) (fCallN "_law_draw" 2 (aCons (fVar 0) (aCons (fInt 9) aNil)))) (aCons (fBin gAdd (fInt 1) (fCallN "_law_draw" 2 (aCons (fVar 0) (aCons (fInt 5) aNil)))) aNil))))
  (sSeq (sNew 4 aNil)
  (sSeq (sFor (.name 5) (iRange1 (aCons (fBin gAdd (fInt 1) (fCallN "_law_draw" 2 (aCons (fVar 0) (aCons (fVar 1) aNil)))) aNil))
  ZB_sky_2)
  (sRetP (fTup (aCons (fVar 2) (aCons (fVar 3) (aCons (fB gTuple (aOne (fOwn 4))) aNil))))))))
abbrev HasZ_sky (T : Tab) : Prop := T "_law_sky" = some ⟨2, 8, Z_sky⟩
def Z_go : SS := (sSeq (sSet 1 (fAt (fLst (aCons (fInt 2) (aCons (fInt 5) (aCons (fInt 99) aNil)))) (fCallN "_law_draw" 2 (aCons (fVar 0) (aCons (fInt 3) aNil)))))
  (sSeq (sPar [2, 3] (aCons (fBin gSub (fCallN "_law_draw" 2 (aCons (fVar 0) (aCons (fBin gAdd (fBin gMul2 (fInt 2) (fVar 1)) (fInt 1)) aNil))) (fVar 1)) (aCons (fBin gSub (fCallN "_law_draw" 2 (aCons (fVar 0) (aCons (fBin gAdd (fBin gMul2 (fInt 2) (fVar 1)) (fInt 1)) aNil))) (fVar 1)) aNil)))
  (sRetP (fTup (aCons (fStr "go") (aCons (fVar 2) (aCons (fVar 3) (aCons (fAt (fLst (aCons (fInt 0) (aCons (fInt 0) (aCons (fInt 1) (aCons (fNeg (fInt 1)) (aCons (fInt 2) (aCons (fNeg (fInt 3)) aNil))))))) (fCallN "_law_draw" 2 (aCons (fVar 0) (aCons (fInt 6) aNil)))) aNil))))))))
abbrev HasZ_go (T : Tab) : Prop := T "_law_go" = some ⟨1, 4, Z_go⟩
def ZB_items_1 : SS := (sSeq (sSet 6 (fCallN "_law_draw" 2 (aCons (fVar 0) (aCons (fInt 8) aNil))))
  (sIf (cVal (fBin gLt (fVar 6) (fInt 4)))
  (sApp 4 (fCallN "_law_go" 1 (aCons (fVar 0) aNil)))
  (sIf (cVal (fBin gEq (fVar 6) (fInt 4)))
  (sApp 4 (fTup (aCons (fStr "flip") (aCons (fCallN "_law_draw" 2 (aCons (fVar 0) (aCons (fB gLen (aCons (fAt (fVar 1) (fInt 2)) aNil)) aNil))) aNil))))
  (sIf (cOr (cVal (fBin gEq (fVar 6) (fInt 5))) (cVal (fBin gEq (fVar 3) (fInt 0))))
  (sApp 4 (fTup (aCons (fStr "mark") aNil)))
  (sApp 4 (fTup (aCons (fStr "again") (aCons (fCallN "_law_draw" 2 (aCons (fVar 0) (aCons (fInt 4) aNil))) (aCons (fCallN "_law_items" 4 (aCons (fVar 0) (aCons (fVar 1) (aCons (fInt 2) (aCons (fBin gSub (fVar 3) (fInt 1)) aNil))))) aNil)))))))))
def Z_items : SS := (sSeq (sNew 4 aNil)
  (sSeq (sFor (.name 5) (iRange1 (aCons (fCallN "_law_draw" 2 (aCons (fVar 0) (aCons (fBin gAdd (fVar 2) (fInt 1)) aNil))) aNil))
  ZB_items_1)
  (sRetP (fB gTuple (aOne (fOwn 4))))))
abbrev HasZ_items (T : Tab) : Prop := T "_law_items" = some ⟨4, 7, Z_items⟩
structure ItemsZ (T : Tab) : Prop extends DrawT T where
  go : HasZ_go T
  items : HasZ_items T
section
variable {T : Tab}
/-- as drawn here: again three times at most, of two items at most -/
inductive Item.Sm : Nat → Item → Prop
  | go {d : Nat} {a b c : Int} : Item.Sm d (.go a b c)
  | flip {d i : Nat} : Item.Sm d (.flip i)
  | mark {d : Nat} : Item.Sm d .mark
  | again {d t : Nat} {xs : List Item} : t ≤ 3 → xs.length ≤ 2 → (∀ x ∈ xs, Item.Sm d x) → Item.Sm (d + 1) (.again t xs)
theorem sm_size : ∀ (d : Nat), (∀ {x : Item}, Item.Sm d x → x.size ≤ 6 ^ d) ∧ ∀ {xs : List Item}, (∀ x ∈ xs, Item.Sm d x) → sizeOf' xs ≤ xs.length * 6 ^ d := by
  have one : ∀ (d : Nat), (∀ {x : Item}, Item.Sm d x → x.size ≤ 6 ^ d) → ∀ {xs : List Item}, (∀ x ∈ xs, Item.Sm d x) → sizeOf' xs ≤ xs.length * 6 ^ d := by
    intro d h xs
    induction xs with
    | nil => intro _; simp [sizeOf']
    | cons x xs ih =>
      intro o
      have h1 := h (o x (by simp))
      have h2 := ih fun y hy => o y (by simp [hy])
      simp only [sizeOf', List.length_cons, Nat.succ_mul]
      omega
  intro d
  induction d with
  | zero =>
    have h : ∀ {x : Item}, Item.Sm 0 x → x.size ≤ 6 ^ 0 := fun {x} o => by cases o <;> simp [Item.size]
    exact ⟨h, one 0 h⟩
  | succ d ih =>
    have h : ∀ {x : Item}, Item.Sm (d + 1) x → x.size ≤ 6 ^ (d + 1) := fun {x} o => by
      have hp : 0 < 6 ^ d := Nat.pow_pos (by omega)
      cases o with
      | go => simp only [Item.size, Nat.pow_succ]; omega
      | flip => simp only [Item.size, Nat.pow_succ]; omega
      | mark => simp only [Item.size]; omega
      | @again _ t xs ht hl ho =>
        have h1 := ih.2 ho
        have h2 : xs.length * 6 ^ d ≤ 2 * 6 ^ d := Nat.mul_le_mul_right _ hl
        have h3 : t * sizeOf' xs ≤ 3 * (2 * 6 ^ d) := Nat.mul_le_mul ht (by omega)
        simp only [Item.size, Nat.pow_succ]
        omega
    exact ⟨h, one (d + 1) h⟩
def itCost : Nat → Nat
  | 0 => 6
  | d + 1 => 4 + 2 * itCost d
theorem itCost_ge : ∀ d, 6 ≤ itCost d
  | 0 => Nat.le_refl _
  | d + 1 => by have := itCost_ge d; simp only [itCost]; omega
theorem Item.Ok.up {n d : Nat} {x : Item} (o : Item.Ok n 0 x) : Item.Ok n d x := by
  cases o with
  | go h1 h2 h3 => exact .go h1 h2 h3
  | flip h => exact .flip h
  | mark => exact .mark
theorem Item.Ok.sm0 {n d : Nat} {x : Item} (o : Item.Ok n 0 x) : Item.Sm d x := by
  cases o with
  | go h1 h2 h3 => exact .go
  | flip h => exact .flip
  | mark => exact .mark
mutual
def Item.line : Item → List Item
  | .again t xs => (List.replicate t (lineOf xs)).flatten
  | .go a b c => [.go a b c]
  | .flip i => [.flip i]
  | .mark => [.mark]
def lineOf : List Item → List Item
  | [] => []
  | x :: xs => x.line ++ lineOf xs
end
/-- what a single item does -/
def Item.one : Item → State
  | .go m e n => ⟨m, e, n, []⟩
  | .flip i => ⟨0, 0, 0, [(i : Int)]⟩
  | _ => .zero
end
end Q

namespace Q
open PySem PySem.Spec PyProof.Rows L2
end Q

namespace Q
open PySem PySem.Spec L2
def strFine (s : Str) : Bool := (PyData.str s).showable && PyData.strOk (PyData.shown (.str s)) && decide ((PyData.str s).shown.length ≤ 15) && PyData.canLay0 (.str s)
def dictFine : List (D × D) → Bool
  | [] => true
  | [(.int a, .int c)] => decide (a = 0) && (decide (c = 0) || decide (c = 1))
  | _ => false
mutual
def fine (b : Nat) : D → Bool
  | .none => true
  | .bool _ => true
  | .int i => decide (i.natAbs ≤ b)
  | .str s => strFine s
  | .list xs => fines b xs
  | .tuple xs => fines b xs
  | .dict kvs => dictFine kvs
def fines (b : Nat) : List D → Bool
  | [] => true
  | x :: xs => fine b x && fines b xs
end
mutual
def wt : D → Nat
  | .list xs => wts xs + 1
  | .tuple xs => wts xs + 1
  | _ => 1
def wts : List D → Nat
  | [] => 0
  | x :: xs => wt x + wts xs
end
theorem fines_iff {b : Nat} : ∀ {xs : List D}, fines b xs = true ↔ ∀ x ∈ xs, fine b x = true
  | [] => by simp [fines]
  | x :: xs => by simp [fines, fines_iff (xs := xs)]
theorem wts_append : ∀ xs ys : List D, wts (xs ++ ys) = wts xs + wts ys
  | [], ys => by simp [wts]
  | x :: xs, ys => by simp [wts, wts_append xs ys]; omega
theorem wts_rev : ∀ xs : List D, wts xs.reverse = wts xs
  | [] => rfl
  | x :: xs => by simp [wts, wts_append, wts_rev xs]; omega
theorem wt_pos : ∀ d : D, 1 ≤ wt d
  | .none => Nat.le_refl _
  | .bool _ => Nat.le_refl _
  | .int _ => Nat.le_refl _
  | .str _ => Nat.le_refl _
  | .dict _ => Nat.le_refl _
  | .list xs => by simp [wt]
  | .tuple xs => by simp [wt]
theorem len_wts : ∀ xs : List D, xs.length ≤ wts xs
  | [] => Nat.le_refl _
  | x :: xs => by have := len_wts xs; have := wt_pos x; simp [wts]; omega
theorem wts_take (xs : List D) (j : Nat) : wts (xs.take j) + wts (xs.drop j) = wts xs := by
  rw [← wts_append, List.take_append_drop]
theorem wts_at {xs : List D} {j : Nat} (h : j < xs.length) : wts (xs.take j) + wt xs[j] + wts (xs.drop (j + 1)) = wts xs := by
  have h1 := wts_take xs j
  rw [List.drop_eq_getElem_cons h] at h1
  simp only [wts] at h1
  omega
theorem depths_iff {k : Nat} : ∀ {xs : List D}, PyData.depthAll xs ≤ k ↔ ∀ x ∈ xs, PyData.depth x ≤ k
  | [] => by simp [PyData.depthAll]
  | x :: xs => by
    have := depths_iff (k := k) (xs := xs)
    simp only [PyData.depthAll, List.mem_cons, forall_eq_or_imp, ← this]
    omega
/-- data bent: ints, things, depth -/
structure Bt (b n k : Nat) (d : D) : Prop where
  f : fine b d = true
  w : wt d ≤ n
  d : PyData.depth d ≤ k
theorem Bt.mono {b n k b' n' k' : Nat} {d : D} (h : Bt b n k d) (h1 : b ≤ b') (h2 : n ≤ n') (h3 : k ≤ k') : Bt b' n' k' d := by
  refine ⟨?_, Nat.le_trans h.w h2, Nat.le_trans h.d h3⟩
  have key : ∀ d : D, (fine b d = true → fine b' d = true) := by
    intro d
    have := d
    exact PyData.rec (motive_1 := fun d => fine b d = true → fine b' d = true) (motive_2 := fun xs => fines b xs = true → fines b' xs = true) (motive_3 := fun _ => True) (motive_4 := fun _ => True)
      (fun h => h) (fun _ h => h) (fun i h => by simp [fine] at h ⊢; omega) (fun _ h => h) (fun xs ih h => ih h) (fun xs ih h => ih h) (fun _ _ h => h) (fun h => h)
      (fun x xs h1 h2 h => by simp [fines] at h ⊢; exact ⟨h1 h.1, h2 h.2⟩) trivial (fun _ _ _ _ => trivial) (fun _ _ _ _ => trivial) d
  exact key d h.f
mutual
theorem fine_shown {b : Nat} (hb : b < 10 ^ 12) : ∀ {d : D}, fine b d = true → PyData.strOk d.shown = true ∧ d.showable = true ∧ d.shown.length + 5 ≤ 20 * wt d
  | .none, _ => ⟨sOk_of _, rfl, by decide⟩
  | .bool c, _ => by cases c <;> exact ⟨sOk_of _, rfl, by decide⟩
  | .int i, h => by
    have h' : i.natAbs < 10 ^ 12 := by simp [fine] at h; omega
    have := sh_int h'
    exact ⟨this.ok', this.sw, by have := this.ln; simp only [wt]; omega⟩
  | .str s, h => by
    have h' : strFine s = true := h
    simp only [strFine, Bool.and_eq_true, decide_eq_true_eq] at h'
    exact ⟨h'.1.1.2, h'.1.1.1, by have := h'.1.2; simp only [wt]; omega⟩
  | .list xs, h => by
    obtain ⟨h0, h1, h4⟩ := fines_shown hb (xs := xs) h
    refine ⟨sOk_app (sOk_from (sOk_of _) h0) (sOk_of _), by simp [PyData.showable, h1], ?_⟩
    have := listText_len_le (PyData.shownAll xs)
    simp only [PyData.shown, wt]
    omega
  | .tuple xs, h => by
    obtain ⟨h0, h1, h4⟩ := fines_shown hb (xs := xs) h
    refine ⟨sOk_app (sOk_app (sOk_of _) (sOk_join h0)) (sOk_of _), by simp [PyData.showable, h1], ?_⟩
    have := tupleText_len_le (PyData.shownAll xs)
    simp only [PyData.shown, wt]
    omega
  | .dict kvs, h => by
    have h' : dictFine kvs = true := h
    unfold dictFine at h'
    split at h'
    · exact ⟨sOk_of "{}", rfl, by decide⟩
    · rename_i a c
      simp only [Bool.and_eq_true, Bool.or_eq_true, decide_eq_true_eq] at h'
      obtain ⟨rfl, rfl | rfl⟩ := h'
      · exact ⟨sOk_of "{0: 0}", rfl, by decide⟩
      · exact ⟨sOk_of "{0: 1}", rfl, by decide⟩
    · cases h'
theorem fines_shown {b : Nat} (hb : b < 10 ^ 12) : ∀ {xs : List D}, fines b xs = true → (∀ t ∈ PyData.shownAll xs, PyData.strOk t = true) ∧ PyData.showableAll xs = true ∧ ((PyData.shownAll xs).map (·.length)).sum + 2 * (PyData.shownAll xs).length ≤ 20 * wts xs
  | [], _ => by simp [PyData.showableAll, PyData.shownAll, wts]
  | x :: xs, h => by
    have h' : fine b x = true ∧ fines b xs = true := by simpa [fines] using h
    obtain ⟨a0, a1, a2⟩ := fine_shown hb h'.1
    obtain ⟨h0, h1, h4⟩ := fines_shown hb h'.2
    refine ⟨fun t ht => (List.mem_cons.mp ht).elim (fun e => e ▸ a0) (h0 t), by simp [PyData.showableAll, a1, h1], ?_⟩
    simp only [PyData.shownAll, List.map_cons, List.sum_cons, List.length_cons, wts]
    omega
end
theorem Bt.show {b n k : Nat} {d : D} (h : Bt b n k d) (hb : b < 10 ^ 12) (hk : k ≤ 60) (hn : n ≤ 800000) : okShowX d = true := by
  obtain ⟨h1, h2, h3⟩ := fine_shown hb h.f
  have h4 := h.w
  have h5 := h.d
  simp [okShowX, h2]
  exact ⟨by omega, by show _ ≤ 16777216; omega⟩
structure Bts (b n k : Nat) (xs : List D) : Prop where
  f : ∀ x ∈ xs, fine b x = true
  w : wts xs ≤ n
  d : ∀ x ∈ xs, PyData.depth x ≤ k
theorem Bt.tup {b n k : Nat} {xs : List D} (h : Bts b n k xs) : Bt b (n + 1) (k + 1) (.tuple xs) := ⟨fines_iff.mpr h.f, by simp only [wt]; have := h.w; omega, by simp only [PyData.depth]; have := depths_iff.mpr h.d; omega⟩
theorem Bt.lst {b n k : Nat} {xs : List D} (h : Bts b n k xs) : Bt b (n + 1) (k + 1) (.list xs) := ⟨fines_iff.mpr h.f, by simp only [wt]; have := h.w; omega, by simp only [PyData.depth]; have := depths_iff.mpr h.d; omega⟩
theorem Bts.nil {b k : Nat} : Bts b 0 k [] := ⟨by simp, Nat.le_refl _, by simp⟩
theorem Bts.cons {b n m k : Nat} {x : D} {xs : List D} (h : Bt b n k x) (t : Bts b m k xs) : Bts b (n + m) k (x :: xs) := ⟨by simpa using ⟨h.f, t.f⟩, by simp only [wts]; have := h.w; have := t.w; omega, by simpa using ⟨h.d, t.d⟩⟩
theorem Bts.one {b n k : Nat} {x : D} (h : Bt b n k x) : Bts b n k [x] := by simpa using Bts.cons h Bts.nil
theorem Bts.app {b n m k : Nat} {xs ys : List D} (h : Bts b n k xs) (t : Bts b m k ys) : Bts b (n + m) k (xs ++ ys) := ⟨fun x hx => (List.mem_append.mp hx).elim (h.f x) (t.f x), by rw [wts_append]; have := h.w; have := t.w; omega, fun x hx => (List.mem_append.mp hx).elim (h.d x) (t.d x)⟩
theorem Bts.of {b n k : Nat} {xs : List D} (h : Bt b (n + 1) (k + 1) (.tuple xs)) : Bts b n k xs := ⟨fines_iff.mp h.f, by have := h.w; simp only [wt] at this; omega, by have := h.d; simp only [PyData.depth] at this; exact depths_iff.mp (by omega)⟩
theorem Bts.mono {b n k b' n' k' : Nat} {xs : List D} (h : Bts b n k xs) (h1 : b ≤ b') (h2 : n ≤ n') (h3 : k ≤ k') : Bts b' n' k' xs := Bts.of ((Bt.tup h).mono h1 (by omega) (by omega))
theorem Bts.sub {b n k m : Nat} {xs ys : List D} (h : Bts b n k xs) (hs : ∀ y ∈ ys, y ∈ xs) (hw : wts ys ≤ m) : Bts b m k ys := ⟨fun y hy => h.f y (hs y hy), hw, fun y hy => h.d y (hs y hy)⟩
theorem Bts.get {b n k : Nat} {xs : List D} (h : Bts b n k xs) {j : Nat} (hj : j < xs.length) : Bt b n k xs[j] := ⟨h.f _ (List.getElem_mem hj), by have := wts_at hj; have := h.w; omega, h.d _ (List.getElem_mem hj)⟩
/-- one part otherwise -/
theorem Bts.swap {b n k m : Nat} {xs : List D} (h : Bts b n k xs) {j : Nat} (hj : j < xs.length) {y : D} (hy : Bt b m k y) : Bts b (n - wt xs[j] + m) k (xs.take j ++ [y] ++ xs.drop (j + 1)) := by
  have hw := wts_at hj
  have hn := h.w
  have := ((h.sub (ys := xs.take j) (fun _ => List.mem_of_mem_take) (Nat.le_refl _)).app (.one hy)).app (h.sub (ys := xs.drop (j + 1)) (fun _ => List.mem_of_mem_drop) (Nat.le_refl _))
  exact ⟨this.f, by have := this.w; omega, this.d⟩
/-- one part more -/
theorem Bts.put {b n k m : Nat} {xs : List D} (h : Bts b n k xs) (j : Nat) {y : D} (hy : Bt b m k y) : Bts b (n + m) k (xs.take j ++ [y] ++ xs.drop j) := by
  have hw := wts_take xs j
  have hn := h.w
  have := ((h.sub (ys := xs.take j) (fun _ => List.mem_of_mem_take) (Nat.le_refl _)).app (.one hy)).app (h.sub (ys := xs.drop j) (fun _ => List.mem_of_mem_drop) (Nat.le_refl _))
  exact ⟨this.f, by have := this.w; omega, this.d⟩
/-- one part less -/
theorem Bts.cut {b n k : Nat} {xs : List D} (h : Bts b n k xs) (j : Nat) : Bts b n k (xs.take j ++ xs.drop (j + 1)) := by
  refine h.sub (fun y hy => (List.mem_append.mp hy).elim List.mem_of_mem_take List.mem_of_mem_drop) ?_
  have hn := h.w
  rw [wts_append]
  have h1 := wts_take xs j
  have h2 := wts_take (xs.drop j) 1
  rw [List.drop_drop] at h2
  omega
/-- a part twice -/
theorem Bts.twice {b n k : Nat} {xs : List D} (h : Bts b n k xs) (j : Nat) : Bts b (2 * n) k (xs.take j ++ (xs.drop j).take 1 ++ xs.drop j) := by
  refine h.sub (fun y hy => ?_) ?_
  · rcases List.mem_append.mp hy with hy | hy
    · rcases List.mem_append.mp hy with hy | hy
      · exact List.mem_of_mem_take hy
      · exact List.mem_of_mem_drop (List.mem_of_mem_take hy)
    · exact List.mem_of_mem_drop hy
  · have hn := h.w
    rw [wts_append, wts_append]
    have h1 := wts_take xs j
    have h2 := wts_take (xs.drop j) 1
    omega
theorem Bts.rev {b n k : Nat} {xs : List D} (h : Bts b n k xs) : Bts b n k xs.reverse := h.sub (fun y hy => List.mem_reverse.mp hy) (by rw [wts_rev]; exact h.w)
theorem bt_int {b : Nat} {i : Int} (h : i.natAbs ≤ b) : Bt b 1 0 (.int i) := ⟨by simpa [fine] using h, Nat.le_refl _, Nat.le_refl _⟩
theorem bt_bool (b : Nat) (c : Bool) : Bt b 1 0 (.bool c) := ⟨rfl, Nat.le_refl _, Nat.le_refl _⟩
theorem bt_none (b : Nat) : Bt b 1 0 .none := ⟨rfl, Nat.le_refl _, Nat.le_refl _⟩
theorem bt_str (b : Nat) {s : Str} (h : strFine s = true) : Bt b 1 0 (.str s) := ⟨h, Nat.le_refl _, Nat.le_refl _⟩
theorem bt_len {b n k : Nat} {xs : List D} (h : Bts b n k xs) : xs.length ≤ n := Nat.le_trans (len_wts xs) h.w
def wholeD : D → Bool
  | .int _ => true
  | _ => false
def amongD (d : D) (l h : Int) : Bool := match d with
  | .int i => decide (l ≤ i) && decide (i ≤ h)
  | _ => false
def rowD (d : D) (l h : Int) : Bool := match d with
  | .tuple xs => decide (l ≤ (xs.length : Int)) && decide ((xs.length : Int) ≤ h)
  | _ => false
section
variable {T : Tab}
theorem p_wholeD (b : BaseT T) (k : Nat) (S : Sto) (d : D) : callQ T (k + 1) "is_whole" [.d d] S = .ok (.d (.bool (wholeD d))) S := by
  rw [callQ_succ b.whole rfl rfl]
  cases d <;> simp [P_is_whole, startQ, isTy, tyName, wholeD]
theorem p_amongD (b : BaseT T) (k : Nat) (S : Sto) (d : D) (l h : Int) : callQ T (k + 2) "is_among" [.d d, .d (.int l), .d (.int h)] S = .ok (.d (.bool (amongD d l h))) S := by
  rw [callQ_succ b.among rfl rfl]
  cases d with
  | int i =>
    simp [P_is_among, startQ, p_wholeD b, wholeD, amongD]
    by_cases h1 : l ≤ i <;> simp [h1]
  | _ => simp [P_is_among, startQ, p_wholeD b, wholeD, amongD]
theorem p_rowD (b : BaseT T) (k : Nat) (S : Sto) (d : D) (l h : Int) : callQ T (k + 1) "is_row" [.d d, .d (.int l), .d (.int h)] S = .ok (.d (.bool (rowD d l h))) S := by
  rw [callQ_succ b.row rfl rfl]
  cases d with
  | tuple xs =>
    simp [P_is_row, startQ, rowD, isTy, tyName]
    by_cases h1 : l ≤ (xs.length : Int) <;> simp [h1]
  | _ => simp [P_is_row, startQ, rowD, isTy, tyName]
end
end Q

namespace Q
open PySem PySem.Spec L2
def OB : Nat := 100000000000
theorem rows_bt {rows : List Int} {h : Int} (hr : ∀ r ∈ rows, 0 ≤ r ∧ r < h) (h1 : h ≤ 5) : Bts OB rows.length 0 (rows.map PyData.int) := by
  induction rows with
  | nil => exact Bts.nil
  | cons r rs ih =>
    have := hr r (by simp)
    have := Bts.cons (bt_int (b := OB) (i := r) (by unfold OB; omega)) (ih fun y hy => hr y (by simp [hy]))
    exact this.mono (Nat.le_refl _) (by simp; omega) (Nat.le_refl _)
theorem light_bt {l : Light} {w h : Int} (o : l.Ok w h) (h1 : w ≤ 12) (h2 : h ≤ 5) : Bt OB 8 2 l.D := by
  have := o.c0; have := o.c1; have := o.s0; have := o.s1; have hr1 := o.r1
  have hr := Bt.tup (rows_bt o.r h2)
  have i1 : Bt OB 1 1 (.int l.c) := (bt_int (by unfold OB; omega)).mono (Nat.le_refl _) (Nat.le_refl _) (by omega)
  have i2 : Bt OB 1 1 (.int l.s) := (bt_int (by unfold OB; omega)).mono (Nat.le_refl _) (Nat.le_refl _) (by omega)
  exact (Bt.tup (Bts.cons i1 (Bts.cons i2 (Bts.one hr)))).mono (Nat.le_refl _) (by omega) (Nat.le_refl _)
theorem lights_bt {w h : Int} (h1 : w ≤ 12) (h2 : h ≤ 5) : ∀ {ls : List Light}, (∀ l ∈ ls, l.Ok w h) → Bts OB (8 * ls.length) 2 (ls.map Light.D)
  | [], _ => Bts.nil.mono (Nat.le_refl _) (Nat.le_refl _) (Nat.le_refl _)
  | l :: ls, o => (Bts.cons (light_bt (o l (by simp)) h1 h2) (lights_bt h1 h2 fun y hy => o y (by simp [hy]))).mono (Nat.le_refl _) (by simp; omega) (Nat.le_refl _)
theorem sky_bt {s : Sky} (o : s.Ok) : Bts OB 51 3 [.int s.w, .int s.h, .tuple (s.ls.map Light.D)] := by
  have := o.w0; have := o.w1; have := o.h0; have := o.h1; have := o.l1
  have hl := Bt.tup (lights_bt o.w1 o.h1 o.l)
  have i1 : Bt OB 1 3 (.int s.w) := (bt_int (by unfold OB; omega)).mono (Nat.le_refl _) (Nat.le_refl _) (by omega)
  have i2 : Bt OB 1 3 (.int s.h) := (bt_int (by unfold OB; omega)).mono (Nat.le_refl _) (Nat.le_refl _) (by omega)
  exact (Bts.cons i1 (Bts.cons i2 (Bts.one hl))).mono (Nat.le_refl _) (by omega) (Nat.le_refl _)
end Q

namespace Q
open PySem PySem.Spec PyProof.Rows L2
@[simp] theorem pl_err (a : Addr) (c : String) : (W.err a c).plain = true := rfl
@[simp] theorem pl_clo (j : Clo) (y : String) (ws : List W) : (W.clo j y ws).plain = W.plains ws := rfl
theorem len2 {xs : List D} (h : xs.length = 2) : ∃ a b, xs = [a, b] := by
  match xs, h with
  | [a, b], _ => exact ⟨a, b, rfl⟩
theorem amongD_int {d : D} {l h : Int} (e : amongD d l h = true) : ∃ i, d = .int i ∧ l ≤ i ∧ i ≤ h := by
  cases d with
  | int i => simp [amongD] at e; exact ⟨i, rfl, e.1, e.2⟩
  | _ => simp [amongD] at e
section
variable {T : Tab}
end
end Q

namespace Q
open PySem PySem.Spec PyProof.Rows L2
def ZC_is_item_1 : SE := (fCallN "is_among" 3 (aCons (fVar 3) (aCons (fBin gSub (fInt 0) (fInt 99)) (aCons (fInt 99) aNil))))
def Z_is_item : SS := (sSeq (sIf (cOr (cNot (cVal (fIsI "tuple" (fVar 1)))) (cOr (cVal (fBin gEqM (fVar 1) (fTup aNil))) (cNot (cVal (fIsI "str" (fAt (fVar 1) (fInt 0)))))))
  (sRetP (fBl false))
  sNext)
  (sSeq (sIf (cVal (fBin gEq (fAt (fVar 1) (fInt 0)) (fStr "go")))
  (sRetP (fAnd (fBin gEq (fB gLen (aCons (fVar 1) aNil)) (fInt 4)) (fB gAll (aCons (fComp [3] (.name 3) (iSeq (fSl (fVar 1) (oSome (fInt 1)) oNone)) cYes ZC_is_item_1) aNil))))
  sNext)
  (sSeq (sIf (cVal (fBin gEq (fAt (fVar 1) (fInt 0)) (fStr "flip")))
  (sRetP (fAnd (fBin gEq (fB gLen (aCons (fVar 1) aNil)) (fInt 2)) (fCallN "is_among" 3 (aCons (fAt (fVar 1) (fInt 1)) (aCons (fInt 0) (aCons (fBin gSub (fB gLen (aCons (fAt (fVar 0) (fInt 2)) aNil)) (fInt 1)) aNil))))))
  sNext)
  (sSeq (sIf (cVal (fBin gEq (fAt (fVar 1) (fInt 0)) (fStr "again")))
  (sRetP (fAnd (fBin gEq (fB gLen (aCons (fVar 1) aNil)) (fInt 3)) (fAnd (fBin gGt (fVar 2) (fInt 0)) (fAnd (fCallN "is_among" 3 (aCons (fAt (fVar 1) (fInt 1)) (aCons (fInt 0) (aCons (fInt 1000000) aNil)))) (fCallN "are_items" 3 (aCons (fVar 0) (aCons (fAt (fVar 1) (fInt 2)) (aCons (fBin gSub (fVar 2) (fInt 1)) aNil))))))))
  sNext)
  (sRetP (fBin gEqM (fVar 1) (fTup (aCons (fStr "mark") aNil))))))))
abbrev HasZ_is_item (T : Tab) : Prop := T "is_item" = some ⟨3, 4, Z_is_item⟩
def itemB (n : Nat) (sub : Option (D → Bool)) : D → Bool
  | .tuple (.str t :: r) =>
    if t = "go" then decide (r.length = 3) && r.all (fun x => amongD x (-99) 99)
    else if t = "flip" then decide (r.length = 1) && r.all (fun x => amongD x 0 ((n : Int) - 1))
    else if t = "again" then match sub, r with
      | some f, [c, d] => amongD c 0 1000000 && f d
      | _, _ => false
    else decide (t = "mark") && r.isEmpty
  | _ => false
def itemsX (n : Nat) : Nat → D → Bool
  | 0, .tuple xs => decide (xs.length ≤ 8) && xs.all (itemB n none)
  | k + 1, .tuple xs => decide (xs.length ≤ 8) && xs.all (itemB n (some (itemsX n k)))
  | _, _ => false
def subX (n : Nat) : Nat → Option (D → Bool)
  | 0 => none
  | k + 1 => some (itemsX n k)
theorem itemsX_tup (n k : Nat) (xs : List D) : itemsX n k (.tuple xs) = (decide (xs.length ≤ 8) && xs.all (itemB n (subX n k))) := by cases k <;> rfl
theorem itemsX_not (n k : Nat) {d : D} (h : ∀ xs, d ≠ .tuple xs) : itemsX n k d = false := by
  cases d with
  | tuple xs => exact absurd rfl (h xs)
  | _ => cases k <;> rfl
structure ScnT (T : Tab) : Prop extends BaseT T where
  is_item : HasZ_is_item T
  are_items : Has_are_items T
  size_of : Has_size_of T
  is_scene_by : Has_is_scene_by T
  need_scene : Has_need_scene T
section
variable {T : Tab}
theorem p_itemB (b : BaseT T) (hi : HasZ_is_item T) (k : Nat) (S : Sto) (s : Sky) (deep : Nat) (hs : ∀ e d, deep = e + 1 → callQ T (k + 2) "are_items" [.d s.D, .d d, .d (.int (e : Int))] S = .ok (.d (.bool (itemsX s.ls.length e d))) S) (x : D) :
    callQ T (k + 3) "is_item" [.d s.D, .d x, .d (.int (deep : Int))] S = .ok (.d (.bool (itemB s.ls.length (subX s.ls.length deep) x))) S := by
  rw [callQ_succ hi rfl rfl]
  have q2 : gAt (.d s.D) (.d (.int 2)) S = .ok (.d (.tuple (s.ls.map Light.D))) S := rfl
  have ql : gLen [.d (.tuple (s.ls.map Light.D))] S = .ok (.d (.int (s.ls.length : Int))) S := by simp [gLen]
  generalize PyData.tuple (s.ls.map Light.D) = LL at *
  generalize s.D = G at *
  cases x with
  | tuple xs =>
    cases xs with
    | nil => simp [Z_is_item, startQ, isTy, tyName, itemB, LIM, gEqM]
    | cons y r =>
      have e0 : gEqM (.d (.tuple (y :: r))) (.d (.tuple [])) S = .ok (.d (.bool false)) S := by
        cases y <;> rfl
      have a0 : gAt (.d (.tuple (y :: r))) (.d (.int 0)) S = .ok (.d y) S := by
        show (match atI (y :: r) (0 : Int) with | some x => R.ok (W.d x) S | none => .stuck) = _
        rw [show (0 : Int) = ((0 : Nat) : Int) from rfl, atI_nat]
        rfl
      cases y with
      | str t =>
        have ts : isTy "str" (.str t) = true := rfl
        have sl := g_sliceT1 S (PyData.str t :: r) 1
        simp only [List.drop_succ_cons, List.drop_zero] at sl
        by_cases t1 : t = "go"
        · subst t1
          by_cases h3 : r.length = 3
          · have e : compL (.name 3) (cYes (callQ T (k + 2))) (ZC_is_item_1 (callQ T (k + 2))) [some (.d G), some (.d (.tuple (.str "go" :: r))), some (.d (.int (deep : Int))), none] (r.map id) S = .ok (r.map fun x => PyData.bool (amongD x (-99) 99)) S := by
              refine compL_on _ _ (fun x hx => rfl) fun x hx => ?_
              have := p_amongD b k S x (-99) 99
              simp [ZC_is_item_1, this]
            rw [List.map_id] at e
            have hb : bools (r.map fun x => PyData.bool (amongD x (-99) 99)) = some (r.map fun x => amongD x (-99) 99) := bools_on _ fun _ _ => rfl
            have ha : (r.map fun x => amongD x (-99) 99).all id = r.all (fun x => amongD x (-99) 99) := by rw [List.all_map]; rfl
            have gl : gLen [.d (.tuple (.str "go" :: r))] S = .ok (.d (.int 4)) S := by simp [gLen, h3]
            have hlim : r.length ≤ 16777216 := by omega
            have sl' : gSlice (.d (.tuple (.str "go" :: r))) (some 1) none S = .ok (.d (.tuple r)) S := sl
            generalize hX : PyData.tuple (.str "go" :: r) = X at *
            have e1 : itemB s.ls.length (subX s.ls.length deep) X = r.all (fun x => amongD x (-99) 99) := by subst hX; simp [itemB, h3]
            rw [e1]
            have ty : (isTy "tuple" X) = true := by subst hX; rfl
            simp [Z_is_item, startQ, ty, ts, e0, a0, sl', gl, notOwn, e, hb, LIM, hlim, ha]
          · have gl : gLen [.d (.tuple (.str "go" :: r))] S = .ok (.d (.int ((r.length : Int) + 1))) S := by simp [gLen]
            have h4 : ¬ ((r.length : Int) + 1 = 4) := by omega
            generalize hX : PyData.tuple (.str "go" :: r) = X at *
            have e1 : itemB s.ls.length (subX s.ls.length deep) X = false := by subst hX; simp [itemB, h3]
            rw [e1]
            have ty : (isTy "tuple" X) = true := by subst hX; rfl
            simp [Z_is_item, startQ, ty, e0, a0, gl, h4, ts, LIM]
        · by_cases t2 : t = "flip"
          · subst t2
            by_cases h1 : r.length = 1
            · obtain ⟨c, rfl⟩ := List.length_eq_one_iff.mp h1
              have c1 := p_amongD b k S c 0 ((s.ls.length : Int) - 1)
              have a1 : gAt (.d (.tuple [.str "flip", c])) (.d (.int 1)) S = .ok (.d c) S := rfl
              have gl : gLen [.d (.tuple [.str "flip", c])] S = .ok (.d (.int 2)) S := by simp [gLen]
              generalize hX : PyData.tuple [.str "flip", c] = X at *
              have e1 : itemB s.ls.length (subX s.ls.length deep) X = amongD c 0 ((s.ls.length : Int) - 1) := by subst hX; simp [itemB]
              rw [e1]
              have ty : (isTy "tuple" X) = true := by subst hX; rfl
              simp [Z_is_item, startQ, ty, e0, a0, a1, gl, ts, LIM, q2, ql, c1]
            · have gl : gLen [.d (.tuple (.str "flip" :: r))] S = .ok (.d (.int ((r.length : Int) + 1))) S := by simp [gLen]
              have h4 : ¬ ((r.length : Int) + 1 = 2) := by omega
              generalize hX : PyData.tuple (.str "flip" :: r) = X at *
              have e1 : itemB s.ls.length (subX s.ls.length deep) X = false := by subst hX; simp [itemB, h1]
              rw [e1]
              have ty : (isTy "tuple" X) = true := by subst hX; rfl
              simp [Z_is_item, startQ, ty, e0, a0, gl, h4, ts, LIM]
          · by_cases t3 : t = "again"
            · subst t3
              by_cases h2 : r.length = 2
              · obtain ⟨c, d, rfl⟩ := len2 h2
                have c1 := p_amongD b k S c 0 1000000
                have a1 : gAt (.d (.tuple [.str "again", c, d])) (.d (.int 1)) S = .ok (.d c) S := rfl
                have a2 : gAt (.d (.tuple [.str "again", c, d])) (.d (.int 2)) S = .ok (.d d) S := rfl
                have gl : gLen [.d (.tuple [.str "again", c, d])] S = .ok (.d (.int 3)) S := by simp [gLen]
                cases deep with
                | zero =>
                  generalize hX : PyData.tuple [.str "again", c, d] = X at *
                  have e1 : itemB s.ls.length (subX s.ls.length 0) X = false := by subst hX; simp [itemB, subX]
                  rw [e1]
                  have ty : (isTy "tuple" X) = true := by subst hX; rfl
                  simp [Z_is_item, startQ, ty, e0, a0, a1, a2, gl, ts, LIM]
                | succ e =>
                  have c2 := hs e d rfl
                  have hp : (0 : Int) < (e : Int) + 1 := by omega
                  generalize hX : PyData.tuple [.str "again", c, d] = X at *
                  have e1 : itemB s.ls.length (subX s.ls.length (e + 1)) X = (amongD c 0 1000000 && itemsX s.ls.length e d) := by subst hX; simp [itemB, subX]
                  rw [e1]
                  have ty : (isTy "tuple" X) = true := by subst hX; rfl
                  cases hc : amongD c 0 1000000 <;> rw [hc] at c1 <;> simp [Z_is_item, startQ, ty, e0, a0, a1, a2, gl, ts, LIM, c1, c2, hp]
              · have gl : gLen [.d (.tuple (.str "again" :: r))] S = .ok (.d (.int ((r.length : Int) + 1))) S := by simp [gLen]
                have h4 : ¬ ((r.length : Int) + 1 = 3) := by omega
                generalize hX : PyData.tuple (.str "again" :: r) = X at *
                have e1 : itemB s.ls.length (subX s.ls.length deep) X = false := by
                  subst hX
                  simp [itemB]
                  split
                  · simp at h2
                  · rfl
                rw [e1]
                have ty : (isTy "tuple" X) = true := by subst hX; rfl
                simp [Z_is_item, startQ, ty, e0, a0, gl, h4, ts, LIM]
            · have e1 : itemB s.ls.length (subX s.ls.length deep) (.tuple (.str t :: r)) = (decide (t = "mark") && r.isEmpty) := by
                simp only [itemB]
                rw [if_neg t1, if_neg t2, if_neg t3]
              have em := g_eqM1 t "mark" r S
              rw [e1]
              generalize hX : PyData.tuple (.str t :: r) = X at *
              have ty : (isTy "tuple" X) = true := by subst hX; rfl
              simp [Z_is_item, startQ, ty, e0, a0, ts, LIM, t1, t2, t3, em]
      | _ => simp [Z_is_item, startQ, isTy, tyName, e0, a0, itemB, LIM]
  | _ => simp [Z_is_item, startQ, isTy, tyName, itemB]
theorem p_itemsX (b : BaseT T) (hi : HasZ_is_item T) (ha : Has_are_items T) (S : Sto) (s : Sky) : ∀ (deep k : Nat) (d : D), callQ T (k + 2 * deep + 4) "are_items" [.d s.D, .d d, .d (.int (deep : Int))] S = .ok (.d (.bool (itemsX s.ls.length deep d))) S := by
  intro deep
  induction deep with
  | zero => intro k d; exact step 0 (k + 0) (fun e d h => by omega) d
  | succ e ih =>
    intro k d
    refine step (e + 1) (k + 2 * (e + 1)) (fun e' d h => ?_) d
    obtain rfl : e' = e := by omega
    exact ih k d
where
  step (deep k : Nat) (hs : ∀ e d, deep = e + 1 → callQ T (k + 2) "are_items" [.d s.D, .d d, .d (.int (e : Int))] S = .ok (.d (.bool (itemsX s.ls.length e d))) S) (d : D) : callQ T (k + 4) "are_items" [.d s.D, .d d, .d (.int (deep : Int))] S = .ok (.d (.bool (itemsX s.ls.length deep d))) S := by
    rw [callQ_succ ha rfl rfl]
    have c0 := p_rowD b (k + 2) S d 0 8
    by_cases h1 : rowD d 0 8 = true
    · cases d with
      | tuple ls =>
        have hl : ls.length ≤ 8 := by simp [rowD] at h1; omega
        have e : compL (.name 3) (cYes (callQ T (k + 3))) (PC_are_items_1 (callQ T (k + 3))) [some (.d s.D), some (.d (.tuple ls)), some (.d (.int (deep : Int))), none] (ls.map id) S = .ok (ls.map fun x => PyData.bool (itemB s.ls.length (subX s.ls.length deep) x)) S := by
          refine compL_on _ _ (fun x hx => rfl) fun x hx => ?_
          have := p_itemB b hi k S s deep hs x
          generalize s.D = G at *
          simp [PC_are_items_1, this]
        rw [List.map_id] at e
        have hb : bools (ls.map fun x => PyData.bool (itemB s.ls.length (subX s.ls.length deep) x)) = some (ls.map fun x => itemB s.ls.length (subX s.ls.length deep) x) := bools_on _ fun _ _ => rfl
        have hr : itemsX s.ls.length deep (.tuple ls) = (ls.map fun x => itemB s.ls.length (subX s.ls.length deep) x).all id := by
          rw [itemsX_tup, decide_eq_true hl, List.all_map]
          rfl
        have hlim : ls.length ≤ 16777216 := by omega
        rw [h1] at c0
        rw [hr]
        generalize s.D = G at *
        simp [P_are_items, startQ, c0, notOwn, e, LIM, hlim, hb]
      | _ => simp [rowD] at h1
    · have hf : rowD d 0 8 = false := by simpa using h1
      have e : itemsX s.ls.length deep d = false := by
        cases d with
        | tuple ls =>
          rw [itemsX_tup]
          have : decide (ls.length ≤ 8) = false := by
            simp [rowD] at hf
            simp
            omega
          rw [this]; rfl
        | _ => exact itemsX_not _ _ fun _ h => by cases h
      rw [hf] at c0
      rw [e]
      generalize s.D = G at *
      simp [P_are_items, startQ, c0]
theorem itemsD_all {n d : Nat} (hone : ∀ x, itemB n (subX n d) x = true → ∃ it, x = Item.D it ∧ Item.Ok n d it) : ∀ xs : List D, (xs.all (itemB n (subX n d))) = true → ∃ is : List Item, xs = is.map Item.D ∧ ∀ i ∈ is, Item.Ok n d i
  | [], _ => ⟨[], rfl, by simp⟩
  | x :: xs, h => by
    rw [List.all_cons, Bool.and_eq_true] at h
    obtain ⟨it, rfl, o⟩ := hone x h.1
    obtain ⟨is, rfl, os⟩ := itemsD_all hone xs h.2
    exact ⟨it :: is, rfl, by simpa using ⟨o, os⟩⟩
theorem itemB_is {n : Nat} : ∀ (d : Nat) (x : D), itemB n (subX n d) x = true → ∃ it, x = Item.D it ∧ Item.Ok n d it := by
  intro d
  induction d with
  | zero =>
    intro x h
    exact step 0 x h fun e y he => by omega
  | succ e ih =>
    intro x h
    refine step (e + 1) x h fun e' y he hy => ?_
    obtain rfl : e' = e := by omega
    cases y with
    | tuple ys =>
      rw [itemsX_tup, Bool.and_eq_true, decide_eq_true_eq] at hy
      obtain ⟨is, rfl, o⟩ := itemsD_all ih ys hy.2
      exact ⟨is, rfl, by simpa using hy.1, o⟩
    | _ => rw [itemsX_not _ _ fun _ h => by cases h] at hy; cases hy
where
  step {n : Nat} (d : Nat) (x : D) (h : itemB n (subX n d) x = true) (hs : ∀ e y, d = e + 1 → itemsX n e y = true → ∃ is : List Item, y = .tuple (is.map Item.D) ∧ is.length ≤ 8 ∧ ∀ i ∈ is, Item.Ok n e i) : ∃ it, x = Item.D it ∧ Item.Ok n d it := by
    cases x with
    | tuple xs =>
      cases xs with
      | nil => simp [itemB] at h
      | cons y r =>
        cases y with
        | str t =>
          by_cases t1 : t = "go"
          · subst t1
            simp [itemB] at h
            obtain ⟨h3, ha⟩ := h
            match r, h3 with
            | [a, b, c], _ =>
              simp at ha
              obtain ⟨ha, hb, hc⟩ := ha
              obtain ⟨i, rfl, i1, i2⟩ := amongD_int ha
              obtain ⟨j, rfl, j1, j2⟩ := amongD_int hb
              obtain ⟨m, rfl, m1, m2⟩ := amongD_int hc
              exact ⟨.go i j m, rfl, .go ⟨i1, i2⟩ ⟨j1, j2⟩ ⟨m1, m2⟩⟩
          · by_cases t2 : t = "flip"
            · subst t2
              simp [itemB] at h
              obtain ⟨h3, ha⟩ := h
              match r, h3 with
              | [a], _ =>
                simp at ha
                obtain ⟨i, rfl, i1, i2⟩ := amongD_int ha
                obtain ⟨j, rfl⟩ := Int.eq_ofNat_of_zero_le i1
                exact ⟨.flip j, rfl, .flip (by omega)⟩
            · by_cases t3 : t = "again"
              · subst t3
                cases d with
                | zero => simp [itemB, subX] at h
                | succ e =>
                  by_cases h2 : r.length = 2
                  · obtain ⟨c, y, rfl⟩ := len2 h2
                    simp [itemB, subX] at h
                    obtain ⟨i, rfl, i1, i2⟩ := amongD_int h.1
                    obtain ⟨j, rfl⟩ := Int.eq_ofNat_of_zero_le i1
                    obtain ⟨is, rfl, l, o⟩ := hs e y rfl h.2
                    exact ⟨.again j is, by rw [again_D]; rfl, .again (by omega) l o⟩
                  · have e1 : itemB n (subX n (e + 1)) (.tuple (.str "again" :: r)) = false := by
                      simp [itemB]
                      split
                      · simp at h2
                      · rfl
                    rw [e1] at h
                    cases h
              · have e1 : itemB n (subX n d) (.tuple (.str t :: r)) = (decide (t = "mark") && r.isEmpty) := by
                  simp only [itemB]
                  rw [if_neg t1, if_neg t2, if_neg t3]
                rw [e1] at h
                simp at h
                obtain ⟨rfl, rfl⟩ := h
                exact ⟨.mark, rfl, .mark⟩
        | _ => simp [itemB] at h
    | _ => simp [itemB] at h
theorem itemsX_is {n d : Nat} {x : D} (h : itemsX n d x = true) : ∃ xs, x = itemsD xs ∧ ItemsOk n d xs := by
  cases x with
  | tuple ys =>
    rw [itemsX_tup, Bool.and_eq_true, decide_eq_true_eq] at h
    obtain ⟨is, rfl, o⟩ := itemsD_all (fun x => itemB_is d x) ys h.2
    exact ⟨is, rfl, by simpa using h.1, o⟩
  | _ => rw [itemsX_not _ _ fun _ h => by cases h] at h; cases h
theorem itemB_ok {n : Nat} : ∀ (d : Nat) {x : Item}, Item.Ok n d x → itemB n (subX n d) x.D = true := by
  intro d
  induction d with
  | zero =>
    intro x o
    cases o with
    | go h1 h2 h3 => simp [Item.D, itemB, amongD, h1, h2, h3]
    | flip h => simp [Item.D, itemB, amongD]; omega
    | mark => simp [Item.D, itemB]
  | succ e ih =>
    intro x o
    cases o with
    | go h1 h2 h3 => simp [Item.D, itemB, amongD, h1, h2, h3]
    | flip h => simp [Item.D, itemB, amongD]; omega
    | mark => simp [Item.D, itemB]
    | again h1 h2 h3 =>
      rename_i t xs
      have hx : itemsX n e (itemsD xs) = true := by
        unfold itemsD
        rw [itemsX_tup, List.all_map, Bool.and_eq_true]
        refine ⟨by simpa using h2, ?_⟩
        rw [List.all_eq_true]
        intro y hy
        exact ih (h3 y hy)
      rw [again_D]
      simp [itemB, subX, hx, amongD]
      omega
theorem itemsX_ok {n d : Nat} {xs : List Item} (o : ItemsOk n d xs) : itemsX n d (itemsD xs) = true := by
  unfold itemsD
  rw [itemsX_tup, List.all_map, Bool.and_eq_true]
  refine ⟨by simpa using o.l, ?_⟩
  rw [List.all_eq_true]
  intro y hy
  exact itemB_ok d (o.o y hy)
open Classical in
noncomputable def scnX (s : Sky) (d : D) : Bool := decide (∃ xs, d = itemsD xs ∧ SceneOk s xs)
theorem scnX_iff {s : Sky} {d : D} : scnX s d = true ↔ ∃ xs, d = itemsD xs ∧ SceneOk s xs := by
  unfold scnX
  simp
theorem scnX_iff0 {s : Sky} {d : D} : scnX s d = false ↔ ¬ ∃ xs, d = itemsD xs ∧ SceneOk s xs := by
  rw [← scnX_iff]
  simp
theorem scnX_ok {s : Sky} {xs : List Item} (o : SceneOk s xs) : scnX s (itemsD xs) = true := scnX_iff.mpr ⟨xs, rfl, o⟩
theorem scnX_not {s : Sky} {d : D} (h : itemsX s.ls.length 3 d = false) : scnX s d = false := by
  rw [scnX_iff0]
  rintro ⟨xs, rfl, o⟩
  rw [itemsX_ok o.o] at h
  cases h
theorem size_det {n d e : Nat} {xs ys : List Item} (h : itemsD xs = itemsD ys) (o : ItemsOk n d xs) (o2 : ItemsOk n d ys) (hT : ∃ T, Has_size_of T) : sizeOf' xs = sizeOf' ys := by
  obtain ⟨T, hz⟩ := hT
  have h1 := p_size_of hz [] d 0 o
  have h2 := p_size_of hz [] d 0 o2
  rw [h, h2] at h1
  injection h1 with h1
  injection h1 with h1
  injection h1 with h1
  omega
theorem p_scene_byX (b : ScnT T) (k : Nat) (S : Sto) (s : Sky) (d : D) : callQ T (k + 11) "is_scene_by" [.d s.D, .d d] S = .ok (.d (.bool (scnX s d))) S := by
  rw [callQ_succ b.is_scene_by rfl rfl]
  have c := p_itemsX b.toBaseT b.is_item b.are_items S s 3 k d
  cases h : itemsX s.ls.length 3 d with
  | false =>
    rw [scnX_not h]
    rw [h] at c
    generalize s.D = G at *
    simp at c
    simp [P_is_scene_by, startQ, c]
  | true =>
    rw [h] at c
    obtain ⟨xs, rfl, o⟩ := itemsX_is h
    have c2 := p_size_of b.size_of S 3 (k + 6) o
    have e : scnX s (itemsD xs) = decide ((sizeOf' xs : Int) ≤ 100000000000) := by
      by_cases hz : sizeOf' xs ≤ 100000000000
      · rw [scnX_ok ⟨o, hz⟩, decide_eq_true (by omega)]
      · rw [decide_eq_false (by omega), scnX_iff0]
        rintro ⟨ys, e, o2⟩
        have := size_det (e := 0) e o o2.o ⟨T, b.size_of⟩
        have := o2.z
        omega
    rw [e]
    generalize itemsD xs = X at *
    generalize s.D = G at *
    simp at c c2
    simp [P_is_scene_by, startQ, c, c2]
end
end Q

namespace Q
open PySem PySem.Spec PyProof.Rows L2
/-- the least number of moments by which the rows are as they were: told by the law -/
def rotB (rows : List Int) (m : Nat) : Bool := decide (rows = rows.drop (m % rows.length) ++ rows.take (m % rows.length))
/-- 1, 2, .. up to the rows' number, those that turn -/
def turns (rows : List Int) : List Nat := ((List.range rows.length).map (1 + ·)).filter (rotB rows)
def Light.pq (l : Light) (w : Int) : Nat × Nat := (w.toNat / Nat.gcd w.toNat l.s.natAbs, (turns l.rows).headD 1)
def Sky.turn (s : Sky) : Nat := s.ls.foldl (fun r l => Nat.lcm (Nat.lcm r (l.pq s.w).1) (l.pq s.w).2) 1
end Q

namespace Q
open PySem PySem.Spec PyProof.Rows L2
section
variable {T : Tab}
end

end Q

namespace Q
open PySem PySem.Spec PyProof.Rows L2
section
variable {K : PySem.W.Frag} {mg : Str → Option Value} {F : Addr → Prop} {σ : L2.St} {env : EnvQ} {H H' : Hp} {S : Sto} {μ μ' : List Addr}
/-- an instance of the store changes -/
theorem Sim.storeIns (s : Sim K mg F σ H env S μ) {n : Nat} {a c dx : Addr} {C : String} {fvs fvs' : List (Str × V)} {fs fs' : List (Str × W)} (hn : μ[n]? = some a) (hS : S[n]? = some (.ins C fs)) (hc : mg (Str.ofString C) = some (.ref c)) (ha : H a = some (.ins c dx fvs))
    (hm : fvs'.map (·.1) = fs'.map (·.1)) (t : RWs K mg H (NN F μ σ env) μ (fvs'.map (·.2)) (fs'.map (·.2))) (pl : W.plains (fs'.map (·.2)) = true) :
    Sim K mg F σ (upd H a (.ins c dx fvs')) env (S.set n (.ins C fs')) μ ∧ Ext σ env H μ (upd H a (.ins c dx fvs')) μ := by
  have am : a ∈ μ := List.mem_of_getElem? hn
  have kp : Keep (MM μ σ env) H (MM μ σ env) (upd H a (.ins c dx fvs')) := fun b o nb q => by
    have ne : b ≠ a := fun z => nb (z ▸ .inl am)
    exact ⟨by rw [upd_ne ne]; exact q, nb⟩
  have ex : Ext σ env H μ (upd H a (.ins c dx fvs')) μ := ⟨kp, List.prefix_refl _⟩
  have kn := ex.nn F
  refine ⟨⟨s.len, fun i w e => ?_, s.fin, s.inj, s.apart, ⟨by simpa using s.st.len, s.st.nd, fun k ob e => ?_⟩, fun b f => ?_, s.fdis⟩, ex⟩
  · obtain ⟨v, hv, r⟩ := s.slot i w e
    refine ⟨v, hv, ?_⟩
    by_cases po : w.isOwn = true
    · obtain ⟨b, ob, rfl, hb, tb⟩ := own_or_plain r po
      have ne : b ≠ a := fun z => s.apart i b ⟨hv, _, e, po⟩ (z ▸ am)
      exact (tb.keep kn).rw (by rw [upd_ne ne]; exact hb)
    · have pl : w.plain = true := by
        have fi := s.fin i w e
        unfold W.fine at fi
        simpa [po] using fi
      exact RW.keep kn (List.prefix_refl _) r pl
  · rcases set_get e with ⟨z, y⟩ | ⟨nk, z⟩
    · subst z
      cases y
      exact ⟨a, hn, .ins hc upd_same hm (RWs.keep kn (List.prefix_refl _) t pl) pl⟩
    · obtain ⟨b, hb, r⟩ := s.st.obj k ob z
      have ne : b ≠ a := fun y => nk (nd_ix s.st.nd hb (y ▸ hn))
      refine ⟨b, hb, ?_⟩
      cases r with
      | lst h t' => exact .lst (by rw [upd_ne ne]; exact h) (t'.keep kn)
      | ins g h m t' pl => exact .ins g (by rw [upd_ne ne]; exact h) m (RWs.keep kn (List.prefix_refl _) t' pl) pl
      | dct h t' => exact .dct (by rw [upd_ne ne]; exact h) fun e he => (t' e he).keep kn
      | dcm h t' => exact .dcm (by rw [upd_ne ne]; exact h) (t'.keep kn)
      | tab h0 t' => exact .tab h0 (t'.keep (fun h => by rw [upd_ne ne]; exact h) kn)
  · obtain ⟨u, hu⟩ := s.ftr b f
    have ne : b ≠ a := fun z => s.fdis b f (.inl (z ▸ am))
    exact ⟨u, by rw [upd_ne ne]; exact hu⟩
/-- a new instance without fields -/
theorem Sim.allocIns (s : Sim K mg F σ H env S μ) {p c dx : Addr} {C : String} (hc : mg (Str.ofString C) = some (.ref c)) (n : H p = none) : Sim K mg F σ (upd H p (.ins c dx [])) env (S ++ [.ins C []]) (μ ++ [p]) ∧ Ext σ env H μ (upd H p (.ins c dx [])) (μ ++ [p]) := by
  have kp : Keep (MM μ σ env) H (MM (μ ++ [p]) σ env) (upd H p (.ins c dx [])) := fun a o na e => by
    have ne : a ≠ p := ne_of_none e n
    refine ⟨by rw [upd_ne ne]; exact e, fun h => ?_⟩
    rcases h with h | h
    · rcases List.mem_append.mp h with h | h
      · exact na (.inl h)
      · exact ne (by simpa using h)
    · exact na (.inr h)
  have ex : Ext σ env H μ (upd H p (.ins c dx [])) (μ ++ [p]) := ⟨kp, List.prefix_append _ _⟩
  have kn := ex.nn F
  have np : ∀ a, NN F μ σ env a → a ≠ p := fun a h z => s.fresh n (z ▸ h)
  refine ⟨⟨s.len, fun i w e => ?_, s.fin, s.inj, fun i a h m => ?_, ⟨?_, ?_, fun k ob e => ?_⟩, fun a f => ?_, fun a f h => ?_⟩, ex⟩
  · obtain ⟨v, hv, r⟩ := s.slot i w e
    refine ⟨v, hv, ?_⟩
    by_cases po : w.isOwn = true
    · obtain ⟨b, ob, rfl, hb, tb⟩ := own_or_plain r po
      exact (tb.keep kn).rw (by rw [upd_ne (ne_of_none hb n)]; exact hb)
    · have pl : w.plain = true := by
        have fi := s.fin i w e
        unfold W.fine at fi
        simpa [po] using fi
      exact RW.keep kn ex.pre r pl
  · rcases List.mem_append.mp m with m | m
    · exact s.apart i a h m
    · exact np a (.inl (.inr ⟨i, h⟩)) (by simpa using m)
  · rw [List.length_append, List.length_append, s.st.len]
    rfl
  · refine List.nodup_append.mpr ⟨s.st.nd, by simp, fun a h1 b h2 z => ?_⟩
    subst z
    exact np a (.inl (.inl h1)) (by simpa using h2)
  · by_cases hk : k < S.length
    · rw [List.getElem?_append_left hk] at e
      obtain ⟨a, ha, r⟩ := s.st.obj k ob e
      have hkm : k < μ.length := by rw [s.st.len]; exact hk
      have ne : a ≠ p := np a (.inl (.inl (List.mem_of_getElem? ha)))
      refine ⟨a, by rw [List.getElem?_append_left hkm]; exact ha, ?_⟩
      cases r with
      | lst h t' => exact .lst (by rw [upd_ne ne]; exact h) (t'.keep kn)
      | ins g h m t' pl => exact .ins g (by rw [upd_ne ne]; exact h) m (RWs.keep kn ex.pre t' pl) pl
      | dct h t' => exact .dct (by rw [upd_ne ne]; exact h) fun e he => (t' e he).keep kn
      | dcm h t' => exact .dcm (by rw [upd_ne ne]; exact h) (t'.keep kn)
      | tab h0 t' => exact .tab h0 (t'.keep (fun h => by rw [upd_ne ne]; exact h) kn)
    · have : k = S.length := by
        have := (List.getElem?_eq_some_iff.mp e).1
        rw [List.length_append, List.length_singleton] at this
        omega
      subst this
      rw [List.getElem?_append_right (Nat.le_refl _)] at e
      simp at e
      subst e
      exact ⟨p, by rw [← s.st.len, List.getElem?_append_right (Nat.le_refl _)]; simp, .ins hc upd_same rfl .nil rfl⟩
  · obtain ⟨u, hu⟩ := s.ftr a f
    exact ⟨u, by rw [upd_ne (np a (.inr f))]; exact hu⟩
  · rcases h with h | h
    · rcases List.mem_append.mp h with h | h
      · exact s.fdis a f (.inl h)
      · exact np a (.inr f) (by simpa using h)
    · exact s.fdis a f (.inr h)
end
section
variable {X : Cx} {cf : CF} {EX : WX} {o e value : Expr} {es : List Expr} {fo fe : SE} {ha : SA} {pos p apos : Pos} {C f m x : String} {k n : Nat}
end
end Q

namespace Q
open PySem PySem.Spec PyProof.Rows L2
/-- a method: the instance, then the arguments -/
def fMeth (C m : String) (n : Nat) (o : SE) (a : SA) : SE := fun cf env S => (o cf env S).bind fun w S1 => match w with
  | .ref i => (match S1[i]? with
    | some (.ins C' fs) => if C' = C ∧ fs.lookup (Str.ofString m) = none then (a cf env S1).bind fun ws S2 => arity n (.ref i :: ws) (cf (C ++ "." ++ m) (.ref i :: ws) S2) else .stuck
    | _ => .stuck)
  | _ => .stuck
section
variable {X : Cx} {cf : CF} {EX : WX} {o e value : Expr} {es : List Expr} {fo fe fv : SE} {ha : SA} {pos p apos : Pos} {C f m x : String} {k n : Nat}
section
variable {fa : Addr} {fd : FuncData} {ps : List Str} {sp : Sp} {ta : TE} {t : TA} {c : Addr} {m : Str}
end
section
variable {f : Addr} {fd : FuncData} {ps : List Str} {sp : Sp} {t : TA} {C : Addr} {x : Str}
end
end
end Q

namespace Q
open PySem PySem.Spec PyProof.Rows L2
section
variable {P : Program} {w : World} {K : PySem.W.Frag} {mg : Str → Option Value} {base : Heap} {T : Tab} {k : Nat}
variable {C m y z : String} {params : Arguments} {body : List Stmt} {scope : Scope} {N ps : List Str} {f : Addr} {fd : FuncData} {D : FD}
end
section
variable {X : Cx} {cf : CF} {EX : WX} {e : Expr} {es : List Expr} {fa : SE} {pos p : Pos}
end
end Q

namespace Q
open PySem PySem.Spec PyProof.Rows L2
def insF (a c r b p : W) : List (Str × W) := [(Str.ofString "sky", a), (Str.ofString "show", c), (Str.ofString "row", r), (Str.ofString "behind", b), (Str.ofString "past", p)]
section
variable {a c r b p w : W}
end
abbrev Row := List (List Item × Nat)
def playD (p : List Item × Nat) : D := .tuple [itemsD p.1, .int (p.2 : Int)]
def prowD (r : Row) : D := .tuple (r.map playD)
def pastD (p : Row × Nat) : D := .tuple [prowD p.1, .int (p.2 : Int)]
/-- the first so many beats of a row -/
def frB : Row → Int → Row
  | [], _ => []
  | (x, m) :: r, b => if 0 < b then (x, (if (m : Int) ≤ b then m else b.toNat)) :: frB r (b - m) else frB r b
structure RowOk (s : Sky) (r : Row) : Prop where
  sc : ∀ p ∈ r, SceneOk s p.1
  sz : ∀ p ∈ r, p.2 ≤ sizeOf' p.1
  len : r.length ≤ 100
/-- an instance in the store -/
structure ShAt (S : Sto) (i p : Nat) (s : Sky) (h : Show) (r : Row) (b : Nat) (ps : List (Row × Nat)) : Prop where
  ne : i ≠ p
  o : S[i]? = some (.ins "Showing" (insF (.d s.D) (.d h.D) (.d (prowD r)) (.d (.int (b : Int))) (.ref p)))
  l : S[p]? = some (.lst (ps.map pastD))
/-- but for these as it was -/
def Off (S S' : Sto) (is : List Nat) : Prop := S.length ≤ S'.length ∧ ∀ j, j < S.length → j ∉ is → S'[j]? = S[j]?
theorem Off.refl (S : Sto) (is : List Nat) : Off S S is := ⟨Nat.le_refl _, fun _ _ _ => rfl⟩
theorem Off.trans {S S1 S2 : Sto} {is : List Nat} (a : Off S S1 is) (b : Off S1 S2 is) : Off S S2 is := ⟨Nat.le_trans a.1 b.1, fun j hj h => (b.2 j (Nat.lt_of_lt_of_le hj a.1) h).trans (a.2 j hj h)⟩
theorem Off.mono {S S' : Sto} {is js : List Nat} (a : Off S S' is) (h : ∀ i ∈ is, i ∈ js ∨ S.length ≤ i) : Off S S' js := ⟨a.1, fun j hj hn => a.2 j hj fun m => (h j m).elim hn fun q => Nat.lt_irrefl _ (Nat.lt_of_lt_of_le hj q)⟩
theorem ShAt.off {S S' : Sto} {i p : Nat} {s : Sky} {h : Show} {r : Row} {b : Nat} {ps : List (Row × Nat)} (a : ShAt S i p s h r b ps) {is : List Nat} (f : Off S S' is) (hi : i ∉ is) (hp : p ∉ is) : ShAt S' i p s h r b ps :=
  ⟨a.ne, by rw [f.2 i (List.getElem?_eq_some_iff.mp a.o).1 hi]; exact a.o, by rw [f.2 p (List.getElem?_eq_some_iff.mp a.l).1 hp]; exact a.l⟩
section
variable {T : Tab} {S : Sto} {i p : Nat} {s : Sky} {h : Show} {r : Row} {b : Nat} {ps : List (Row × Nat)} {cf : CF} {env : EnvQ} {fo : SE}
theorem frB_len : ∀ (r : Row) (b : Int), (frB r b).length ≤ r.length
  | [], _ => Nat.le_refl _
  | (x, m) :: r, b => by
    unfold frB
    split
    · simpa using frB_len r _
    · have := frB_len r b
      simp only [List.length_cons]
      omega
theorem frB_mem : ∀ {r : Row} {b : Int} {q : List Item × Nat}, q ∈ frB r b → ∃ p ∈ r, p.1 = q.1 ∧ q.2 ≤ p.2
  | [], _, _, h => by simp [frB] at h
  | (x, m) :: r, b, q, h => by
    unfold frB at h
    split at h
    · rename_i hb
      rcases List.mem_cons.mp h with rfl | h
      · refine ⟨(x, m), by simp, rfl, ?_⟩
        simp only
        split <;> omega
      · obtain ⟨p, hp, e⟩ := frB_mem h
        exact ⟨p, by simp [hp], e⟩
    · obtain ⟨p, hp, e⟩ := frB_mem h
      exact ⟨p, by simp [hp], e⟩
theorem RowOk.first {s : Sky} {r : Row} (o : RowOk s r) (b : Int) : RowOk s (frB r b) where
  sc := fun q hq => by
    obtain ⟨p, hp, e1, e2⟩ := frB_mem hq
    rw [← e1]
    exact o.sc p hp
  sz := fun q hq => by
    obtain ⟨p, hp, e1, e2⟩ := frB_mem hq
    rw [← e1]
    exact Nat.le_trans e2 (o.sz p hp)
  len := Nat.le_trans (frB_len _ _) o.len
end
end Q

namespace Q
open PySem PySem.Spec PyProof.Rows L2
/-- a pen in a store that is O but for the pen -/
def PenO (O S : Sto) (n B : Nat) : Prop := Pen S n B ∧ Off O S [n] ∧ n < O.length
theorem PenO.mono {O S : Sto} {n B C : Nat} (h : PenO O S n B) (q : B ≤ C) : PenO O S n C := ⟨h.1.mono q, h.2⟩
theorem Pen.lt {S : Sto} {n B : Nat} (h : Pen S n B) : n < S.length := by
  obtain ⟨_, _, _, e, _⟩ := h
  exact (List.getElem?_eq_some_iff.mp e).1
theorem PenO.start {S : Sto} {n B : Nat} (h : Pen S n B) : PenO S S n B := ⟨h, Off.refl _ _, h.lt⟩
theorem Pen.off {S S' : Sto} {n B : Nat} (h : Pen S n B) {is : List Nat} (f : Off S S' is) (hn : n ∉ is) : Pen S' n B := by
  have l := h.lt
  obtain ⟨a, b, c, e, q⟩ := h
  exact ⟨a, b, c, by rw [f.2 n l hn]; exact e, q⟩
section
variable {T : Tab} {O : Sto}
theorem o_draw (bb : DrawT T) (k : Nat) {n B : Nat} {m : Int} {S : Sto} (h : PenO O S n B) (hB : B < 1000000) (h0 : 0 < m) (hm : m < 18446744073709551616) : ∃ r S', callQ T (k + 1) "_law_draw" [.ref n, .d (.int m)] S = .ok (.d (.int r)) S' ∧ 0 ≤ r ∧ r < m ∧ PenO O S' n (B + 1) := by
  obtain ⟨r, S', e, h1, h2, p, o, rfl⟩ := n_drawS bb k h.1 hB h0 hm
  refine ⟨r, _, e, h1, h2, p, h.2.1.trans ⟨by simp, fun j hj hn => ?_⟩, h.2.2⟩
  simp only [List.mem_singleton] at hn
  rw [List.getElem?_set_ne (fun z => hn z.symm)]
theorem o_go (bb : ItemsZ T) (k : Nat) {n B nl : Nat} {S : Sto} (h : PenO O S n B) (hB : B < 900000) : ∃ x S', Item.Ok nl 0 x ∧ callQ T (k + 2) "_law_go" [.ref n] S = .ok (.d x.D) S' ∧ PenO O S' n (B + 4) := by
  obtain ⟨r1, S1, e1, a1, b1, p1⟩ := o_draw bb.toDrawT k (m := 3) h (by omega) (by omega) (by omega)
  have hf : ∃ f : Int, atI [PyData.int 2, .int 5, .int 99] r1 = some (.int f) ∧ 2 ≤ f ∧ f ≤ 99 := by
    have : r1 = 0 ∨ r1 = 1 ∨ r1 = 2 := by omega
    rcases this with rfl | rfl | rfl
    · exact ⟨2, by simp, by omega, by omega⟩
    · exact ⟨5, by simp, by omega, by omega⟩
    · exact ⟨99, by simp, by omega, by omega⟩
  obtain ⟨f, hf, f0, f1⟩ := hf
  obtain ⟨r2, S2, e2, a2, b2, p2⟩ := o_draw bb.toDrawT k (m := 2 * f + 1) p1 (by omega) (by omega) (by omega)
  obtain ⟨r3, S3, e3, a3, b3, p3⟩ := o_draw bb.toDrawT k (m := 2 * f + 1) p2 (by omega) (by omega) (by omega)
  obtain ⟨r4, S4, e4, a4, b4, p4⟩ := o_draw bb.toDrawT k (m := 6) p3 (by omega) (by omega) (by omega)
  have hg : ∃ g : Int, atI [PyData.int 0, .int 0, .int 1, .int (-1), .int 2, .int (-3)] r4 = some (.int g) ∧ -3 ≤ g ∧ g ≤ 2 := by
    have : r4 = 0 ∨ r4 = 1 ∨ r4 = 2 ∨ r4 = 3 ∨ r4 = 4 ∨ r4 = 5 := by omega
    rcases this with rfl | rfl | rfl | rfl | rfl | rfl
    · exact ⟨0, by simp, by omega, by omega⟩
    · exact ⟨0, by simp, by omega, by omega⟩
    · exact ⟨1, by simp, by omega, by omega⟩
    · exact ⟨-1, by simp, by omega, by omega⟩
    · exact ⟨2, rfl, by omega, by omega⟩
    · exact ⟨-3, rfl, by omega, by omega⟩
  obtain ⟨g, hg, g0, g1⟩ := hg
  refine ⟨.go (r2 - f) (r3 - f) g, S4, .go (by omega) (by omega) (by omega), ?_, p4⟩
  rw [callQ_succ bb.go rfl rfl]
  have s2 : sm 2 = true := by decide
  simp [Z_go, startQ, e1, hf, e2, e3, e4, hg, s2, LIM, Item.D]
theorem o_items (bb : ItemsZ T) {n : Nat} {s : Sky} (hs : 1 ≤ s.ls.length) (hs6 : s.ls.length ≤ 6) : ∀ (d k : Nat) {B : Nat} {S : Sto} (most : Nat), PenO O S n B → B + 20 * itCost d < 900000 → most ≤ 8 →
    ∃ xs S', ItemsOk s.ls.length d xs ∧ xs.length ≤ most ∧ (∀ x ∈ xs, Item.Sm d x) ∧ callQ T (k + d + 3) "_law_items" [.ref n, .d s.D, .d (.int (most : Int)), .d (.int (d : Int))] S = .ok (.d (itemsD xs)) S' ∧ PenO O S' n (B + 1 + most * itCost d) := by
  have q2 : ∀ S, gAt (.d s.D) (.d (.int 2)) S = .ok (.d (.tuple (s.ls.map Light.D))) S := fun _ => rfl
  intro d
  induction d with
  | zero =>
    intro k B S most h hB hm
    obtain ⟨c, S1, e1, c0, c1, p1⟩ := o_draw bb.toDrawT (k + 1) (m := (most : Int) + 1) h (by omega) (by omega) (by omega)
    have loop := forL_inv0 (t := .name 5) (body := ZB_items_1 (callQ T (k + 2))) (ds := rangeD 0 c.toNat) (env := [some (.ref n), some (.d s.D), some (.d (.int (most : Int))), some (.d (.int 0)), some (.own []), none, none]) (S := S1)
      (fun i env S' => ∃ (xs : List Item) (e5 e6 : Option W), env = [some (.ref n), some (.d s.D), some (.d (.int (most : Int))), some (.d (.int 0)), some (.own (xs.map Item.D)), e5, e6] ∧ xs.length = i ∧ (∀ x ∈ xs, Item.Ok s.ls.length 0 x) ∧ PenO O S' n (B + 1 + i * 6) ∧ i ≤ 8) ⟨[], none, none, rfl, rfl, by simp, by simpa using p1, by omega⟩ (by
      rintro i dd env S' hd ⟨xs, e5, e6, rfl, rfl, hxs, pe, hi8⟩
      obtain ⟨hi, rfl⟩ := rangeD_get hd
      simp only [itCost] at hB
      obtain ⟨w, T1, f1, a1, b1, t1⟩ := o_draw bb.toDrawT (k + 1) (m := 8) pe (by omega) (by omega) (by omega)
      have hl1 : xs.length < 16777216 := by omega
      have fin : ∀ (x : Item) (S2 : Sto) (e6' : Option W), Item.Ok s.ls.length 0 x → PenO O S2 n (B + 1 + (xs.length + 1) * 6) → ZB_items_1 (callQ T (k + 2)) [some (.ref n), some (.d s.D), some (.d (.int (most : Int))), some (.d (.int 0)), some (.own (xs.map Item.D)), some (.d (.int (0 + (xs.length : Int)))), e6] S' = .next [some (.ref n), some (.d s.D), some (.d (.int (most : Int))), some (.d (.int 0)), some (.own ((xs ++ [x]).map Item.D)), some (.d (.int (0 + (xs.length : Int)))), e6'] S2 →
          ∃ env1 env2 S2, (Tg.name 5).set (.int (0 + (xs.length : Int))) [some (.ref n), some (.d s.D), some (.d (.int (most : Int))), some (.d (.int 0)), some (.own (xs.map Item.D)), e5, e6] = some env1 ∧ (ZB_items_1 (callQ T (k + 2)) env1 S' = .next env2 S2 ∨ ZB_items_1 (callQ T (k + 2)) env1 S' = .cont env2 S2) ∧ ∃ (ys : List Item) (e5 e6 : Option W), env2 = [some (.ref n), some (.d s.D), some (.d (.int (most : Int))), some (.d (.int 0)), some (.own (ys.map Item.D)), e5, e6] ∧ ys.length = xs.length + 1 ∧ (∀ x ∈ ys, Item.Ok s.ls.length 0 x) ∧ PenO O S2 n (B + 1 + (xs.length + 1) * 6) ∧ xs.length + 1 ≤ 8 := by
        intro x S2 e6' ox p e
        refine ⟨_, _, S2, rfl, .inl e, xs ++ [x], _, _, rfl, by simp, fun y hy => ?_, p, by omega⟩
        rcases List.mem_append.mp hy with hy | hy
        · exact hxs y hy
        · simp at hy; subst hy; exact ox
      by_cases h4 : w < 4
      · obtain ⟨x, T2, ox, f2, t2⟩ := o_go bb k (nl := s.ls.length) t1 (by omega)
        refine fin x T2 (some (.d (.int w))) ox (t2.mono (by omega)) ?_
        simp [ZB_items_1, f1, h4, f2, LIM, hl1]
      · by_cases h44 : w = 4
        · subst h44
          obtain ⟨r, T2, f2, a2, b2, t2⟩ := o_draw bb.toDrawT (k + 1) (m := (s.ls.length : Int)) t1 (by omega) (by omega) (by omega)
          refine fin (.flip r.toNat) T2 (some (.d (.int 4))) (.flip (by omega)) (t2.mono (by omega)) ?_
          have hr : ((r.toNat : Nat) : Int) = r := by omega
          have q := q2
          generalize s.D = G at *
          simp [ZB_items_1, f1, q, f2, LIM, hl1, Item.D, hr]
        · refine fin .mark T1 (some (.d (.int w))) .mark (t1.mono (by omega)) ?_
          simp [ZB_items_1, f1, h4, h44, LIM, hl1, Item.D])
    obtain ⟨env', S2, e2, xs, e5, e6, rfl, hlen, hxs, p2, h8⟩ := loop
    rw [rangeD_len] at hlen p2 h8
    have hc : c.toNat ≤ most := by omega
    refine ⟨xs, S2, ⟨by omega, hxs⟩, by omega, fun x hx => (hxs x hx).sm0, ?_, p2.mono (by simp only [itCost]; omega)⟩
    have hr : inR c = true := inR_of (by omega) (by omega)
    have e0 : itemsD xs = .tuple (xs.map Item.D) := rfl
    rw [callQ_succ bb.items rfl rfl]
    simp [Z_items, startQ, LIM, e1, hr, e2, e0]
  | succ d ih =>
    intro k B S most h hB hm
    obtain ⟨c, S1, e1, c0, c1, p1⟩ := o_draw bb.toDrawT (k + d + 2) (m := (most : Int) + 1) h (by omega) (by omega) (by omega)
    have hd1 : ((d + 1 : Nat) : Int) = (d : Int) + 1 := by omega
    have loop := forL_inv0 (t := .name 5) (body := ZB_items_1 (callQ T (k + d + 3))) (ds := rangeD 0 c.toNat) (env := [some (.ref n), some (.d s.D), some (.d (.int (most : Int))), some (.d (.int ((d : Int) + 1))), some (.own []), none, none]) (S := S1)
      (fun i env S' => ∃ (xs : List Item) (e5 e6 : Option W), env = [some (.ref n), some (.d s.D), some (.d (.int (most : Int))), some (.d (.int ((d : Int) + 1))), some (.own (xs.map Item.D)), e5, e6] ∧ xs.length = i ∧ (∀ x ∈ xs, Item.Ok s.ls.length (d + 1) x ∧ Item.Sm (d + 1) x) ∧ PenO O S' n (B + 1 + i * itCost (d + 1)) ∧ i ≤ 8) ⟨[], none, none, rfl, rfl, by simp, by simpa using p1, by omega⟩ (by
      rintro i dd env S' hd ⟨xs, e5, e6, rfl, rfl, hxs, pe, hi8⟩
      obtain ⟨hi, rfl⟩ := rangeD_get hd
      have hmul : xs.length * itCost (d + 1) ≤ 8 * itCost (d + 1) := Nat.mul_le_mul_right _ hi8
      obtain ⟨w, T1, f1, a1, b1, t1⟩ := o_draw bb.toDrawT (k + d + 2) (m := 8) pe (by omega) (by omega) (by omega)
      have hl1 : xs.length < 16777216 := by omega
      have hic := itCost_ge d
      have hsucc : (xs.length + 1) * itCost (d + 1) = xs.length * itCost (d + 1) + (4 + 2 * itCost d) := by rw [Nat.succ_mul]; rfl
      have hB' : B + 20 * (4 + 2 * itCost d) < 900000 := hB
      have hC : itCost (d + 1) = 4 + 2 * itCost d := rfl
      have fin : ∀ (x : Item) (S2 : Sto) (e6' : Option W), Item.Ok s.ls.length (d + 1) x → Item.Sm (d + 1) x → PenO O S2 n (B + 1 + (xs.length + 1) * itCost (d + 1)) → ZB_items_1 (callQ T (k + d + 3)) [some (.ref n), some (.d s.D), some (.d (.int (most : Int))), some (.d (.int ((d : Int) + 1))), some (.own (xs.map Item.D)), some (.d (.int (0 + (xs.length : Int)))), e6] S' = .next [some (.ref n), some (.d s.D), some (.d (.int (most : Int))), some (.d (.int ((d : Int) + 1))), some (.own ((xs ++ [x]).map Item.D)), some (.d (.int (0 + (xs.length : Int)))), e6'] S2 →
          ∃ env1 env2 S2, (Tg.name 5).set (.int (0 + (xs.length : Int))) [some (.ref n), some (.d s.D), some (.d (.int (most : Int))), some (.d (.int ((d : Int) + 1))), some (.own (xs.map Item.D)), e5, e6] = some env1 ∧ (ZB_items_1 (callQ T (k + d + 3)) env1 S' = .next env2 S2 ∨ ZB_items_1 (callQ T (k + d + 3)) env1 S' = .cont env2 S2) ∧ ∃ (ys : List Item) (e5 e6 : Option W), env2 = [some (.ref n), some (.d s.D), some (.d (.int (most : Int))), some (.d (.int ((d : Int) + 1))), some (.own (ys.map Item.D)), e5, e6] ∧ ys.length = xs.length + 1 ∧ (∀ x ∈ ys, Item.Ok s.ls.length (d + 1) x ∧ Item.Sm (d + 1) x) ∧ PenO O S2 n (B + 1 + (xs.length + 1) * itCost (d + 1)) ∧ xs.length + 1 ≤ 8 := by
        intro x S2 e6' ox os p e
        refine ⟨_, _, S2, rfl, .inl e, xs ++ [x], _, _, rfl, by simp, fun y hy => ?_, p, by omega⟩
        rcases List.mem_append.mp hy with hy | hy
        · exact hxs y hy
        · simp at hy; subst hy; exact ⟨ox, os⟩
      by_cases h4 : w < 4
      · obtain ⟨x, T2, ox, f2, t2⟩ := o_go bb (k + d + 1) (nl := s.ls.length) t1 (by omega)
        refine fin x T2 (some (.d (.int w))) ox.up ox.sm0 (t2.mono (by omega)) ?_
        simp [ZB_items_1, f1, h4, f2, LIM, hl1]
      · by_cases h44 : w = 4
        · subst h44
          obtain ⟨r, T2, f2, a2, b2, t2⟩ := o_draw bb.toDrawT (k + d + 2) (m := (s.ls.length : Int)) t1 (by omega) (by omega) (by omega)
          refine fin (.flip r.toNat) T2 (some (.d (.int 4))) (.flip (by omega)) .flip (t2.mono (by omega)) ?_
          have hr : ((r.toNat : Nat) : Int) = r := by omega
          have q := q2
          generalize s.D = G at *
          simp [ZB_items_1, f1, q, f2, LIM, hl1, Item.D, hr]
        · by_cases h5 : w = 5
          · subst h5
            refine fin .mark T1 (some (.d (.int 5))) .mark .mark (t1.mono (by omega)) ?_
            simp [ZB_items_1, f1, LIM, hl1, Item.D]
          · obtain ⟨r, T2, f2, a2, b2, t2⟩ := o_draw bb.toDrawT (k + d + 2) (m := 4) t1 (by omega) (by omega) (by omega)
            obtain ⟨ys, T3, oy, ly, sy, f3, t3⟩ := ih k 2 t2 (by omega) (by omega)
            refine fin (.again r.toNat ys) T3 (some (.d (.int w))) (.again (by omega) oy.l oy.o) (.again (by omega) ly sy) (t3.mono (by omega)) ?_
            have hr : ((r.toNat : Nat) : Int) = r := by omega
            have hdd : ¬ ((d : Int) + 1 = 0) := by omega
            have hsub : (d : Int) + 1 - 1 = (d : Int) := by omega
            rw [List.map_append, List.map_cons, again_D, hr]
            simp at f3
            simp [ZB_items_1, f1, h4, h44, h5, f2, hdd, hsub, f3, LIM, hl1])
    obtain ⟨env', S2, e2, xs, e5, e6, rfl, hlen, hxs, p2, h8⟩ := loop
    rw [rangeD_len] at hlen p2 h8
    have hc : c.toNat ≤ most := by omega
    have hmm : c.toNat * itCost (d + 1) ≤ most * itCost (d + 1) := Nat.mul_le_mul_right _ hc
    refine ⟨xs, S2, ⟨by omega, fun x hx => (hxs x hx).1⟩, by omega, fun x hx => (hxs x hx).2, ?_, p2.mono (by omega)⟩
    have hr : inR c = true := inR_of (by omega) (by omega)
    have e0 : itemsD xs = .tuple (xs.map Item.D) := rfl
    have ea : k + (d + 1) + 3 = k + d + 3 + 1 := by omega
    rw [ea, callQ_succ bb.items rfl rfl, hd1]
    simp [Z_items, startQ, LIM, e1, hr, e2, e0]
end
end Q

namespace Q
open PySem PySem.Spec PyProof.Rows L2
section
variable {T : Tab} {O : Sto}
theorem o_skyZ (d0 : DrawT T) (hsky : HasZ_sky T) (k : Nat) {n B : Nat} {S : Sto} (h : PenO O S n B) (hB : B < 900000) {most : Int} (m0 : 1 ≤ most) (m1 : most ≤ 6) : ∃ s S', Sky.Ok s ∧ (s.ls.length : Int) ≤ most ∧ callQ T (k + 2) "_law_sky" [.ref n, .d (.int most)] S = .ok (.d s.D) S' ∧ PenO O S' n (B + 100) := by
  obtain ⟨w, S1, e1, w0, w1, p1⟩ := o_draw d0 k (m := 9) h (by omega) (by omega) (by omega)
  obtain ⟨hh, S2, e2, h0, h1, p2⟩ := o_draw d0 k (m := 5) p1 (by omega) (by omega) (by omega)
  obtain ⟨c, S3, e3, c0, c1, p3⟩ := o_draw d0 k (m := most) p2 (by omega) (by omega) (by omega)
  have loop := forL_inv0 (t := .name 5) (body := ZB_sky_2 (callQ T (k + 1))) (ds := rangeD 0 (1 + c).toNat) (env := [some (.ref n), some (.d (.int most)), some (.d (.int (4 + w))), some (.d (.int (1 + hh))), some (.own []), none, none, none]) (S := S3)
    (fun i env S' => ∃ (ls : List Light) (e5 e6 : Option W), env = [some (.ref n), some (.d (.int most)), some (.d (.int (4 + w))), some (.d (.int (1 + hh))), some (.own (ls.map Light.D)), e5, e6, none] ∧ ls.length = i ∧ (∀ l ∈ ls, l.Ok (4 + w) (1 + hh)) ∧ PenO O S' n (B + 3 + 10 * i) ∧ i ≤ 6) ⟨[], none, none, rfl, rfl, by simp, p3, by omega⟩ (by
    rintro i d env S' hd ⟨ls, e5, e6, rfl, rfl, hls, pe, hi6⟩
    obtain ⟨hi, rfl⟩ := rangeD_get hd
    obtain ⟨r4, T4, f4, a4, b4, q4⟩ := o_draw d0 k (m := 4) pe (by omega) (by omega) (by omega)
    have hc := compL_stI (i := 7) (f := ZC_sky_1 (callQ T (k + 1))) (c := cYes (callQ T (k + 1))) (env := [some (.ref n), some (.d (.int most)), some (.d (.int (4 + w))), some (.d (.int (1 + hh))), some (.own (ls.map Light.D)), some (.d (.int (0 + ls.length))), e6, none]) (fun j S => PenO O S n (B + 3 + 10 * ls.length + 1 + j)) (fun d => ∃ t : Int, d = .int t ∧ 0 ≤ t ∧ t < 1 + hh) (ds := rangeD 0 (1 + r4).toNat) (fun d S => rfl) q4 (by
      intro j d S hd pj
      obtain ⟨hj, rfl⟩ := rangeD_get hd
      obtain ⟨r, S', f, a, b, q⟩ := o_draw d0 k (m := 1 + hh) pj (by omega) (by omega) (by omega)
      exact ⟨.int r, S', by simp [ZC_sky_1, f], q, r, rfl, a, b⟩)
    obtain ⟨xs, T5, f5, q5, l5, g5⟩ := hc
    obtain ⟨ts, rfl, hts⟩ := ints_ofP g5
    rw [rangeD_len] at q5 l5
    obtain ⟨r6, T6, f6, a6, b6, q6⟩ := o_draw d0 k (m := 4 + w) q5 (by omega) (by omega) (by omega)
    obtain ⟨r7, T7, f7, a7, b7, q7⟩ := o_draw d0 k (m := 19) q6 (by omega) (by omega) (by omega)
    have htl : ts.length = (1 + r4).toNat := by simpa using l5
    have ok : Light.Ok (Light.mk r6 (r7 - 9) ts) (4 + w) (1 + hh) := ⟨a6, b6, by simp only; omega, by simp only; omega, by simp only; omega, by simp only; omega, hts⟩
    refine ⟨_, [some (.ref n), some (.d (.int most)), some (.d (.int (4 + w))), some (.d (.int (1 + hh))), some (.own ((ls ++ [Light.mk r6 (r7 - 9) ts]).map Light.D)), some (.d (.int (0 + ls.length))), some (.d (.tuple (ts.map PyData.int))), none], T7, rfl, .inl ?_, ls ++ [Light.mk r6 (r7 - 9) ts], _, _, rfl, by simp, fun l hl => ?_, q7.mono (by omega), by omega⟩
    · have hr : inR (1 + r4) = true := inR_of (by omega) (by omega)
      have hl1 : ls.length < 16777216 := by omega
      have hl2 : ts.length ≤ 16777216 := by omega
      simp at f5
      simp [ZB_sky_2, f4, hr, notOwn, f5, f6, f7, LIM, hl1, hl2, Light.D]
    · rcases List.mem_append.mp hl with hl | hl
      · exact hls l hl
      · simp at hl
        subst hl
        exact ok)
  obtain ⟨env', S', e4, ls, f5, f6, rfl, hlen, hls, p4, h6⟩ := loop
  rw [rangeD_len] at hlen p4 h6
  have ok : Sky.Ok ⟨4 + w, 1 + hh, ls⟩ := ⟨by simp only; omega, by simp only; omega, by simp only; omega, by simp only; omega, by simp only; omega, by simp only; omega, hls⟩
  refine ⟨⟨4 + w, 1 + hh, ls⟩, S', ok, by simp only; omega, ?_, p4.mono (by omega)⟩
  have hr : inR (1 + c) = true := inR_of (by omega) (by omega)
  rw [callQ_succ hsky rfl rfl]
  simp [Z_sky, startQ, e1, e2, e3, hr, e4, LIM, Sky.D]
end
def itW : Nat → Nat
  | 0 => 5
  | d + 1 => 4 + 2 * itW d
theorem itW_ge : ∀ d, 5 ≤ itW d
  | 0 => Nat.le_refl _
  | d + 1 => by have := itW_ge d; simp only [itW]; omega
theorem items_bts {d : Nat} : ∀ {xs : List Item}, (∀ x ∈ xs, Bt OB (itW d) (2 * d + 1) x.D) → Bts OB (xs.length * itW d) (2 * d + 1) (xs.map Item.D)
  | [], _ => Bts.nil.mono (Nat.le_refl _) (by omega) (Nat.le_refl _)
  | x :: xs, o => by
    have h1 : Bts OB (xs.length * itW d) (2 * d + 1) (xs.map Item.D) := items_bts fun y hy => o y (List.mem_cons_of_mem _ hy)
    exact (Bts.cons (o x List.mem_cons_self) h1).mono (Nat.le_refl _) (by simp only [List.length_cons, Nat.succ_mul]; omega) (Nat.le_refl _)
theorem item_bt {n : Nat} (hn : n ≤ 6) : ∀ (d : Nat) {x : Item}, Item.Ok n d x → Item.Sm d x → Bt OB (itW d) (2 * d + 1) x.D := by
  have i0 : ∀ (d : Nat) {i : Int}, i.natAbs ≤ 1000000 → Bt OB 1 (2 * d) (.int i) := fun d i h => (bt_int (by unfold OB; omega)).mono (Nat.le_refl _) (Nat.le_refl _) (by omega)
  have s0 : ∀ (d : Nat) {t : Str}, strFine t = true → Bt OB 1 (2 * d) (.str t) := fun d t h => (bt_str OB h).mono (Nat.le_refl _) (Nat.le_refl _) (by omega)
  have lone : ∀ (d : Nat) {x : Item}, Item.Ok n d x → (∀ t ys, x ≠ .again t ys) → Bt OB (itW d) (2 * d + 1) x.D := by
    intro d x o h
    have := itW_ge d
    cases o with
    | go h1 h2 h3 => exact (Bt.tup (Bts.cons (s0 d (by decide +kernel)) (Bts.cons (i0 d (by omega)) (Bts.cons (i0 d (by omega)) (Bts.one (i0 d (by omega))))))).mono (Nat.le_refl _) (by omega) (Nat.le_refl _)
    | flip h => exact (Bt.tup (Bts.cons (s0 d (by decide +kernel)) (Bts.one (i0 d (by omega))))).mono (Nat.le_refl _) (by omega) (Nat.le_refl _)
    | mark => exact (Bt.tup (Bts.one (s0 d (by decide +kernel)))).mono (Nat.le_refl _) (by omega) (Nat.le_refl _)
    | again => exact absurd rfl (h _ _)
  intro d
  induction d with
  | zero =>
    intro x o m
    exact lone 0 o fun t ys e => by subst e; exact nomatch o
  | succ d ih =>
    intro x o m
    cases x with
    | again t ys =>
      cases o with
      | again h1 h2 h3 => cases m with
        | again m1 m2 m3 =>
          have hb := items_bts (d := d) (xs := ys) fun y hy => ih (h3 y hy) (m3 y hy)
          rw [again_D]
          have ht : Bt OB (2 * itW d + 1) (2 * d + 2) (itemsD ys) := (Bt.tup hb).mono (Nat.le_refl _) (by have := Nat.mul_le_mul_right (itW d) m2; omega) (by omega)
          have s1 : Bt OB 1 (2 * d + 2) (.str "again") := (bt_str OB (by decide +kernel)).mono (Nat.le_refl _) (Nat.le_refl _) (by omega)
          have i1 : Bt OB 1 (2 * d + 2) (.int (t : Int)) := (bt_int (by unfold OB; omega)).mono (Nat.le_refl _) (Nat.le_refl _) (by omega)
          exact (Bt.tup (Bts.cons s1 (Bts.cons i1 (Bts.one ht)))).mono (Nat.le_refl _) (by simp only [itW]; omega) (by omega)
    | go => exact lone (d + 1) o (by simp)
    | flip => exact lone (d + 1) o (by simp)
    | mark => exact lone (d + 1) o (by simp)
theorem scene_bts {n d m : Nat} (hn : n ≤ 6) {xs : List Item} (o : ItemsOk n d xs) (sm : ∀ x ∈ xs, Item.Sm d x) (hm : xs.length ≤ m) : Bts OB (m * itW d) (2 * d + 1) (xs.map Item.D) :=
  (items_bts (d := d) fun x hx => item_bt hn d (o.o x hx) (sm x hx)).mono (Nat.le_refl _) (Nat.mul_le_mul_right _ hm) (Nat.le_refl _)
end Q

namespace Q
open PySem PySem.Spec PyProof.Rows L2
section
variable {T : Tab} {O : Sto}
end
end Q

namespace Q
open PySem PySem.Spec PyProof.Rows L2
def X_whole : SS := (sRetP (fAnd (fIsI "int" (fVar 0)) (fNot (fIsI "bool" (fVar 0)))))
abbrev HasX_whole (T : Tab) : Prop := T "_law_whole" = some ⟨1, 1, X_whole⟩
def X_within : SS := (sRetP (fAnd (fCallN "_law_whole" 1 (aCons (fVar 0) aNil)) (fChain gLe gLe (fVar 1) (fVar 0) (fVar 2))))
abbrev HasX_within (T : Tab) : Prop := T "_law_within" = some ⟨3, 3, X_within⟩
def X_odd : SS := (sSeq (sSet 1 (fLst (aCons fNon (aCons (fBl true) (aCons (fBl false) (aCons (fNeg (fInt 1)) (aCons (fBin gPow (fInt 10) (fInt 11)) (aCons (fStr "") (aCons (fStr "lame") (aCons (fStr "alike") (aCons (fTup aNil) (aCons (fLst aNil) (aCons fDic0 (aCons (fTup (aCons (fInt 0) aNil)) (aCons (fLst (aCons (fInt 0) aNil)) (aCons (fTup (aCons (fStr "off") (aCons (fInt 0) aNil))) (aCons (fDicK [(.int (0), .int (0))]) (aCons (fInt 99) aNil))))))))))))))))))
  (sRetP (fAt (fVar 1) (fCallN "_law_draw" 2 (aCons (fVar 0) (aCons (fInt 16) aNil))))))
abbrev HasX_odd (T : Tab) : Prop := T "_law_odd" = some ⟨1, 2, X_odd⟩
def X_bent : SS := (sSeq (sIf (cAnd (cVal (fCallN "_law_whole" 1 (aCons (fVar 1) aNil))) (cVal (fBin gGt (fCallN "_law_draw" 2 (aCons (fVar 0) (aCons (fInt 3) aNil))) (fInt 0))))
  (sRetP (fAt (fLst (aCons (fBin gAdd (fVar 1) (fInt 1)) (aCons (fBin gSub (fVar 1) (fInt 1)) (aCons (fBin gSub (fInt 0) (fVar 1)) (aCons (fBin gAdd (fVar 1) (fInt 64)) (aCons (fBin gPow (fInt 10) (fInt 11)) (aCons (fBl true) aNil))))))) (fCallN "_law_draw" 2 (aCons (fVar 0) (aCons (fInt 6) aNil)))))
  sNext)
  (sSeq (sIf (cOr (cNot (cVal (fIsI "tuple" (fVar 1)))) (cOr (cVal (fBin gEqZ (fVar 1) (fTup aNil))) (cVal (fBin gEq (fVar 2) (fInt 0)))))
  (sRetP (fCallN "_law_odd" 1 (aCons (fVar 0) aNil)))
  sNext)
  (sSeq (sPar [3, 4] (aCons (fCallN "_law_draw" 2 (aCons (fVar 0) (aCons (fB gLen (aCons (fVar 1) aNil)) aNil))) (aCons (fCallN "_law_draw" 2 (aCons (fVar 0) (aCons (fInt 10) aNil))) aNil)))
  (sSeq (sIf (cVal (fBin gEq (fVar 4) (fInt 0)))
  (sRetP (fBin gAdd (fBin gAdd (fSl (fVar 1) oNone (oSome (fVar 3))) (fTup (aCons (fCallN "_law_odd" 1 (aCons (fVar 0) aNil)) aNil))) (fSl (fVar 1) (oSome (fVar 3)) oNone)))
  sNext)
  (sSeq (sIf (cVal (fBin gEq (fVar 4) (fInt 1)))
  (sRetP (fBin gAdd (fSl (fVar 1) oNone (oSome (fVar 3))) (fSl (fVar 1) (oSome (fBin gAdd (fVar 3) (fInt 1))) oNone)))
  sNext)
  (sSeq (sIf (cVal (fBin gEq (fVar 4) (fInt 2)))
  (sRetP (fBin gAdd (fBin gAdd (fSl (fVar 1) oNone (oSome (fVar 3))) (fSl (fVar 1) (oSome (fVar 3)) (oSome (fBin gAdd (fVar 3) (fInt 1))))) (fSl (fVar 1) (oSome (fVar 3)) oNone)))
  sNext)
  (sSeq (sIf (cVal (fBin gEq (fVar 4) (fInt 3)))
  (sRetP (fAt (fLst (aCons (fB gList (aCons (fVar 1) aNil)) (aCons (fRev (fVar 1)) aNil))) (fCallN "_law_draw" 2 (aCons (fVar 0) (aCons (fInt 2) aNil)))))
  sNext)
  (sRetP (fBin gAdd (fBin gAdd (fSl (fVar 1) oNone (oSome (fVar 3))) (fTup (aCons (fCallN "_law_bent" 3 (aCons (fVar 0) (aCons (fAt (fVar 1) (fVar 3)) (aCons (fBin gSub (fVar 2) (fInt 1)) aNil)))) aNil))) (fSl (fVar 1) (oSome (fBin gAdd (fVar 3) (fInt 1))) oNone))))))))))
abbrev HasX_bent (T : Tab) : Prop := T "_law_bent" = some ⟨3, 5, X_bent⟩

structure BentX (T : Tab) : Prop where
  draw : DrawT T
  whole : HasX_whole T
  within : HasX_within T
  odd : HasX_odd T
  bent : HasX_bent T
section
variable {T : Tab} {O : Sto}
theorem bt_pick {b n k : Nat} {xs : List D} (h : ∀ x ∈ xs, Bt b n k x) {r : Int} (r0 : 0 ≤ r) (r1 : r < xs.length) : ∃ y, atI xs r = some y ∧ Bt b n k y := by
  obtain ⟨j, rfl⟩ := Int.eq_ofNat_of_zero_le r0
  have hj : j < xs.length := by omega
  exact ⟨xs[j], by rw [atI_nat]; simp [hj], h _ (List.getElem_mem hj)⟩
theorem cutD_one {α : Type} (xs : List α) (j : Nat) : cutD xs (some (j : Int)) (some ((j : Int) + 1)) = (xs.drop j).take 1 := by
  have e : ((j : Int) + 1) = ((j + 1 : Nat) : Int) := by omega
  rw [e]
  unfold cutD
  rw [HT.sIx_nat, HT.sIx_nat]
  by_cases h : j + 1 ≤ xs.length
  · rw [Nat.min_eq_left h, Nat.min_eq_left (by omega)]
    congr 1
    omega
  · have h1 : xs.drop (min j xs.length) = [] := List.drop_eq_nil_of_le (by omega)
    have h2 : xs.drop j = [] := List.drop_eq_nil_of_le (by omega)
    rw [h1, h2]
    simp
theorem x_whole (h0 : BentX T) (k : Nat) (S : Sto) (d : D) : callQ T (k + 1) "_law_whole" [.d d] S = .ok (.d (.bool (wholeD d))) S := by
  rw [callQ_succ h0.whole rfl rfl]
  cases d <;> simp [X_whole, startQ, isTy, tyName, wholeD]
theorem x_within (h0 : BentX T) (k : Nat) (S : Sto) (d : D) (l h : Int) : callQ T (k + 2) "_law_within" [.d d, .d (.int l), .d (.int h)] S = .ok (.d (.bool (amongD d l h))) S := by
  rw [callQ_succ h0.within rfl rfl]
  cases d with
  | int i =>
    simp [X_within, startQ, x_whole h0, wholeD, amongD]
    by_cases h1 : l ≤ i <;> simp [h1]
  | _ => simp [X_within, startQ, x_whole h0, wholeD, amongD]
def oddX : List D := [.none, .bool true, .bool false, .int (-1), .int (10 ^ 11), .str "", .str "lame", .str "alike", .tuple [], .list [], .dict [], .tuple [.int 0], .list [.int 0], .tuple [.str "off", .int 0], .dict [(.int 0, .int 0)], .int 99]
theorem oddX_ok : ∀ d ∈ oddX, Bt OB 3 2 d := by
  have h : oddX.all (fun d => fine OB d && decide (wt d ≤ 3) && decide (PyData.depth d ≤ 2)) = true := by decide +kernel
  intro d hd
  have := List.all_eq_true.mp h d hd
  simp only [Bool.and_eq_true, decide_eq_true_eq] at this
  exact ⟨this.1.1, this.1.2, this.2⟩
theorem x_odd (h0 : BentX T) (k : Nat) {n B : Nat} {S : Sto} (h : PenO O S n B) (hB : B < 900000) : ∃ d S', Bt OB 3 2 d ∧ callQ T (k + 2) "_law_odd" [.ref n] S = .ok (.d d) S' ∧ PenO O S' n (B + 1) := by
  obtain ⟨r, S1, e1, r0, r1, p1⟩ := o_draw h0.draw k (m := 16) h (by omega) (by omega) (by omega)
  obtain ⟨j, rfl⟩ := Int.eq_ofNat_of_zero_le r0
  have hj : j < oddX.length := by simp [oddX]; omega
  refine ⟨oddX[j], S1, oddX_ok _ (List.getElem_mem hj), ?_, p1⟩
  rw [callQ_succ h0.odd rfl rfl]
  have ha : atI oddX (j : Int) = some oddX[j] := by rw [atI_nat]; simp [hj]
  generalize oddX[j] = y at *
  simp only [oddX] at ha
  simp [X_odd, startQ, e1, LIM]
  split
  · rename_i x hx
    have : x = y := Option.some.inj (hx.symm.trans ha)
    subst this
    rfl
  · rename_i hx
    exact absurd (hx.symm.trans ha) (by simp)
theorem x_bent_int (h0 : BentX T) (k : Nat) {n B b m kk deep : Nat} {S : Sto} {i : Int} (p : PenO O S n B) (hB : B < 200000) (hb : OB ≤ b) (h : Bt b m kk (.int i)) : ∃ y S', Bt (b + 64) (2 * m + 10) (max kk (deep + 2)) y ∧ callQ T (k + 3) "_law_bent" [.ref n, .d (.int i), .d (.int (deep : Int))] S = .ok (.d y) S' ∧ PenO O S' n (B + 4) := by
  have hi : i.natAbs ≤ b := by simpa [fine] using h.f
  have hb' : 100000000000 ≤ b := hb
  obtain ⟨r, S1, e1, r0, r1, p1⟩ := o_draw h0.draw (k + 1) (m := 3) p (by omega) (by omega) (by omega)
  by_cases hr : 0 < r
  · obtain ⟨q, S2, e2, q0, q1, p2⟩ := o_draw h0.draw (k + 1) (m := 6) p1 (by omega) (by omega) (by omega)
    obtain ⟨y, hy, by_⟩ := bt_pick (b := b + 64) (n := 1) (k := 0) (xs := [.int (i + 1), .int (i - 1), .int (0 - i), .int (i + 64), .int 100000000000, .bool true]) (by
      intro x hx
      simp only [List.mem_cons, List.not_mem_nil, or_false] at hx
      rcases hx with rfl | rfl | rfl | rfl | rfl | rfl
      · exact bt_int (by omega)
      · exact bt_int (by omega)
      · exact bt_int (by omega)
      · exact bt_int (by omega)
      · exact bt_int (by omega)
      · exact bt_bool _ _) q0 (by simpa using q1)
    refine ⟨y, S2, by_.mono (by omega) (by omega) (by omega), ?_, p2.mono (by omega)⟩
    rw [callQ_succ h0.bent rfl rfl]
    have hp : ∀ S, gPow (.d (.int 10)) (.d (.int 11)) S = .ok (.d (.int 100000000000)) S := fun S => rfl
    simp at hy
    simp [X_bent, startQ, x_whole h0, wholeD, e1, hr, e2, LIM, hy, hp, -g_pow]
  · obtain ⟨d, S2, bd, e2, p2⟩ := x_odd h0 k p1 (by omega)
    refine ⟨d, S2, bd.mono (by omega) (by omega) (by omega), ?_, p2.mono (by omega)⟩
    rw [callQ_succ h0.bent rfl rfl]
    simp [X_bent, startQ, x_whole h0, wholeD, e1, hr, isTy, tyName, e2]
theorem x_bent_odd (h0 : BentX T) (k : Nat) {n B b m kk deep : Nat} {S : Sto} {x : D} (p : PenO O S n B) (hB : B < 200000) (hb : OB ≤ b) (hx : wholeD x = false) (hn : (∃ xs, x = .tuple xs ∧ xs ≠ []) → deep = 0) : ∃ y S', Bt (b + 64) (2 * m + 10) (max kk (deep + 2)) y ∧ callQ T (k + 3) "_law_bent" [.ref n, .d x, .d (.int (deep : Int))] S = .ok (.d y) S' ∧ PenO O S' n (B + 4) := by
  obtain ⟨d, S2, bd, e2, p2⟩ := x_odd h0 k p (by omega)
  refine ⟨d, S2, bd.mono (by omega) (by omega) (by omega), ?_, p2.mono (by omega)⟩
  rw [callQ_succ h0.bent rfl rfl]
  have e1 := x_whole h0 (k + 1) S x
  rw [hx] at e1
  cases x with
  | tuple xs =>
    by_cases hxs : xs = []
    · subst hxs
      simp [X_bent, startQ, e1, isTy, tyName, e2]
    · have hd := hn ⟨xs, rfl, hxs⟩
      subst hd
      have hem : xs.isEmpty = false := by cases xs with | nil => exact absurd rfl hxs | cons => rfl
      simp [X_bent, startQ, e1, isTy, tyName, e2, hem]
  | int i => simp [wholeD] at hx
  | _ => simp [X_bent, startQ, e1, isTy, tyName, e2]
theorem x_bent_tup (h0 : BentX T) (k : Nat) {n B b m kk deep : Nat} {S : Sto} {xs : List D} (p : PenO O S n B) (hB : B < 150000) (hd : deep ≤ 50) (hb : OB ≤ b) (h : Bt b m kk (.tuple xs)) (hm : m ≤ 10000) (hne : xs ≠ [])
    (ih : ∀ {B' m' : Nat} {S : Sto} {x : D}, PenO O S n B' → B' ≤ B + 2 → Bt b m' (kk - 1) x → m' ≤ 10000 → ∃ y S', Bt (b + 64) (2 * m' + 10) (max (kk - 1) (deep + 2)) y ∧ callQ T (k + 3) "_law_bent" [.ref n, .d x, .d (.int (deep : Int))] S = .ok (.d y) S' ∧ PenO O S' n (B' + 4 * (deep + 1))) (hB2 : B < 100000) :
    ∃ y S', Bt (b + 64) (2 * m + 10) (max kk (deep + 1 + 2)) y ∧ callQ T (k + 4) "_law_bent" [.ref n, .d (.tuple xs), .d (.int ((deep + 1 : Nat) : Int))] S = .ok (.d y) S' ∧ PenO O S' n (B + 4 * (deep + 2)) := by
  obtain ⟨kk, rfl⟩ : ∃ q, kk = q + 1 := ⟨kk - 1, by have := h.d; simp only [PyData.depth] at this; omega⟩
  obtain ⟨m, rfl⟩ : ∃ q, m = q + 1 := ⟨m - 1, by have := h.w; simp only [wt] at this; omega⟩
  have hs := Bts.of h
  have hlen := bt_len hs
  have hl0 : 0 < xs.length := List.length_pos_iff.mpr hne
  have e1 := x_whole h0 (k + 2) S (.tuple xs)
  have hw : wholeD (.tuple xs) = false := rfl
  rw [hw] at e1
  obtain ⟨at_, S1, e2, a0, a1, p1⟩ := o_draw h0.draw (k + 2) (m := (xs.length : Int)) p (by omega) (by omega) (by omega)
  obtain ⟨j, rfl⟩ := Int.eq_ofNat_of_zero_le a0
  have hj : j < xs.length := by omega
  obtain ⟨way, S2, e3, y0, y1, p2⟩ := o_draw h0.draw (k + 2) (m := 10) p1 (by omega) (by omega) (by omega)
  have c1 := cutD_to xs j
  have c2 := cutD_from xs j
  have c3 := cutD_from xs (j + 1)
  rw [show (((j + 1 : Nat)) : Int) = (j : Int) + 1 by omega] at c3
  have c4 := cutD_one xs j
  have l1 : (xs.take j).length ≤ 10000 := by rw [List.length_take]; omega
  have l2 : (xs.drop j).length ≤ 10000 := by rw [List.length_drop]; omega
  have l3 : (xs.drop (j + 1)).length ≤ 10000 := by rw [List.length_drop]; omega
  have l4 : ((xs.drop j).take 1).length ≤ 10000 := by rw [List.length_take]; omega
  have hem : xs.isEmpty = false := by cases xs with | nil => exact absurd rfl hne | cons => rfl
  have hat : atI xs (j : Int) = some xs[j] := by rw [atI_nat]; simp [hj]
  have hdp : ¬ ((deep : Int) + 1 = 0) := by omega
  have hT : Bts (b + 64) m (max kk (deep + 2)) xs := hs.mono (by omega) (Nat.le_refl _) (Nat.le_max_left _ _)
  have t0 : (xs.take j).length + (xs.drop j).length = xs.length := by rw [List.length_take, List.length_drop]; omega
  have t1 : (xs.take j).length + 1 ≤ 16777216 := by omega
  have t2 : (xs.take j).length + 1 + (xs.drop j).length ≤ 16777216 := by omega
  have t3 : (xs.take j).length + (xs.drop (j + 1)).length ≤ 16777216 := by omega
  have t4 : (xs.take j).length + ((xs.drop j).take 1).length ≤ 16777216 := by omega
  have t5 : (xs.take j).length + ((xs.drop j).take 1).length + (xs.drop j).length ≤ 16777216 := by omega
  have t6 : (xs.take j).length + 1 + (xs.drop (j + 1)).length ≤ 16777216 := by omega
  by_cases w0 : way = 0
  · subst w0
    obtain ⟨od, S3, bo, e4, p3⟩ := x_odd h0 (k + 1) p2 (by omega)
    have bb : Bts (b + 64) (m + 3) (max kk (deep + 2)) (xs.take j ++ [od] ++ xs.drop j) := hT.put j (bo.mono (by omega) (by omega) (by omega))
    refine ⟨.tuple (xs.take j ++ [od] ++ xs.drop j), S3, (Bt.tup bb).mono (Nat.le_refl _) (by omega) (by omega), ?_, p3.mono (by omega)⟩
    rw [callQ_succ h0.bent rfl rfl]
    generalize xs.take j = A at *
    generalize xs.drop j = C at *
    simp only [List.append_assoc] at *
    simp [X_bent, startQ, e1, isTy, tyName, hem, hdp, e2, e3, e4, c1, c2, LIM, t1, t2]
  · by_cases w1 : way = 1
    · subst w1
      have bb := hT.cut j
      refine ⟨.tuple (xs.take j ++ xs.drop (j + 1)), S2, (Bt.tup bb).mono (Nat.le_refl _) (by omega) (by omega), ?_, p2.mono (by omega)⟩
      rw [callQ_succ h0.bent rfl rfl]
      generalize xs.take j = A at *
      generalize xs.drop (j + 1) = C at *
      simp [X_bent, startQ, e1, isTy, tyName, hem, hdp, e2, e3, c1, c3, LIM, t3]
    · by_cases w2 : way = 2
      · subst w2
        have bb := hT.twice j
        refine ⟨.tuple (xs.take j ++ (xs.drop j).take 1 ++ xs.drop j), S2, (Bt.tup bb).mono (Nat.le_refl _) (by omega) (by omega), ?_, p2.mono (by omega)⟩
        rw [callQ_succ h0.bent rfl rfl]
        generalize xs.take j = A at *
        generalize (xs.drop j).take 1 = M at *
        generalize xs.drop j = C at *
        simp only [List.append_assoc] at *
        simp [X_bent, startQ, e1, isTy, tyName, hem, hdp, e2, e3, c1, c2, c4, LIM, t4, t5]
      · by_cases w3 : way = 3
        · subst w3
          obtain ⟨q, S3, e4, q0, q1, p3⟩ := o_draw h0.draw (k + 2) (m := 2) p2 (by omega) (by omega) (by omega)
          have bl := Bt.lst hT
          have br := Bt.tup hT.rev
          obtain ⟨y, hy, by_⟩ := bt_pick (b := b + 64) (n := 2 * m + 1) (k := max kk (deep + 2) + 1) (xs := [.list xs, .tuple xs.reverse]) (by
            intro x hx
            simp only [List.mem_cons, List.not_mem_nil, or_false] at hx
            rcases hx with rfl | rfl
            · exact bl.mono (Nat.le_refl _) (by omega) (Nat.le_refl _)
            · exact br.mono (Nat.le_refl _) (by omega) (Nat.le_refl _)) q0 (by simpa using q1)
          refine ⟨y, S3, by_.mono (Nat.le_refl _) (by omega) (by omega), ?_, p3.mono (by omega)⟩
          rw [callQ_succ h0.bent rfl rfl]
          have hgl : gList [.d (.tuple xs)] S2 = .ok (.d (.list xs)) S2 := rfl
          simp [X_bent, startQ, e1, isTy, tyName, hem, hdp, e2, e3, LIM, e4, hgl, hy]
        · obtain ⟨y, S3, by_, e4, p3⟩ := ih (m' := wt xs[j]) (x := xs[j]) p2 (by omega) ⟨(hs.get hj).f, Nat.le_refl _, by have := (hs.get hj).d; omega⟩ (by have := (hs.get hj).w; omega)
          have hwt := wts_at hj
          have hw' := hs.w
          have bb := hT.swap hj (by_.mono (Nat.le_refl _) (Nat.le_refl _) (show max (kk + 1 - 1) (deep + 2) ≤ max kk (deep + 2) by omega))
          refine ⟨.tuple (xs.take j ++ [y] ++ xs.drop (j + 1)), S3, (Bt.tup bb).mono (Nat.le_refl _) (by omega) (by omega), ?_, p3.mono (by omega)⟩
          rw [callQ_succ h0.bent rfl rfl]
          generalize xs[j] = X at *
          generalize xs.take j = A at *
          generalize xs.drop (j + 1) = C at *
          simp only [List.append_assoc] at *
          simp [X_bent, startQ, e1, isTy, tyName, hem, hdp, e2, e3, w0, w1, w2, w3, c1, c3, LIM, hat, e4, t1, t6]
theorem x_bent (h0 : BentX T) {n : Nat} : ∀ (deep k : Nat) {B b m kk : Nat} {S : Sto} {x : D}, PenO O S n B → B + 4 * (deep + 1) < 100000 → deep ≤ 50 → OB ≤ b → Bt b m kk x → m ≤ 10000 →
    ∃ y S', Bt (b + 64) (2 * m + 10) (max kk (deep + 2)) y ∧ callQ T (k + deep + 3) "_law_bent" [.ref n, .d x, .d (.int (deep : Int))] S = .ok (.d y) S' ∧ PenO O S' n (B + 4 * (deep + 1)) := by
  intro deep
  induction deep with
  | zero =>
    intro k B b m kk S x p hB hd hb h hm
    by_cases hx : wholeD x = true
    · cases x with
      | int i => exact x_bent_int h0 k p (by omega) hb h
      | _ => simp [wholeD] at hx
    · exact x_bent_odd h0 k p (by omega) hb (by simpa using hx) fun _ => rfl
  | succ deep ih =>
    intro k B b m kk S x p hB hd hb h hm
    by_cases hx : wholeD x = true
    · cases x with
      | int i =>
        obtain ⟨y, S', b1, e, p1⟩ := x_bent_int h0 (k + deep + 1) (deep := deep + 1) p (by omega) hb h
        exact ⟨y, S', b1, e, p1.mono (by omega)⟩
      | _ => simp [wholeD] at hx
    · by_cases ht : ∃ xs, x = .tuple xs ∧ xs ≠ []
      · obtain ⟨xs, rfl, hne⟩ := ht
        obtain ⟨y, S', b1, e, p1⟩ := x_bent_tup h0 (k + deep) (deep := deep) p (by omega) (by omega) hb h hm hne (fun {B' m' S x} p' hB' h' hm' => ih k p' (by omega) (by omega) hb h' hm') (by omega)
        exact ⟨y, S', b1.mono (Nat.le_refl _) (Nat.le_refl _) (by omega), e, p1.mono (by omega)⟩
      · obtain ⟨y, S', b1, e, p1⟩ := x_bent_odd h0 (b := b) (m := m) (kk := kk) (k + deep + 1) (deep := deep + 1) p (by omega) hb (by simpa using hx) fun h' => absurd h' ht
        exact ⟨y, S', b1, e, p1.mono (by omega)⟩
end
end Q

namespace Q
open PySem PySem.Spec L2
theorem drT : DrawT T := ⟨T__law_pen, T__law_draw⟩
theorem beX : BentX T := ⟨drT, T__law_whole, T__law_within, T__law_odd, T__law_bent⟩
theorem w_item (k : Nat) (S : Sto) (s : Sky) (deep : Nat) (hs : ∀ e d, deep = e + 1 → callQ T (k + 2) "_law_are_items" [.d s.D, .d d, .d (.int (e : Int))] S = .ok (.d (.bool (itemsX s.ls.length e d))) S) (x : D) :
    callQ T (k + 3) "_law_is_item" [.d s.D, .d x, .d (.int (deep : Int))] S = .ok (.d (.bool (itemB s.ls.length (subX s.ls.length deep) x))) S := by
  rw [callQ_succ T__law_is_item rfl rfl]
  have q2 : gAt (.d s.D) (.d (.int 2)) S = .ok (.d (.tuple (s.ls.map Light.D))) S := rfl
  have ql : gLen [.d (.tuple (s.ls.map Light.D))] S = .ok (.d (.int (s.ls.length : Int))) S := by simp [gLen]
  generalize PyData.tuple (s.ls.map Light.D) = LL at *
  generalize s.D = G at *
  cases x with
  | tuple xs =>
    cases xs with
    | nil => simp [F__law_is_item, startQ, isTy, tyName, itemB, LIM, gEqZ]
    | cons y r =>
      have e0 : gEqZ (.d (.tuple (y :: r))) (.d (.tuple [])) S = .ok (.d (.bool false)) S := by
        cases y <;> rfl
      have a0 : gAt (.d (.tuple (y :: r))) (.d (.int 0)) S = .ok (.d y) S := by
        show (match atI (y :: r) (0 : Int) with | some x => R.ok (W.d x) S | none => .stuck) = _
        rw [show (0 : Int) = ((0 : Nat) : Int) from rfl, atI_nat]
        rfl
      cases y with
      | str t =>
        have ts : isTy "str" (.str t) = true := rfl
        have sl := g_sliceT1 S (PyData.str t :: r) 1
        simp only [List.drop_succ_cons, List.drop_zero] at sl
        by_cases t1 : t = "go"
        · subst t1
          by_cases h3 : r.length = 3
          · have e : compL (.name 3) (cYes (callQ T (k + 2))) (C__law_is_item_1 (callQ T (k + 2))) [some (.d G), some (.d (.tuple (.str "go" :: r))), some (.d (.int (deep : Int))), none] (r.map id) S = .ok (r.map fun x => PyData.bool (amongD x (-99) 99)) S := by
              refine compL_on _ _ (fun x hx => rfl) fun x hx => ?_
              have := x_within beX k S x (-99) 99
              simp [C__law_is_item_1, this]
            rw [List.map_id] at e
            have hb : bools (r.map fun x => PyData.bool (amongD x (-99) 99)) = some (r.map fun x => amongD x (-99) 99) := bools_on _ fun _ _ => rfl
            have ha : (r.map fun x => amongD x (-99) 99).all id = r.all (fun x => amongD x (-99) 99) := by rw [List.all_map]; rfl
            have gl : gLen [.d (.tuple (.str "go" :: r))] S = .ok (.d (.int 4)) S := by simp [gLen, h3]
            have hlim : r.length ≤ 16777216 := by omega
            have sl' : gSlice (.d (.tuple (.str "go" :: r))) (some 1) none S = .ok (.d (.tuple r)) S := sl
            generalize hX : PyData.tuple (.str "go" :: r) = X at *
            have e1 : itemB s.ls.length (subX s.ls.length deep) X = r.all (fun x => amongD x (-99) 99) := by subst hX; simp [itemB, h3]
            rw [e1]
            have ty : (isTy "tuple" X) = true := by subst hX; rfl
            simp [F__law_is_item, startQ, ty, ts, e0, a0, sl', gl, notOwn, e, hb, LIM, hlim, ha]
          · have gl : gLen [.d (.tuple (.str "go" :: r))] S = .ok (.d (.int ((r.length : Int) + 1))) S := by simp [gLen]
            have h4 : ¬ ((r.length : Int) + 1 = 4) := by omega
            generalize hX : PyData.tuple (.str "go" :: r) = X at *
            have e1 : itemB s.ls.length (subX s.ls.length deep) X = false := by subst hX; simp [itemB, h3]
            rw [e1]
            have ty : (isTy "tuple" X) = true := by subst hX; rfl
            simp [F__law_is_item, startQ, ty, e0, a0, gl, h4, ts, LIM]
        · by_cases t2 : t = "flip"
          · subst t2
            by_cases h1 : r.length = 1
            · obtain ⟨c, rfl⟩ := List.length_eq_one_iff.mp h1
              have c1 := x_within beX k S c 0 ((s.ls.length : Int) - 1)
              have a1 : gAt (.d (.tuple [.str "flip", c])) (.d (.int 1)) S = .ok (.d c) S := rfl
              have gl : gLen [.d (.tuple [.str "flip", c])] S = .ok (.d (.int 2)) S := by simp [gLen]
              generalize hX : PyData.tuple [.str "flip", c] = X at *
              have e1 : itemB s.ls.length (subX s.ls.length deep) X = amongD c 0 ((s.ls.length : Int) - 1) := by subst hX; simp [itemB]
              rw [e1]
              have ty : (isTy "tuple" X) = true := by subst hX; rfl
              simp [F__law_is_item, startQ, ty, e0, a0, a1, gl, ts, LIM, q2, ql, c1]
            · have gl : gLen [.d (.tuple (.str "flip" :: r))] S = .ok (.d (.int ((r.length : Int) + 1))) S := by simp [gLen]
              have h4 : ¬ ((r.length : Int) + 1 = 2) := by omega
              generalize hX : PyData.tuple (.str "flip" :: r) = X at *
              have e1 : itemB s.ls.length (subX s.ls.length deep) X = false := by subst hX; simp [itemB, h1]
              rw [e1]
              have ty : (isTy "tuple" X) = true := by subst hX; rfl
              simp [F__law_is_item, startQ, ty, e0, a0, gl, h4, ts, LIM]
          · by_cases t3 : t = "again"
            · subst t3
              by_cases h2 : r.length = 2
              · obtain ⟨c, d, rfl⟩ := len2 h2
                have c1 := x_within beX k S c 0 1000000
                have a1 : gAt (.d (.tuple [.str "again", c, d])) (.d (.int 1)) S = .ok (.d c) S := rfl
                have a2 : gAt (.d (.tuple [.str "again", c, d])) (.d (.int 2)) S = .ok (.d d) S := rfl
                have gl : gLen [.d (.tuple [.str "again", c, d])] S = .ok (.d (.int 3)) S := by simp [gLen]
                cases deep with
                | zero =>
                  generalize hX : PyData.tuple [.str "again", c, d] = X at *
                  have e1 : itemB s.ls.length (subX s.ls.length 0) X = false := by subst hX; simp [itemB, subX]
                  rw [e1]
                  have ty : (isTy "tuple" X) = true := by subst hX; rfl
                  simp [F__law_is_item, startQ, ty, e0, a0, a1, a2, gl, ts, LIM]
                | succ e =>
                  have c2 := hs e d rfl
                  have hp : (0 : Int) < (e : Int) + 1 := by omega
                  have hp0 : ¬ ((e : Int) + 1 = 0) := by omega
                  generalize hX : PyData.tuple [.str "again", c, d] = X at *
                  have e1 : itemB s.ls.length (subX s.ls.length (e + 1)) X = (amongD c 0 1000000 && itemsX s.ls.length e d) := by subst hX; simp [itemB, subX]
                  rw [e1]
                  have ty : (isTy "tuple" X) = true := by subst hX; rfl
                  cases hc : amongD c 0 1000000 <;> rw [hc] at c1 <;> simp [F__law_is_item, startQ, ty, e0, a0, a1, a2, gl, ts, LIM, c1, c2, hp, hp0]
              · have gl : gLen [.d (.tuple (.str "again" :: r))] S = .ok (.d (.int ((r.length : Int) + 1))) S := by simp [gLen]
                have h4 : ¬ ((r.length : Int) + 1 = 3) := by omega
                generalize hX : PyData.tuple (.str "again" :: r) = X at *
                have e1 : itemB s.ls.length (subX s.ls.length deep) X = false := by
                  subst hX
                  simp [itemB]
                  split
                  · simp at h2
                  · rfl
                rw [e1]
                have ty : (isTy "tuple" X) = true := by subst hX; rfl
                simp [F__law_is_item, startQ, ty, e0, a0, gl, h4, ts, LIM]
            · have e1 : itemB s.ls.length (subX s.ls.length deep) (.tuple (.str t :: r)) = (decide (t = "mark") && r.isEmpty) := by
                simp only [itemB]
                rw [if_neg t1, if_neg t2, if_neg t3]
              have gl : gLen [.d (.tuple (.str t :: r))] S = .ok (.d (.int ((r.length : Int) + 1))) S := by simp [gLen]
              have h1 : decide ((r.length : Int) + 1 = 1) = r.isEmpty := by cases r <;> simp; omega
              rw [e1]
              generalize hX : PyData.tuple (.str t :: r) = X at *
              have ty : (isTy "tuple" X) = true := by subst hX; rfl
              by_cases t4 : t = "mark"
              · subst t4
                have ge : gEq (.d (.int ((r.length : Int) + 1))) (.d (.int 1)) S = .ok (.d (.bool r.isEmpty)) S := by rw [← h1]; simp
                simp [F__law_is_item, startQ, ty, ts, e0, a0, LIM, gNe, gl, ge, -g_eqI]
              · simp [F__law_is_item, startQ, ty, ts, e0, a0, LIM, t1, t2, t3, t4, gNe]
      | _ => simp [F__law_is_item, startQ, isTy, tyName, e0, a0, itemB, LIM]
  | _ => simp [F__law_is_item, startQ, isTy, tyName, itemB]
theorem w_items (S : Sto) (s : Sky) : ∀ (deep k : Nat) (d : D), callQ T (k + 2 * deep + 4) "_law_are_items" [.d s.D, .d d, .d (.int (deep : Int))] S = .ok (.d (.bool (itemsX s.ls.length deep d))) S := by
  intro deep
  induction deep with
  | zero => intro k d; exact step 0 (k + 0) (fun e d h => by omega) d
  | succ e ih =>
    intro k d
    refine step (e + 1) (k + 2 * (e + 1)) (fun e' d h => ?_) d
    obtain rfl : e' = e := by omega
    exact ih k d
where
  step (deep k : Nat) (hs : ∀ e d, deep = e + 1 → callQ T (k + 2) "_law_are_items" [.d s.D, .d d, .d (.int (e : Int))] S = .ok (.d (.bool (itemsX s.ls.length e d))) S) (d : D) : callQ T (k + 4) "_law_are_items" [.d s.D, .d d, .d (.int (deep : Int))] S = .ok (.d (.bool (itemsX s.ls.length deep d))) S := by
    rw [callQ_succ T__law_are_items rfl rfl]
    cases d with
    | tuple ls =>
      have gl : gLen [.d (.tuple ls)] S = .ok (.d (.int (ls.length : Int))) S := by simp [gLen]
      by_cases hl : ls.length ≤ 8
      · have e : compL (.name 3) (cYes (callQ T (k + 3))) (C__law_are_items_1 (callQ T (k + 3))) [some (.d s.D), some (.d (.tuple ls)), some (.d (.int (deep : Int))), none] (ls.map id) S = .ok (ls.map fun x => PyData.bool (itemB s.ls.length (subX s.ls.length deep) x)) S := by
          refine compL_on _ _ (fun x hx => rfl) fun x hx => ?_
          have := w_item k S s deep hs x
          generalize s.D = G at *
          simp [C__law_are_items_1, this]
        rw [List.map_id] at e
        have hb : bools (ls.map fun x => PyData.bool (itemB s.ls.length (subX s.ls.length deep) x)) = some (ls.map fun x => itemB s.ls.length (subX s.ls.length deep) x) := bools_on _ fun _ _ => rfl
        have hr : itemsX s.ls.length deep (.tuple ls) = (ls.map fun x => itemB s.ls.length (subX s.ls.length deep) x).all id := by
          rw [itemsX_tup, decide_eq_true hl, List.all_map]
          rfl
        have hlim : ls.length ≤ 16777216 := by omega
        have h8 : ¬ (8 < (ls.length : Int)) := by omega
        rw [hr]
        generalize s.D = G at *
        simp [F__law_are_items, startQ, gl, isTy, tyName, h8, notOwn, e, LIM, hlim, hb]
      · have hr : itemsX s.ls.length deep (.tuple ls) = false := by
          rw [itemsX_tup, decide_eq_false hl]
          rfl
        have h8 : 8 < (ls.length : Int) := by omega
        rw [hr]
        generalize s.D = G at *
        simp [F__law_are_items, startQ, gl, isTy, tyName, h8]
    | _ =>
      rw [itemsX_not _ _ fun _ h => by cases h]
      generalize s.D = G at *
      simp [F__law_are_items, startQ, isTy, tyName]
end Q

namespace Q
open PySem PySem.Spec L2
theorem baT : BaseT T := ⟨T_is_whole, T_is_among, T_is_row⟩
theorem skT : SkyT T := ⟨baT, T_is_light_of, T_is_sky, T_need_sky⟩
theorem scT : ScnT T := ⟨baT, T_is_item, T_are_items, T_size_of, T_is_scene_by, T_need_scene⟩
theorem pairs_fold : ∀ (xs : List Item) (a : Int × Int), xs.foldl (fun (b : Int × Int) x => (b.1 + (x.size : Int), b.2 + (x.marks : Int))) a = (a.1 + (sizeOf' xs : Int), a.2 + (marksOf xs : Int))
  | [], a => by simp [sizeOf', marksOf]
  | x :: xs, a => by
    rw [List.foldl_cons, pairs_fold xs]
    simp only [sizeOf', marksOf, Prod.mk.injEq]
    omega
theorem w_counted {n : Nat} (S : Sto) : ∀ (d k : Nat) {xs : List Item}, ItemsOk n d xs → callQ T (k + d + 1) "_law_counted" [.d (itemsD xs)] S = .ok (.d (.tuple [.int (sizeOf' xs : Nat), .int (marksOf xs : Nat)])) S := by
  intro d
  induction d with
  | zero =>
    intro k xs o
    exact fin_ k xs fun x hx a b w v => ⟨_, v, lone k (o.o _ hx) (fun t ys e => by subst e; exact nomatch o.o _ hx) (itemsD xs) a b v⟩
  | succ d ih =>
    intro k xs o
    refine fin_ (k + (d + 1)) xs fun x hx a b w v => ?_
    cases x with
    | again t ys =>
      obtain ⟨oy, ht⟩ := ItemsOk.again (o.o _ hx)
      have e := ih k oy
      have hs : sm (t : Int) = true := Nat.ble_eq_true_of_le (by omega)
      have ea : k + (d + 1) = k + d + 1 := rfl
      refine ⟨some (.d (Item.again t ys).D), some (.d (.tuple [.int (sizeOf' ys : Nat), .int (marksOf ys : Nat)])), ?_⟩
      rw [again_D, ea]
      generalize itemsD xs = X
      simp [B__law_counted_1, Item.size, Item.marks, e, hs]
    | go m e n => exact ⟨_, v, lone _ (o.o _ hx) (by simp) (itemsD xs) a b v⟩
    | flip i => exact ⟨_, v, lone _ (o.o _ hx) (by simp) (itemsD xs) a b v⟩
    | mark => exact ⟨_, v, lone _ (o.o _ hx) (by simp) (itemsD xs) a b v⟩
where
  lone {n d : Nat} {S : Sto} (k : Nat) {x : Item} (o : Item.Ok n d x) (h : ∀ t ys, x ≠ .again t ys) (X : D) (a b : Int) (v : Option W) : B__law_counted_1 (callQ T k) [some (.d X), some (.d (.int a)), some (.d (.int b)), some (.d x.D), v] S = .next [some (.d X), some (.d (.int (a + (x.size : Int)))), some (.d (.int (b + (x.marks : Int)))), some (.d x.D), v] S := by
    cases x with
    | again t ys => exact absurd rfl (h t ys)
    | go m e n => simp [B__law_counted_1, Item.D, Item.size, Item.marks, gNe, gInt]
    | flip i => simp [B__law_counted_1, Item.D, Item.size, Item.marks, gNe, gInt]
    | mark => simp [B__law_counted_1, Item.D, Item.size, Item.marks, gNe, gInt]
  fin_ {S : Sto} (k : Nat) (xs : List Item) (st : ∀ x ∈ xs, ∀ (a b : Int) (w v : Option W), ∃ w' v', B__law_counted_1 (callQ T k) [some (.d (itemsD xs)), some (.d (.int a)), some (.d (.int b)), some (.d x.D), v] S = .next [some (.d (itemsD xs)), some (.d (.int (a + (x.size : Int)))), some (.d (.int (b + (x.marks : Int)))), w', v'] S) :
      callQ T (k + 1) "_law_counted" [.d (itemsD xs)] S = .ok (.d (.tuple [.int (sizeOf' xs : Nat), .int (marksOf xs : Nat)])) S := by
    rw [callQ_succ T__law_counted rfl rfl]
    obtain ⟨⟨w', v'⟩, e, _⟩ := forL_fold (t := .name 3) (body := B__law_counted_1 (callQ T k)) (S := S) Item.D (fun (a : Int × Int) (w : Option W × Option W) => [some (.d (itemsD xs)), some (.d (.int a.1)), some (.d (.int a.2)), w.1, w.2]) (fun a x => (a.1 + (x.size : Int), a.2 + (x.marks : Int))) (fun _ => True) xs (0, 0) (none, none) trivial fun x hx a w _ => by
      obtain ⟨w', v', e⟩ := st x hx a.1 a.2 w.1 w.2
      exact ⟨⟨_, (w', v'), rfl, e⟩, trivial⟩
    rw [pairs_fold] at e
    simp only [Int.zero_add] at e
    have e0 : (itemsD xs) = .tuple (xs.map Item.D) := rfl
    simp [F__law_counted, startQ, LIM]
    rw [e0] at e ⊢
    simp [e, LIM]
section
variable {S : Sto} {s : Sky} {d : D} {xs : List Item}
theorem n_scene1 {k : Nat} (o : SceneOk s xs) : callQ T (k + 12) "need_scene" [.d s.D, .d (itemsD xs)] S = .ok (.d .none) S := by
  rw [callQ_succ T_need_scene rfl rfl]
  have c := p_scene_byX scT k S s (itemsD xs)
  rw [scnX_ok o] at c
  generalize s.D = G at *
  generalize itemsD xs = X at *
  simp [F_need_scene, startQ, c]
theorem n_both1 {k : Nat} (os : s.Ok) (o : SceneOk s xs) : callQ T (k + 13) "need_both" [.d s.D, .d (itemsD xs)] S = .ok (.d .none) S := by
  rw [callQ_succ T_need_both rfl rfl]
  have c0 := p_need_sky skT (k + 7) S os
  have c := n_scene1 (S := S) (k := k) o
  generalize s.D = G at *
  generalize itemsD xs = X at *
  simp [F_need_both, startQ, c0, c]
theorem w_beats (k : Nat) (os : s.Ok) (o : SceneOk s xs) : callQ T (k + 14) "beats_of" [.d s.D, .d (itemsD xs)] S = .ok (.d (.int (sizeOf' xs : Nat))) S := by
  rw [callQ_succ T_beats_of rfl rfl]
  have c0 := n_both1 (S := S) (k := k) os o
  have c := p_size_of T_size_of S 3 (k + 9) o.o
  generalize s.D = G at *
  generalize itemsD xs = X at *
  simp [F_beats_of, startQ, c0, c]
theorem w_marks (k : Nat) (os : s.Ok) (o : SceneOk s xs) : callQ T (k + 14) "marks_of" [.d s.D, .d (itemsD xs)] S = .ok (.d (.int (marksOf xs : Nat))) S := by
  rw [callQ_succ T_marks_of rfl rfl]
  have c0 := n_both1 (S := S) (k := k) os o
  have c := p_marks_in T_marks_in S 3 (k + 9) o.o
  generalize s.D = G at *
  generalize itemsD xs = X at *
  simp [F_marks_of, startQ, c0, c]
theorem w_is_scene (k : Nat) (os : s.Ok) (d : D) : callQ T (k + 12) "is_scene" [.d s.D, .d d] S = .ok (.d (.bool (scnX s d))) S := by
  rw [callQ_succ T_is_scene rfl rfl]
  have c0 := p_need_sky skT (k + 6) S os
  have c := p_scene_byX scT k S s d
  generalize s.D = G at *
  simp [F_is_scene, startQ, c0, c]
theorem nePair (a b : Int) (S : Sto) : gNe (.d (.tuple [.int a, .int b])) (.d (.tuple [.int a, .int b])) S = .ok (.d (.bool false)) S := by
  have ok : okEq (.tuple [.int a, .int b]) = true := rfl
  have ev : PyData.eqv (.tuple [.int a, .int b]) (.tuple [.int a, .int b]) = true := by simp [PyData.eqv, PyData.eqvAll]
  show (if (okEq (.tuple [.int a, .int b]) && okEq (.tuple [.int a, .int b])) = true then R.ok (W.d (PyData.bool (!PyData.eqv (.tuple [.int a, .int b]) (.tuple [.int a, .int b])))) S else .stuck) = _
  rw [ok, ev]
  rfl
theorem rx (b : Bool) : gReprX [.d (.bool b)] S = .ok (.d (.str (PyData.bool b).shown)) S := by cases b <;> rfl
theorem neS (x : Str) : gNe (.d (.str x)) (.d (.str x)) S = .ok (.d (.bool false)) S := by simp [gNe]
theorem w_right (os : s.Ok) (hs : okShowX (.tuple [s.D, d]) = true) : callQ T 39 "_law_right" [.d s.D, .d d] S = .ok (.d (.bool true)) S := by
  have c1 := w_items S s 3 28 d
  have c2 := w_is_scene (S := S) 26 os d
  have r1 : gReprX [.d (.tuple [s.D, d])] S = .ok (.d (.str (PyData.tuple [s.D, d]).shown)) S := by simp [gReprX, hs]
  have rb := rx (S := S)
  have ne := neS (S := S)
  rw [show ((3 : Nat) : Int) = 3 from rfl] at c1
  rw [callQ_succ T__law_right rfl rfl]
  cases h : itemsX s.ls.length 3 d with
  | false =>
    rw [h] at c1
    rw [scnX_not h] at c2
    generalize s.D = G at *
    simp [F__law_right, startQ, c1, c2, r1, rb, ne, LIM]
  | true =>
    rw [h] at c1
    obtain ⟨xs, rfl, o⟩ := itemsX_is h
    have c3 := w_counted S 3 34 o
    by_cases hz : sizeOf' xs ≤ 100000000000
    · have o2 : SceneOk s xs := ⟨o, hz⟩
      have c4 := w_beats (S := S) 24 os o2
      have c5 := w_marks (S := S) 24 os o2
      have hz' : ((sizeOf' xs : Nat) : Int) ≤ 100000000000 := by omega
      have inn := nePair ((sizeOf' xs : Nat) : Int) ((marksOf xs : Nat) : Int) S
      rw [scnX_ok o2] at c2
      generalize s.D = G at *
      generalize itemsD xs = X at *
      generalize ((sizeOf' xs : Nat) : Int) = Z at *
      generalize ((marksOf xs : Nat) : Int) = M at *
      simp [F__law_right, startQ, c1, c2, c3, c4, c5, r1, rb, ne, hz', inn, LIM]
    · have hf : scnX s (itemsD xs) = false := by
        rw [scnX_iff0]
        rintro ⟨ys, e, o2⟩
        have := size_det (e := 0) e o o2.o ⟨T, T_size_of⟩
        have := o2.z
        omega
      have hz' : ¬ ((sizeOf' xs : Nat) : Int) ≤ 100000000000 := by omega
      rw [hf] at c2
      generalize s.D = G at *
      generalize itemsD xs = X at *
      generalize ((sizeOf' xs : Nat) : Int) = Z at *
      simp [F__law_right, startQ, c1, c2, c3, r1, rb, ne, hz', LIM]
end
end Q

namespace Q
open PySem PySem.Spec PyProof.Rows L2
/-- the cells' loop by their numbers -/
def lawB (M : Int) (B : SS) : SS := (sSeq (sFor (.name 1) (iRange1 (aCons (fB gMax2 (aCons (fInt 1) (aCons (fB gMin2 (aCons (fB gLen (aCons (fVar 0) aNil)) (aCons (fInt M) aNil))) aNil))) aNil))
  B)
  (sRetP (fBl true)))
theorem loopB {cf : CF} {M : Int} (h0 : 0 ≤ M) (hM : M ≤ 100) {slots : Nat} {B : SS} {S0 : Sto} {r0 : List (Option W)} {ns : List Int} (hns : ns.length ≤ 63)
    (I : Sto → Prop) (E : List (Option W) → Prop) (h0 : I S0) (hE : E r0)
    (turn : ∀ (j : Nat) (r : List (Option W)) (S : Sto), I S → E r → ∃ r' S', B cf (some (.scr ns) :: some (.d (.int (j : Int))) :: r) S = .next (some (.scr ns) :: some (.d (.int (j : Int))) :: r') S' ∧ I S' ∧ E r') :
    ∃ S', fin (lawB M B cf (some (.scr ns) :: none :: r0) S0) = .ok (.d (.bool true)) S' := by
  have L := forL_all (t := .name 1) (body := B cf) (ds := rangeD 0 (if 1 < (if M < ns.length then M else (ns.length : Int)) then (if M < ns.length then M else (ns.length : Int)) else 1).toNat) (env := some (.scr ns) :: none :: r0) (S := S0) (fun env S => ∃ e1 r, env = some (.scr ns) :: e1 :: r ∧ I S ∧ E r) ⟨_, _, rfl, h0, hE⟩ (by
    rintro d hd env S ⟨e1, r, rfl, hI, hr⟩
    obtain ⟨i, hi, rfl⟩ := rangeD_mem hd
    rw [Int.zero_add]
    obtain ⟨r', S', e, i', h'⟩ := turn i r S hI hr
    exact ⟨_, _, S', rfl, .inl e, _, r', rfl, i', h'⟩)
  obtain ⟨env', S', L, e1, r, rfl, -, -⟩ := L
  refine ⟨S', ?_⟩
  have hr : inR (if 1 < (if M < ns.length then M else (ns.length : Int)) then (if M < ns.length then M else (ns.length : Int)) else 1) = true := inR_of (by split <;> split <;> omega) (by split <;> split <;> omega)
  simp [lawB, gLen, hr, L]
/-- a pen by the cell's number, then so many laps -/
theorem lapsB {T : Tab} {k : Nat} {N : Nat} {B : SS} {ns : List Int} {j : Nat} {e3 : Option W} {r : List (Option W)} {S : Sto} (PP : Sto → Nat → Nat → Prop) (per : Nat) (hN : N ≤ 1000) (hcell : ∃ z, callQ T k "_law_cell_at" [.scr ns, .d (.int (j : Int))] S = .ok (.d (.int z)) S) (hp : ∀ y, ∃ S', callQ T k "_law_pen" [.d (.int y)] S = .ok (.ref S.length) S' ∧ PP S' S.length 0) (E : List (Option W) → Prop) (hr : E r)
    (turn : ∀ (e3 : Option W) (r : List (Option W)) (S' : Sto) (i : Nat), i < N → PP S' S.length (per * i) → E r → ∃ r' S2, B (callQ T k) (some (.scr ns) :: some (.d (.int (j : Int))) :: some (.ref S.length) :: e3 :: r) S' = .next (some (.scr ns) :: some (.d (.int (j : Int))) :: some (.ref S.length) :: e3 :: r') S2 ∧ PP S2 S.length (per * i + per) ∧ E r') (e2 : Option W) :
    ∃ e3' r' S2, (sSeq (sSet 2 (fCallN "_law_pen" 1 (aCons (fCallN "_law_cell_at" 2 (aCons (fVar 0) (aCons (fVar 1) aNil))) aNil))) (sFor (.name 3) (iRange1 (aCons (fInt N) aNil)) B)) (callQ T k) (some (.scr ns) :: some (.d (.int (j : Int))) :: e2 :: e3 :: r) S = .next (some (.scr ns) :: some (.d (.int (j : Int))) :: some (.ref S.length) :: e3' :: r') S2 ∧ E r' ∧ PP S2 S.length (per * N) := by
  obtain ⟨z, hz⟩ := hcell
  obtain ⟨S1, hp, p1⟩ := hp z
  obtain ⟨env', S2, L, p2, e3', r', rfl, hr'⟩ := forL_inv0 (t := .name 3) (body := B (callQ T k)) (ds := rangeD 0 N) (env := some (.scr ns) :: some (.d (.int (j : Int))) :: some (.ref S.length) :: e3 :: r) (S := S1)
    (fun i env S' => PP S' S.length (per * i) ∧ ∃ e3 r, env = some (.scr ns) :: some (.d (.int (j : Int))) :: some (.ref S.length) :: e3 :: r ∧ E r) ⟨p1, _, _, rfl, hr⟩ (by
      rintro i d env S' hd ⟨pi, e3, r, rfl, hr⟩
      obtain ⟨hi, rfl⟩ := rangeD_get hd
      obtain ⟨r', S3, e, q, hr'⟩ := turn (some (.d (.int (0 + (i : Int))))) r S' i hi pi hr
      exact ⟨_, _, S3, rfl, .inl e, by rw [Nat.mul_succ]; exact q, _, _, rfl, hr'⟩)
  have rN : inR (N : Int) = true := inR_of (by omega) (by omega)
  rw [rangeD_len] at p2
  refine ⟨e3', r', S2, ?_, hr', p2⟩
  simp [hz, hp, rN, L]
end Q

namespace Q
theorem seq_nx {a b : SS} {cf : CF} {env env' : EnvQ} {S S' : Sto} (h : a cf env S = .next env' S') : sSeq a b cf env S = b cf env' S' := by
  show (a cf env S).seq _ = _
  rw [h]
  rfl
end Q

namespace Q
open PySem PySem.Spec L2
def skyH : Sky := ⟨4, 1, [⟨0, 0, [0]⟩]⟩
theorem skyH_ok : skyH.Ok := by
  refine ⟨by decide, by decide, by decide, by decide, by decide, by decide, fun l hl => ?_⟩
  simp [skyH] at hl
  subst hl
  exact ⟨by decide, by decide, by decide, by decide, by decide, by decide, by decide⟩
def fl : D := .tuple [.str "flip", .int 0]
def mk : D := .tuple [.str "mark"]
def ag (t : Int) (xs : List D) : D := .tuple [.str "again", .int t, .tuple xs]
def handA : List D := [.tuple [], .tuple (List.replicate 8 fl), .tuple (List.replicate 9 fl), .tuple [ag 1000000 [ag 100000 [fl]]], .tuple [ag 1000000 [ag 100000 [fl]], fl], .tuple [ag 1000000 [ag 100000 [fl]], mk], .tuple [ag 1000001 []]]
def handL : List D := handA ++ [.tuple [mk, .tuple [.str "mark", .int 0]],
  .tuple [.tuple [.str "go", .int 99, .int (-99), .int 0]], .tuple [.tuple [.str "go", .int 100, .int 0, .int 0]], .tuple [.tuple [.str "go", .int 0, .int 0, .int (-100)]], .tuple [.tuple [.str "go", .int 0, .int 0]],
  .tuple [.tuple [.str "flip", .int (-1)]],
  .tuple [.tuple [.str "flip", .bool true]], .tuple [.tuple [.str "again", .bool true, .tuple []]], .tuple [ag (-1) []], .tuple [.tuple [.str "again", .int 2]], .tuple [.tuple []],
  .tuple [.tuple [.str "stop"]],
  .tuple [ag 0 [ag 9 [ag 9 [ag 9 []]]]], .tuple [ag 9 [ag 9 [ag 9 []]]],
  .tuple [ag 1 [ag 1 [ag 1 [.tuple [.str "flip", .int 9]]]]],
  .tuple [ag 1000000 [ag 1000000 [ag 1000000 (List.replicate 8 mk)]]],
  .tuple [ag 0 [ag 1000000 [ag 1000000 [fl]]]],
  .list [fl], .tuple [.tuple [.str "again", .int 1, .list [fl]]], fl, .none]
theorem w_hand (k : Nat) (S : Sto) : callQ T (k + 1) "_law_by_hand" [] S = .ok (.d (.list handL)) S := by
  rw [callQ_succ T__law_by_hand rfl rfl]
  have m8 : ∀ d : D, gMulA (.d (.tuple [d])) (.d (.int 8)) S = .ok (.d (.tuple [d, d, d, d, d, d, d, d])) S := fun d => rfl
  have m9 : ∀ d : D, gMulA (.d (.tuple [d])) (.d (.int 9)) S = .ok (.d (.tuple [d, d, d, d, d, d, d, d, d])) S := fun d => rfl
  have r8 : ∀ d : D, List.replicate 8 d = [d, d, d, d, d, d, d, d] := fun d => rfl
  have r9 : ∀ d : D, List.replicate 9 d = [d, d, d, d, d, d, d, d, d] := fun d => rfl
  simp [F__law_by_hand, startQ, m8, m9, LIM, handL, handA, fl, mk, ag, r8, r9]
theorem hand_ok : ∀ d ∈ handL, okShowX (.tuple [skyH.D, d]) = true := by
  have h : handL.all (fun d => okShowX (.tuple [skyH.D, d])) = true := by decide +kernel
  exact fun d hd => List.all_eq_true.mp h d hd
theorem hand_all (k : Nat) (hk : k = 38) (S : Sto) (env : EnvQ) (he : ∀ d, ∃ env', env.set 7 (some (.d d)) = env' ∧ env'[7]? = some (some (.d d))) : compL (.name 7) (cYes (callQ T 39)) (C_law_1 (callQ T 39)) env handL S = .ok (handL.map fun _ => PyData.bool true) S := by
  have e : compL (.name 7) (cYes (callQ T 39)) (C_law_1 (callQ T 39)) env (handL.map id) S = .ok (handL.map fun _ => PyData.bool true) S := by
    refine compL_on _ _ (fun x hx => rfl) fun x hx => ?_
    obtain ⟨env', h1, h2⟩ := he x
    have c := w_right (S := S) skyH_ok (hand_ok x hx)
    have hD : skyH.D = .tuple [.int 4, .int 1, .tuple [.tuple [.int 0, .int 0, .tuple [.int 0]]]] := rfl
    rw [hD] at c
    show C_law_1 (callQ T 39) (env.set 7 (some (.d x))) S = _
    rw [h1]
    simp [C_law_1, h2, c, LIM]
  rw [List.map_id] at e
  exact e
theorem bools_true (xs : List D) : bools (xs.map fun _ => PyData.bool true) = some (xs.map fun _ => true) := bools_on _ fun _ _ => rfl
theorem all_true (xs : List D) : (xs.map fun _ => true).all id = true := by simp
def HA_0 : SS := (sSet 4 (fCallN "_law_sky" 2 (aCons (fVar 2) (aCons (fInt 6) aNil))))
def HA_1 : SS := (sSet 5 (fCallN "_law_items" 4 (aCons (fVar 2) (aCons (fVar 4) (aCons (fInt 4) (aCons (fInt 3) aNil))))))
def HA_2 : SS := (sSet 6 (fLst (aCons (fVar 5) (aCons (fB gList (aCons (fVar 5) aNil)) (aCons (fBin gMulA (fSl (fVar 5) oNone (oSome (fInt 1))) (fInt 9)) (aCons fNon (aCons (fCallN "_law_odd" 1 (aCons (fVar 2) aNil)) aNil)))))))
def HA_3 : SS := (sSet 6 (fBin gAdd (fVar 6) (fComp [8] (.name 8) (iRange1 (aCons (fInt 10) aNil)) cYes C_law_2)))
def HA_4 : SS := (sIf (cOr (cNot (cVal (fB gAll (aCons (fComp [7] (.name 7) (iSeq (fVar 6)) cYes C_law_3) aNil)))) (cVal (fBin gNotB (fCallN "is_scene" 2 (aCons (fVar 4) (aCons (fVar 5) aNil))) (fBl true))))
  (sRetP (fBl false))
  sNext)
theorem HA_form : B_law_4 = sSeq HA_0 (sSeq HA_1 (sSeq HA_2 (sSeq HA_3 (HA_4)))) := rfl
theorem itemsZ : ItemsZ T := ⟨drT, T__law_go, T__law_items⟩
theorem thing_ok {s : Sky} (os : s.Ok) {d : D} (h : Bt (OB + 64) 4000 20 d) : okShowX (.tuple [s.D, d]) = true := by
  have h1 : Bt (OB + 64) 60 20 s.D := (Bt.tup (sky_bt os)).mono (by omega) (by omega) (by omega)
  exact (Bt.tup (Bts.cons h1 (Bts.one h))).show (by unfold OB; omega) (by omega) (by omega)
theorem w_turn {n B : Nat} {S : Sto} (h : Pen S n B) (hB : B < 8000) (e0 e1 e3 e4 e5 e6 e7 e8 : Option W) :
    ∃ f4 f5 f6 S', B_law_4 (callQ T 39) [e0, e1, some (.ref n), e3, e4, e5, e6, none, none] S = .next [e0, e1, some (.ref n), e3, f4, f5, f6, none, none] S' ∧ Pen S' n (B + 1000) := by
  have p0 := PenO.start h
  obtain ⟨s, S1, os, -, c1, p1⟩ := o_skyZ drT T__law_sky 37 p0 (by omega) (most := 6) (by omega) (by omega)
  have l0 := os.l0; have l1 := os.l1
  obtain ⟨xs, S2, o, hx, sm, c2, p2⟩ := o_items itemsZ (s := s) l0 l1 3 33 4 p1 (by simp only [itCost]; omega) (by omega)
  obtain ⟨od, S3, bo, c3, p3⟩ := x_odd beX 37 p2 (by simp only [itCost]; omega)
  have hb := scene_bts l1 o sm hx
  have bt : Bt OB 273 8 (itemsD xs) := (Bt.tup hb).mono (Nat.le_refl _) (by simp only [itW]; omega) (by omega)
  obtain ⟨ys, S4, c4, p4, l4, g4⟩ := compL_stI (i := 8) (f := C_law_2 (callQ T 39)) (c := cYes (callQ T 39)) (env := [e0, e1, some (.ref n), e3, some (.d s.D), some (.d (itemsD xs)), some (.d (.list [itemsD xs, .list (xs.map Item.D), .tuple (List.replicate 9 ((xs.map Item.D).take 1)).flatten, .none, od])), none, none]) (fun j S' => PenO S S' n (B + 500 + 24 * j)) (fun d => Bt (OB + 64) 4000 20 d) (ds := rangeD 0 10) (S := S3) (fun d S => rfl) (p3.mono (by simp only [itCost]; omega)) (by
    intro j d S' hd pj
    obtain ⟨hj, rfl⟩ := rangeD_get hd
    have hlt : j % 5 < 5 := Nat.mod_lt _ (by omega)
    obtain ⟨y, S5, by_, e, q⟩ := x_bent beX (1 + j % 5) (36 - (1 + j % 5)) pj (by omega) (by omega) (Nat.le_refl _) bt (by omega)
    rw [show 36 - (1 + j % 5) + (1 + j % 5) + 3 = 39 by omega] at e
    have hm : gMod (.d (.int (0 + (j : Int)))) (.d (.int 5)) S' = .ok (.d (.int ((j : Int) % 5))) S' := by simp [gMod]
    have hc : ((1 + j % 5 : Nat) : Int) = 1 + (j : Int) % 5 := by omega
    rw [hc] at e
    refine ⟨y, S5, ?_, q.mono (by omega), by_.mono (by omega) (by omega) (by omega)⟩
    generalize itemsD xs = X at *
    generalize s.D = G at *
    simp at hm
    simp [C_law_2, hm, e])
  rw [rangeD_len] at p4 l4
  have tk : ∀ S, gSlice (.d (itemsD xs)) none (some 1) S = .ok (.d (.tuple ((xs.map Item.D).take 1))) S := fun S => by
    show R.ok (W.d (.tuple (cutD (xs.map Item.D) none (some (1 : Int))))) S = _
    rw [show (1 : Int) = ((1 : Nat) : Int) from rfl, cutD_to]
  have gl : ∀ S, gList [.d (itemsD xs)] S = .ok (.d (.list (xs.map Item.D))) S := fun S => rfl
  have m9 : ∀ S, gMulA (.d (.tuple ((xs.map Item.D).take 1))) (.d (.int 9)) S = .ok (.d (.tuple (List.replicate 9 ((xs.map Item.D).take 1)).flatten)) S := fun S => by
    have := g_mulA S ((xs.map Item.D).take 1) (t := 9) (by omega) (by simp; omega)
    exact this
  have b9 : Bt (OB + 64) 4000 20 (.tuple (List.replicate 9 ((xs.map Item.D).take 1)).flatten) := by
    cases xs with
    | nil => exact (Bt.tup (b := OB) (k := 0) Bts.nil).mono (by omega) (by omega) (by omega)
    | cons x r =>
      have bx : Bt OB 68 7 x.D := (item_bt l1 3 (o.o x List.mem_cons_self) (sm x List.mem_cons_self)).mono (Nat.le_refl _) (by simp only [itW]; omega) (by omega)
      show Bt (OB + 64) 4000 20 (.tuple [x.D, x.D, x.D, x.D, x.D, x.D, x.D, x.D, x.D])
      exact (Bt.tup (Bts.cons bx (Bts.cons bx (Bts.cons bx (Bts.cons bx (Bts.cons bx (Bts.cons bx (Bts.cons bx (Bts.cons bx (Bts.one bx)))))))))).mono (by omega) (by omega) (by omega)
  have bl : Bt (OB + 64) 4000 20 (.list (xs.map Item.D)) := (Bt.lst hb).mono (by omega) (by simp only [itW]; omega) (by omega)
  have hall : ∀ d ∈ [itemsD xs, .list (xs.map Item.D), .tuple (List.replicate 9 ((xs.map Item.D).take 1)).flatten, .none, od] ++ ys, okShowX (.tuple [s.D, d]) = true := by
    intro d hd
    refine thing_ok os ?_
    rcases List.mem_append.mp hd with hd | hd
    · simp only [List.mem_cons, List.not_mem_nil, or_false] at hd
      rcases hd with rfl | rfl | rfl | rfl | rfl
      · exact bt.mono (by omega) (by omega) (by omega)
      · exact bl
      · exact b9
      · exact (bt_none OB).mono (by omega) (by omega) (by omega)
      · exact bo.mono (by omega) (by omega) (by omega)
    · exact g4 d hd
  have hsz := (sm_size 3).2 sm
  have hsz2 := Nat.mul_le_mul_right (6 ^ 3) hx
  have sc : SceneOk s xs := ⟨o, by omega⟩
  have c6 := w_is_scene (S := S4) 27 os (itemsD xs)
  rw [scnX_ok sc] at c6
  have nb : gNotB (.d (.bool true)) (.d (.bool true)) S4 = .ok (.d (.bool false)) S4 := rfl
  generalize hT : [itemsD xs, .list (xs.map Item.D), .tuple (List.replicate 9 ((xs.map Item.D).take 1)).flatten, .none, od] = T5 at *
  have ad : gAdd (.d (.list T5)) (.d (.list ys)) S4 = .ok (.d (.list (T5 ++ ys))) S4 := by
    have h5 : T5.length = 5 := by subst hT; rfl
    rw [g_addL, if_pos (by unfold LIM; omega)]
  have c5 : compL (.name 7) (cYes (callQ T 39)) (C_law_3 (callQ T 39)) [e0, e1, some (.ref n), e3, some (.d s.D), some (.d (itemsD xs)), some (.d (.list (T5 ++ ys))), none, none] ((T5 ++ ys).map id) S4 = .ok ((T5 ++ ys).map fun _ => PyData.bool true) S4 := by
    refine compL_on _ _ (fun x hx => rfl) fun x hx => ?_
    have c := w_right (S := S4) os (hall x hx)
    generalize s.D = G at *
    simp [C_law_3, c]
  rw [List.map_id] at c5
  have bt1 := bools_true (T5 ++ ys)
  have bt2 := all_true (T5 ++ ys)
  refine ⟨some (.d s.D), some (.d (itemsD xs)), some (.d (.list (T5 ++ ys))), S4, ?_, p4.1.mono (by omega)⟩
  have s_0 : HA_0 (callQ T 39) [e0, e1, some (.ref n), e3, e4, e5, e6, none, none] S = .next [e0, e1, some (.ref n), e3, some (.d s.D), e5, e6, none, none] S1 := by
    generalize s.D = G at *
    simp [HA_0, c1]
  have s_1 : HA_1 (callQ T 39) [e0, e1, some (.ref n), e3, some (.d s.D), e5, e6, none, none] S1 = .next [e0, e1, some (.ref n), e3, some (.d s.D), some (.d (itemsD xs)), e6, none, none] S2 := by
    rw [show ((3 : Nat) : Int) = 3 from rfl, show ((4 : Nat) : Int) = 4 from rfl] at c2
    generalize s.D = G at *
    generalize itemsD xs = X at *
    simp [HA_1, c2]
  have s_2 : HA_2 (callQ T 39) [e0, e1, some (.ref n), e3, some (.d s.D), some (.d (itemsD xs)), e6, none, none] S2 = .next [e0, e1, some (.ref n), e3, some (.d s.D), some (.d (itemsD xs)), some (.d (.list T5)), none, none] S3 := by
    subst hT
    generalize (List.replicate 9 ((xs.map Item.D).take 1)).flatten = R9 at *
    generalize (xs.map Item.D).take 1 = R1 at *
    generalize xs.map Item.D = XD at *
    generalize s.D = G at *
    generalize itemsD xs = X at *
    simp [HA_2, tk, gl, m9, c3, LIM]
  have s_3 : HA_3 (callQ T 39) [e0, e1, some (.ref n), e3, some (.d s.D), some (.d (itemsD xs)), some (.d (.list T5)), none, none] S3 = .next [e0, e1, some (.ref n), e3, some (.d s.D), some (.d (itemsD xs)), some (.d (.list (T5 ++ ys))), none, none] S4 := by
    have hr : inR (10 : Int) = true := by decide
    have hy : ys.length ≤ 16777216 := by omega
    generalize s.D = G at *
    generalize itemsD xs = X at *
    simp [HA_3, notOwn, hr, c4, ad, LIM, hy, -g_addL]
  have s_4 : HA_4 (callQ T 39) [e0, e1, some (.ref n), e3, some (.d s.D), some (.d (itemsD xs)), some (.d (.list (T5 ++ ys))), none, none] S4 = .next [e0, e1, some (.ref n), e3, some (.d s.D), some (.d (itemsD xs)), some (.d (.list (T5 ++ ys))), none, none] S4 := by
    have hl : (T5 ++ ys).length ≤ 16777216 := by
      have h5 : T5.length = 5 := by subst hT; rfl
      simp; omega
    generalize T5 ++ ys = TY at *
    generalize s.D = G at *
    generalize itemsD xs = X at *
    simp [HA_4, notOwn, c5, bt1, bt2, c6, nb, LIM, hl]
  rw [HA_form, seq_nx s_0, seq_nx s_1, seq_nx s_2, seq_nx s_3]
  exact s_4
theorem law_true : ∀ ns : List Int, ns.length ≤ 63 → ∃ S', callQ T 40 "law" [.scr ns] [] = .ok (.d (.bool true)) S' := by
  intro ns hl
  have hh := hand_all 38 rfl [] [some (.scr ns), none, none, none, none, none, none, none, none] (fun d => ⟨_, rfl, rfl⟩)
  have c0 := w_hand 38 []
  have b1 := bools_true handL
  have b2 := all_true handL
  have hl1 : handL.length ≤ 16777216 := by decide +kernel
  obtain ⟨S', e⟩ := loopB (cf := callQ T 39) (M := 3) (by omega) (by omega) (slots := 7) (B := B_law_5) (S0 := []) (r0 := [none, none, none, none, none, none, none]) hl (fun _ => True) (fun r => ∃ e2 e3 e4 e5 e6, r = [e2, e3, e4, e5, e6, none, none]) trivial ⟨_, _, _, _, _, rfl⟩ (by
    rintro j r S - ⟨e2, e3, e4, e5, e6, rfl⟩
    have hcell : ∃ z, callQ T 39 "_law_cell_at" [.scr ns, .d (.int (j : Int))] S = .ok (.d (.int z)) S := by
      rw [callQ_succ T__law_cell_at rfl rfl]
      by_cases h : j < ns.length
      · refine ⟨ns[j], ?_⟩
        simp [F__law_cell_at, startQ, gLen, h, atI_nat]
      · refine ⟨0, ?_⟩
        simp [F__law_cell_at, startQ, gLen, h]
    obtain ⟨e3', r', S2, e, ⟨f4, f5, f6, rfl⟩, -⟩ := lapsB (T := T) (k := 39) (N := 4) (B := B_law_4) (ns := ns) (j := j) (e3 := e3) (r := [e4, e5, e6, none, none]) (S := S) (fun S' n i => Pen S' n i) 1000 (by omega) hcell (fun z => n_pen drT 38 S z) (fun r => ∃ e4 e5 e6, r = [e4, e5, e6, none, none]) ⟨_, _, _, rfl⟩ (by
      rintro e3 r S' i hi p ⟨e4, e5, e6, rfl⟩
      obtain ⟨f4, f5, f6, S2, e, q⟩ := w_turn p (by omega) (some (.scr ns)) (some (.d (.int (j : Int)))) e3 e4 e5 e6 none none
      exact ⟨_, S2, e, q, _, _, _, rfl⟩) e2
    exact ⟨_, S2, e, trivial, _, _, _, _, _, rfl⟩)
  refine ⟨S', ?_⟩
  rw [callQ_succ T_law rfl rfl]
  have hF : F_law = sSeq (sIf (cNot (cVal (fB gAll (aCons (fComp [7] (.name 7) (iSeq (fCall0 "_law_by_hand")) cYes C_law_1) aNil)))) (sRetP (fBl false)) sNext) (lawB 3 B_law_5) := rfl
  have h0 : (sIf (cNot (cVal (fB gAll (aCons (fComp [7] (.name 7) (iSeq (fCall0 "_law_by_hand")) cYes C_law_1) aNil)))) (sRetP (fBl false)) sNext) (callQ T 39) [some (.scr ns), none, none, none, none, none, none, none, none] [] = .next [some (.scr ns), none, none, none, none, none, none, none, none] [] := by
    generalize handL = HL at *
    simp [c0, notOwn, hh, b1, b2, LIM, hl1]
  rw [hF]
  show fin ((sSeq _ (lawB 3 B_law_5)) (callQ T 39) [some (.scr ns), none, none, none, none, none, none, none, none] []) = _
  rw [seq_nx h0]
  exact e
end Q

namespace Q
open PySem PySem.Spec PyProof.Rows L2
/-- the module's names -/
structure GL (K : PySem.W.Frag) (mg : Str → Option Value) : Prop where
  f_all : mg "all" = none
  f_bool : mg "bool" = none
  f_int : mg "int" = none
  f_isinstance : mg "isinstance" = none
  f_len : mg "len" = none
  f_list : mg "list" = none
  f_max : mg "max" = none
  f_min : mg "min" = none
  f_range : mg "range" = none
  f_repr : mg "repr" = none
  f_str : mg "str" = none
  f_tuple : mg "tuple" = none
  i_AGAIN : ∃ t, mg "AGAIN" = some (.str "again" t)
  i_LEAST_WIDE : ∃ t, mg "LEAST_WIDE" = some (.int 4 t)
  i_MOST_BEATS : ∃ t, mg "MOST_BEATS" = some (.int 100000000000 t)
  i_MOST_DEEP : ∃ t, mg "MOST_DEEP" = some (.int 3 t)
  i_MOST_GO : ∃ t, mg "MOST_GO" = some (.int 99 t)
  i_MOST_HIGH : ∃ t, mg "MOST_HIGH" = some (.int 5 t)
  i_MOST_ITEMS : ∃ t, mg "MOST_ITEMS" = some (.int 8 t)
  i_MOST_LIGHTS : ∃ t, mg "MOST_LIGHTS" = some (.int 6 t)
  i_MOST_ROWS : ∃ t, mg "MOST_ROWS" = some (.int 4 t)
  i_MOST_SPEED : ∃ t, mg "MOST_SPEED" = some (.int 9 t)
  i_MOST_TIMES : ∃ t, mg "MOST_TIMES" = some (.int 1000000 t)
  i_MOST_WIDE : ∃ t, mg "MOST_WIDE" = some (.int 12 t)
  sys1 : ∃ o, K.lookup 1 = some o
  x_NoScene : ExcF K mg "NoScene"
  x_NoSky : ExcF K mg "NoSky"
structure CL (P : Program) (w : World) (K : PySem.W.Frag) (mg : Str → Option Value) (base : Heap) (cf : CF) (k : Nat) : Prop where
  c_is_whole : FnQ P w K mg base cf k "is_whole" 1
  c_is_among : FnQ P w K mg base cf k "is_among" 3
  c_is_row : FnQ P w K mg base cf k "is_row" 3
  c_is_light_of : FnQ P w K mg base cf k "is_light_of" 3
  c_is_sky : FnQ P w K mg base cf k "is_sky" 1
  c_need_sky : FnQ P w K mg base cf k "need_sky" 1
  c_is_item : FnQ P w K mg base cf k "is_item" 3
  c_are_items : FnQ P w K mg base cf k "are_items" 3
  c_size_of : FnQ P w K mg base cf k "size_of" 1
  c_is_scene_by : FnQ P w K mg base cf k "is_scene_by" 2
  c_is_scene : FnQ P w K mg base cf k "is_scene" 2
  c_need_scene : FnQ P w K mg base cf k "need_scene" 2
  c_need_both : FnQ P w K mg base cf k "need_both" 2
  c_beats_of : FnQ P w K mg base cf k "beats_of" 2
  c_marks_in : FnQ P w K mg base cf k "marks_in" 1
  c_marks_of : FnQ P w K mg base cf k "marks_of" 2
  c__law_cell_at : FnQ P w K mg base cf k "_law_cell_at" 2
  c__law_pen : FnQ P w K mg base cf k "_law_pen" 1
  c__law_draw : FnQ P w K mg base cf k "_law_draw" 2
  c__law_sky : FnQ P w K mg base cf k "_law_sky" 2
  c__law_go : FnQ P w K mg base cf k "_law_go" 1
  c__law_items : FnQ P w K mg base cf k "_law_items" 4
  c__law_whole : FnQ P w K mg base cf k "_law_whole" 1
  c__law_within : FnQ P w K mg base cf k "_law_within" 3
  c__law_odd : FnQ P w K mg base cf k "_law_odd" 1
  c__law_bent : FnQ P w K mg base cf k "_law_bent" 3
  c__law_are_items : FnQ P w K mg base cf k "_law_are_items" 3
  c__law_is_item : FnQ P w K mg base cf k "_law_is_item" 3
  c__law_counted : FnQ P w K mg base cf k "_law_counted" 1
  c__law_by_hand : FnQ P w K mg base cf k "_law_by_hand" 0
  c__law_right : FnQ P w K mg base cf k "_law_right" 2
  c_law : FnQ P w K mg base cf k "law" 1
section
variable {P : Program} {w : World} {K : PySem.W.Frag} {mg : Str → Option Value} {base : Heap} {cf : CF} {k : Nat} {f : Addr} {cdv : Value} {A : Around} {outer : List Env} {s : Shared} {H : Hp} {E : XK}
theorem nd_is_whole : (["thing"] : List Str).Nodup := by decide +kernel
theorem sc_is_whole : FnScope ["thing"] ["thing"] (defScope s_is_whole) := ⟨rfl, rfl, rfl, nd_is_whole, rfl, by decide +kernel, by decide +kernel⟩
theorem ok_is_whole (g : GL K mg) (C : CL P w K mg base cf k) (hA : A.guards = some []) (hr : Room k (A.deeper (envOfC "is_whole" (defScope s_is_whole) s.heap.objs.size f cdv))) :
    MSs (cxOf (L2.CX P w) P w K mg base ["thing"] "is_whole" (defScope s_is_whole) f cdv A outer s H E) cf (fun c d _ H => E c d H) (defBody s_is_whole) F_is_whole :=
  have nd := nd_is_whole
  have tk : Takes (cxOf (L2.CX P w) P w K mg base ["thing"] "is_whole" (defScope s_is_whole) f cdv A outer s H E) (fun c d _ H => E c d H) := takes_of rfl rfl rfl rfl
  (mss_one (ms_ret (me_and (me_isi (T := "int") (by decide) (by rfl) g.f_isinstance (me_var (pv 0)) (pe_bltn (by rfl) g.f_int (by decide +kernel) rfl)) (me_one (me_not (me_isi (T := "bool") (by decide) (by rfl) g.f_isinstance (me_var (pv 0)) (pe_bltn (by rfl) g.f_bool (by decide +kernel) rfl)))))))
theorem nd_is_among : (["thing", "low", "high"] : List Str).Nodup := by decide +kernel
theorem sc_is_among : FnScope ["thing", "low", "high"] ["thing", "low", "high"] (defScope s_is_among) := ⟨rfl, rfl, rfl, nd_is_among, rfl, by decide +kernel, by decide +kernel⟩
theorem ok_is_among (g : GL K mg) (C : CL P w K mg base cf k) (hA : A.guards = some []) (hr : Room k (A.deeper (envOfC "is_among" (defScope s_is_among) s.heap.objs.size f cdv))) :
    MSs (cxOf (L2.CX P w) P w K mg base ["thing", "low", "high"] "is_among" (defScope s_is_among) f cdv A outer s H E) cf (fun c d _ H => E c d H) (defBody s_is_among) F_is_among :=
  have nd := nd_is_among
  have tk : Takes (cxOf (L2.CX P w) P w K mg base ["thing", "low", "high"] "is_among" (defScope s_is_among) f cdv A outer s H E) (fun c d _ H => E c d H) := takes_of rfl rfl rfl rfl
  (mss_one (ms_ret (me_and (me_call C.c_is_whole hA hr tk (by rfl) (ma_cons (me_var (pv 0)) ma_nil)) (me_one (me_chain cm_le cm_le (me_var (pv 1)) (me_var (pv 0)) (me_var (pv 2)))))))
theorem nd_is_row : (["thing", "low", "high"] : List Str).Nodup := by decide +kernel
theorem sc_is_row : FnScope ["thing", "low", "high"] ["thing", "low", "high"] (defScope s_is_row) := ⟨rfl, rfl, rfl, nd_is_row, rfl, by decide +kernel, by decide +kernel⟩
theorem ok_is_row (g : GL K mg) (C : CL P w K mg base cf k) (hA : A.guards = some []) (hr : Room k (A.deeper (envOfC "is_row" (defScope s_is_row) s.heap.objs.size f cdv))) :
    MSs (cxOf (L2.CX P w) P w K mg base ["thing", "low", "high"] "is_row" (defScope s_is_row) f cdv A outer s H E) cf (fun c d _ H => E c d H) (defBody s_is_row) F_is_row :=
  have nd := nd_is_row
  have tk : Takes (cxOf (L2.CX P w) P w K mg base ["thing", "low", "high"] "is_row" (defScope s_is_row) f cdv A outer s H E) (fun c d _ H => E c d H) := takes_of rfl rfl rfl rfl
  (mss_one (ms_ret (me_and (me_isi (T := "tuple") (by decide) (by rfl) g.f_isinstance (me_var (pv 0)) (pe_bltn (by rfl) g.f_tuple (by decide +kernel) rfl)) (me_one (me_chain cm_le cm_le (me_var (pv 1)) (me_len (by rfl) g.f_len (ma_cons (me_var (pv 0)) ma_nil)) (me_var (pv 2)))))))
theorem nd_is_light_of : (["thing", "wide", "high", "row"] : List Str).Nodup := by decide +kernel
theorem sc_is_light_of : FnScope ["thing", "wide", "high", "row"] ["thing", "wide", "high"] (defScope s_is_light_of) := ⟨rfl, rfl, rfl, nd_is_light_of, rfl, by decide +kernel, by decide +kernel⟩
theorem ok_is_light_of (g : GL K mg) (C : CL P w K mg base cf k) (hA : A.guards = some []) (hr : Room k (A.deeper (envOfC "is_light_of" (defScope s_is_light_of) s.heap.objs.size f cdv))) :
    MSs (cxOf (L2.CX P w) P w K mg base ["thing", "wide", "high", "row"] "is_light_of" (defScope s_is_light_of) f cdv A outer s H E) cf (fun c d _ H => E c d H) (defBody s_is_light_of) F_is_light_of :=
  have nd := nd_is_light_of
  have tk : Takes (cxOf (L2.CX P w) P w K mg base ["thing", "wide", "high", "row"] "is_light_of" (defScope s_is_light_of) f cdv A outer s H E) (fun c d _ H => E c d H) := takes_of rfl rfl rfl rfl
  (mss_cons (ms_if (mt_w (mw_or (mt_not (mt_val (me_call C.c_is_row hA hr tk (by rfl) (ma_cons (me_var (pv 0)) (ma_cons me_int (ma_cons me_int ma_nil)))))) (mw_or1 (mt_not (mt_val (me_call C.c_is_among hA hr tk (by rfl) (ma_cons (me_at (me_var (pv 0)) me_int) (ma_cons me_int (ma_cons (me_sub (me_var (pv 1)) me_int) ma_nil)))))))))
  (mss_one (ms_ret me_bl))
  mss_nil)
  (mss_cons (ms_if (mt_w (mw_or (mt_not (mt_val (me_call C.c_is_among hA hr tk (by rfl) (ma_cons (me_at (me_var (pv 0)) me_int) (ma_cons (me_neg (me_globI (by rfl) g.i_MOST_SPEED)) (ma_cons (me_globI (by rfl) g.i_MOST_SPEED) ma_nil)))))) (mw_or1 (mt_not (mt_val (me_call C.c_is_row hA hr tk (by rfl) (ma_cons (me_at (me_var (pv 0)) me_int) (ma_cons me_int (ma_cons (me_globI (by rfl) g.i_MOST_ROWS) ma_nil)))))))))
  (mss_one (ms_ret me_bl))
  mss_nil)
  (mss_one (ms_ret (me_all rfl (by rfl) g.f_all (ma_cons (me_comp (own := [("row", 3)]) rfl nd (mi_seq (me_at (me_var (pv 0)) me_int)) (blkOk_by (N := ["thing", "wide", "high", "row"]) (sc := defScope s_is_light_of) (own := [("row", 3)]) (by decide +kernel)) (by decide) (fun _ _ _ _ _ => (mg_name (i := 3) nd rfl (by first | exact Or.inl rfl | exact Or.inr rfl))) (fun _ _ _ _ _ => mts_nil) (fun _ _ _ _ _ => (me_call C.c_is_among hA hr takes0 (by rfl) (ma_cons (me_var (pv 3)) (ma_cons me_int (ma_cons (me_sub (me_var (pv 2)) me_int) ma_nil)))))) ma_nil))))))
theorem nd_is_sky : (["thing", "light"] : List Str).Nodup := by decide +kernel
theorem sc_is_sky : FnScope ["thing", "light"] ["thing"] (defScope s_is_sky) := ⟨rfl, rfl, rfl, nd_is_sky, rfl, by decide +kernel, by decide +kernel⟩
theorem ok_is_sky (g : GL K mg) (C : CL P w K mg base cf k) (hA : A.guards = some []) (hr : Room k (A.deeper (envOfC "is_sky" (defScope s_is_sky) s.heap.objs.size f cdv))) :
    MSs (cxOf (L2.CX P w) P w K mg base ["thing", "light"] "is_sky" (defScope s_is_sky) f cdv A outer s H E) cf (fun c d _ H => E c d H) (defBody s_is_sky) F_is_sky :=
  have nd := nd_is_sky
  have tk : Takes (cxOf (L2.CX P w) P w K mg base ["thing", "light"] "is_sky" (defScope s_is_sky) f cdv A outer s H E) (fun c d _ H => E c d H) := takes_of rfl rfl rfl rfl
  (mss_cons (ms_if (mt_w (mw_or (mt_not (mt_val (me_call C.c_is_row hA hr tk (by rfl) (ma_cons (me_var (pv 0)) (ma_cons me_int (ma_cons me_int ma_nil)))))) (mw_or1 (mt_not (mt_val (me_call C.c_is_among hA hr tk (by rfl) (ma_cons (me_at (me_var (pv 0)) me_int) (ma_cons (me_globI (by rfl) g.i_LEAST_WIDE) (ma_cons (me_globI (by rfl) g.i_MOST_WIDE) ma_nil)))))))))
  (mss_one (ms_ret me_bl))
  mss_nil)
  (mss_cons (ms_if (mt_w (mw_or (mt_not (mt_val (me_call C.c_is_among hA hr tk (by rfl) (ma_cons (me_at (me_var (pv 0)) me_int) (ma_cons me_int (ma_cons (me_globI (by rfl) g.i_MOST_HIGH) ma_nil)))))) (mw_or1 (mt_not (mt_val (me_call C.c_is_row hA hr tk (by rfl) (ma_cons (me_at (me_var (pv 0)) me_int) (ma_cons me_int (ma_cons (me_globI (by rfl) g.i_MOST_LIGHTS) ma_nil)))))))))
  (mss_one (ms_ret me_bl))
  mss_nil)
  (mss_one (ms_ret (me_all rfl (by rfl) g.f_all (ma_cons (me_comp (own := [("light", 1)]) rfl nd (mi_seq (me_at (me_var (pv 0)) me_int)) (blkOk_by (N := ["thing", "light"]) (sc := defScope s_is_sky) (own := [("light", 1)]) (by decide +kernel)) (by decide) (fun _ _ _ _ _ => (mg_name (i := 1) nd rfl (by first | exact Or.inl rfl | exact Or.inr rfl))) (fun _ _ _ _ _ => mts_nil) (fun _ _ _ _ _ => (me_call C.c_is_light_of hA hr takes0 (by rfl) (ma_cons (me_var (pv 1)) (ma_cons (me_at (me_var (pv 0)) me_int) (ma_cons (me_at (me_var (pv 0)) me_int) ma_nil)))))) ma_nil))))))
theorem nd_need_sky : (["thing"] : List Str).Nodup := by decide +kernel
theorem sc_need_sky : FnScope ["thing"] ["thing"] (defScope s_need_sky) := ⟨rfl, rfl, rfl, nd_need_sky, rfl, by decide +kernel, by decide +kernel⟩
theorem ok_need_sky (g : GL K mg) (C : CL P w K mg base cf k) (hA : A.guards = some []) (hr : Room k (A.deeper (envOfC "need_sky" (defScope s_need_sky) s.heap.objs.size f cdv))) :
    MSs (cxOf (L2.CX P w) P w K mg base ["thing"] "need_sky" (defScope s_need_sky) f cdv A outer s H E) cf (fun c d _ H => E c d H) (defBody s_need_sky) F_need_sky :=
  have nd := nd_need_sky
  have tk : Takes (cxOf (L2.CX P w) P w K mg base ["thing"] "need_sky" (defScope s_need_sky) f cdv A outer s H E) (fun c d _ H => E c d H) := takes_of rfl rfl rfl rfl
  (mss_one (ms_if (mt_not (mt_val (me_call C.c_is_sky hA hr tk (by rfl) (ma_cons (me_var (pv 0)) ma_nil))))
  (mss_one (ms_raise g.x_NoSky rfl tk (by rfl)))
  mss_nil))
theorem nd_is_item : (["sky", "thing", "deep", "one"] : List Str).Nodup := by decide +kernel
theorem sc_is_item : FnScope ["sky", "thing", "deep", "one"] ["sky", "thing", "deep"] (defScope s_is_item) := ⟨rfl, rfl, rfl, nd_is_item, rfl, by decide +kernel, by decide +kernel⟩
theorem ok_is_item (g : GL K mg) (C : CL P w K mg base cf k) (hA : A.guards = some []) (hr : Room k (A.deeper (envOfC "is_item" (defScope s_is_item) s.heap.objs.size f cdv))) :
    MSs (cxOf (L2.CX P w) P w K mg base ["sky", "thing", "deep", "one"] "is_item" (defScope s_is_item) f cdv A outer s H E) cf (fun c d _ H => E c d H) (defBody s_is_item) F_is_item :=
  have nd := nd_is_item
  have tk : Takes (cxOf (L2.CX P w) P w K mg base ["sky", "thing", "deep", "one"] "is_item" (defScope s_is_item) f cdv A outer s H E) (fun c d _ H => E c d H) := takes_of rfl rfl rfl rfl
  (mss_cons (ms_if (mt_w (mw_or (mt_not (mt_val (me_isi (T := "tuple") (by decide) (by rfl) g.f_isinstance (me_var (pv 1)) (pe_bltn (by rfl) g.f_tuple (by decide +kernel) rfl)))) (mw_or (mt_c (cm_eqM hr) (me_var (pv 1)) (me_tup ma_nil) (by rfl)) (mw_or1 (mt_not (mt_val (me_isi (T := "str") (by decide) (by rfl) g.f_isinstance (me_at (me_var (pv 1)) me_int) (pe_bltn (by rfl) g.f_str (by decide +kernel) rfl))))))))
  (mss_one (ms_ret me_bl))
  mss_nil)
  (mss_cons (ms_if (mt_c (cm_eq hr) (me_at (me_var (pv 1)) me_int) me_str (by rfl))
  (mss_one (ms_ret (me_and (me_c (cm_eq hr) (me_len (by rfl) g.f_len (ma_cons (me_var (pv 1)) ma_nil)) me_int (by rfl)) (me_one (me_all rfl (by rfl) g.f_all (ma_cons (me_comp (own := [("one", 3)]) rfl nd (mi_seq (me_slice (me_var (pv 1)) (mo_some me_int) mo_none)) (blkOk_by (N := ["sky", "thing", "deep", "one"]) (sc := defScope s_is_item) (own := [("one", 3)]) (by decide +kernel)) (by decide) (fun _ _ _ _ _ => (mg_name (i := 3) nd rfl (by first | exact Or.inl rfl | exact Or.inr rfl))) (fun _ _ _ _ _ => mts_nil) (fun _ _ _ _ _ => (me_call C.c_is_among hA hr takes0 (by rfl) (ma_cons (me_var (pv 3)) (ma_cons (me_sub me_int (me_globI (by rfl) g.i_MOST_GO)) (ma_cons (me_globI (by rfl) g.i_MOST_GO) ma_nil)))))) ma_nil))))))
  mss_nil)
  (mss_cons (ms_if (mt_c (cm_eq hr) (me_at (me_var (pv 1)) me_int) me_str (by rfl))
  (mss_one (ms_ret (me_and (me_c (cm_eq hr) (me_len (by rfl) g.f_len (ma_cons (me_var (pv 1)) ma_nil)) me_int (by rfl)) (me_one (me_call C.c_is_among hA hr tk (by rfl) (ma_cons (me_at (me_var (pv 1)) me_int) (ma_cons me_int (ma_cons (me_sub (me_len (by rfl) g.f_len (ma_cons (me_at (me_var (pv 0)) me_int) ma_nil)) me_int) ma_nil))))))))
  mss_nil)
  (mss_cons (ms_if (mt_c (cm_eq hr) (me_at (me_var (pv 1)) me_int) (me_globS (by rfl) g.i_AGAIN) (by rfl))
  (mss_one (ms_ret (me_and (me_c (cm_eq hr) (me_len (by rfl) g.f_len (ma_cons (me_var (pv 1)) ma_nil)) me_int (by rfl)) (me_and (me_c cm_gt (me_var (pv 2)) me_int (by rfl)) (me_and (me_call C.c_is_among hA hr tk (by rfl) (ma_cons (me_at (me_var (pv 1)) me_int) (ma_cons me_int (ma_cons (me_globI (by rfl) g.i_MOST_TIMES) ma_nil)))) (me_one (me_call C.c_are_items hA hr tk (by rfl) (ma_cons (me_var (pv 0)) (ma_cons (me_at (me_var (pv 1)) me_int) (ma_cons (me_sub (me_var (pv 2)) me_int) ma_nil))))))))))
  mss_nil)
  (mss_one (ms_ret (me_c (cm_eqM hr) (me_var (pv 1)) (me_tup (ma_cons me_str ma_nil)) (by rfl))))))))
theorem nd_are_items : (["sky", "thing", "deep", "one"] : List Str).Nodup := by decide +kernel
theorem sc_are_items : FnScope ["sky", "thing", "deep", "one"] ["sky", "thing", "deep"] (defScope s_are_items) := ⟨rfl, rfl, rfl, nd_are_items, rfl, by decide +kernel, by decide +kernel⟩
theorem ok_are_items (g : GL K mg) (C : CL P w K mg base cf k) (hA : A.guards = some []) (hr : Room k (A.deeper (envOfC "are_items" (defScope s_are_items) s.heap.objs.size f cdv))) :
    MSs (cxOf (L2.CX P w) P w K mg base ["sky", "thing", "deep", "one"] "are_items" (defScope s_are_items) f cdv A outer s H E) cf (fun c d _ H => E c d H) (defBody s_are_items) F_are_items :=
  have nd := nd_are_items
  have tk : Takes (cxOf (L2.CX P w) P w K mg base ["sky", "thing", "deep", "one"] "are_items" (defScope s_are_items) f cdv A outer s H E) (fun c d _ H => E c d H) := takes_of rfl rfl rfl rfl
  (mss_one (ms_ret (me_and (me_call C.c_is_row hA hr tk (by rfl) (ma_cons (me_var (pv 1)) (ma_cons me_int (ma_cons (me_globI (by rfl) g.i_MOST_ITEMS) ma_nil)))) (me_one (me_all rfl (by rfl) g.f_all (ma_cons (me_comp (own := [("one", 3)]) rfl nd (mi_seq (me_var (pv 1))) (blkOk_by (N := ["sky", "thing", "deep", "one"]) (sc := defScope s_are_items) (own := [("one", 3)]) (by decide +kernel)) (by decide) (fun _ _ _ _ _ => (mg_name (i := 3) nd rfl (by first | exact Or.inl rfl | exact Or.inr rfl))) (fun _ _ _ _ _ => mts_nil) (fun _ _ _ _ _ => (me_call C.c_is_item hA hr takes0 (by rfl) (ma_cons (me_var (pv 0)) (ma_cons (me_var (pv 3)) (ma_cons (me_var (pv 2)) ma_nil)))))) ma_nil))))))
theorem nd_size_of : (["items", "found", "item"] : List Str).Nodup := by decide +kernel
theorem sc_size_of : FnScope ["items", "found", "item"] ["items"] (defScope s_size_of) := ⟨rfl, rfl, rfl, nd_size_of, rfl, by decide +kernel, by decide +kernel⟩
theorem ok_size_of (g : GL K mg) (C : CL P w K mg base cf k) (hA : A.guards = some []) (hr : Room k (A.deeper (envOfC "size_of" (defScope s_size_of) s.heap.objs.size f cdv))) :
    MSs (cxOf (L2.CX P w) P w K mg base ["items", "found", "item"] "size_of" (defScope s_size_of) f cdv A outer s H E) cf (fun c d _ H => E c d H) (defBody s_size_of) F_size_of :=
  have nd := nd_size_of
  have tk : Takes (cxOf (L2.CX P w) P w K mg base ["items", "found", "item"] "size_of" (defScope s_size_of) f cdv A outer s H E) (fun c d _ H => E c d H) := takes_of rfl rfl rfl rfl
  (mss_cons (ms_set (i := 1) nd rfl (by first | exact Or.inl rfl | exact Or.inr rfl) me_int)
  (mss_cons (ms_for (passes_of rfl) rfl (mi_seq (me_var (pv 0))) (mg_name (i := 2) nd rfl (by first | exact Or.inl rfl | exact Or.inr rfl))
  (mss_one (ms_if (mt_c (cm_eq hr) (me_at (me_var (pv 2)) me_int) (me_globS (by rfl) g.i_AGAIN) (by rfl))
  (mss_one (ms_augAdd (i := 1) nd rfl (by first | exact Or.inl rfl | exact Or.inr rfl) (me_mul (me_at (me_var (pv 2)) me_int) (me_call C.c_size_of hA hr tk (by rfl) (ma_cons (me_at (me_var (pv 2)) me_int) ma_nil)))))
  (mss_one (ms_augAdd (i := 1) nd rfl (by first | exact Or.inl rfl | exact Or.inr rfl) (me_intc (by rfl) g.f_int (ma_cons (me_c (cm_ne hr) (me_at (me_var (pv 2)) me_int) me_str (by rfl)) ma_nil)))))))
  (mss_one (ms_ret (me_var (pv 1))))))
theorem nd_is_scene_by : (["sky", "thing"] : List Str).Nodup := by decide +kernel
theorem sc_is_scene_by : FnScope ["sky", "thing"] ["sky", "thing"] (defScope s_is_scene_by) := ⟨rfl, rfl, rfl, nd_is_scene_by, rfl, by decide +kernel, by decide +kernel⟩
theorem ok_is_scene_by (g : GL K mg) (C : CL P w K mg base cf k) (hA : A.guards = some []) (hr : Room k (A.deeper (envOfC "is_scene_by" (defScope s_is_scene_by) s.heap.objs.size f cdv))) :
    MSs (cxOf (L2.CX P w) P w K mg base ["sky", "thing"] "is_scene_by" (defScope s_is_scene_by) f cdv A outer s H E) cf (fun c d _ H => E c d H) (defBody s_is_scene_by) F_is_scene_by :=
  have nd := nd_is_scene_by
  have tk : Takes (cxOf (L2.CX P w) P w K mg base ["sky", "thing"] "is_scene_by" (defScope s_is_scene_by) f cdv A outer s H E) (fun c d _ H => E c d H) := takes_of rfl rfl rfl rfl
  (mss_one (ms_ret (me_and (me_call C.c_are_items hA hr tk (by rfl) (ma_cons (me_var (pv 0)) (ma_cons (me_var (pv 1)) (ma_cons (me_globI (by rfl) g.i_MOST_DEEP) ma_nil)))) (me_one (me_c cm_le (me_call C.c_size_of hA hr tk (by rfl) (ma_cons (me_var (pv 1)) ma_nil)) (me_globI (by rfl) g.i_MOST_BEATS) (by rfl))))))
theorem nd_is_scene : (["sky", "thing"] : List Str).Nodup := by decide +kernel
theorem sc_is_scene : FnScope ["sky", "thing"] ["sky", "thing"] (defScope s_is_scene) := ⟨rfl, rfl, rfl, nd_is_scene, rfl, by decide +kernel, by decide +kernel⟩
theorem ok_is_scene (g : GL K mg) (C : CL P w K mg base cf k) (hA : A.guards = some []) (hr : Room k (A.deeper (envOfC "is_scene" (defScope s_is_scene) s.heap.objs.size f cdv))) :
    MSs (cxOf (L2.CX P w) P w K mg base ["sky", "thing"] "is_scene" (defScope s_is_scene) f cdv A outer s H E) cf (fun c d _ H => E c d H) (defBody s_is_scene) F_is_scene :=
  have nd := nd_is_scene
  have tk : Takes (cxOf (L2.CX P w) P w K mg base ["sky", "thing"] "is_scene" (defScope s_is_scene) f cdv A outer s H E) (fun c d _ H => E c d H) := takes_of rfl rfl rfl rfl
  (mss_cons (ms_expr (me_call C.c_need_sky hA hr tk (by rfl) (ma_cons (me_var (pv 0)) ma_nil)))
  (mss_one (ms_ret (me_call C.c_is_scene_by hA hr tk (by rfl) (ma_cons (me_var (pv 0)) (ma_cons (me_var (pv 1)) ma_nil))))))
theorem nd_need_scene : (["sky", "thing"] : List Str).Nodup := by decide +kernel
theorem sc_need_scene : FnScope ["sky", "thing"] ["sky", "thing"] (defScope s_need_scene) := ⟨rfl, rfl, rfl, nd_need_scene, rfl, by decide +kernel, by decide +kernel⟩
theorem ok_need_scene (g : GL K mg) (C : CL P w K mg base cf k) (hA : A.guards = some []) (hr : Room k (A.deeper (envOfC "need_scene" (defScope s_need_scene) s.heap.objs.size f cdv))) :
    MSs (cxOf (L2.CX P w) P w K mg base ["sky", "thing"] "need_scene" (defScope s_need_scene) f cdv A outer s H E) cf (fun c d _ H => E c d H) (defBody s_need_scene) F_need_scene :=
  have nd := nd_need_scene
  have tk : Takes (cxOf (L2.CX P w) P w K mg base ["sky", "thing"] "need_scene" (defScope s_need_scene) f cdv A outer s H E) (fun c d _ H => E c d H) := takes_of rfl rfl rfl rfl
  (mss_one (ms_if (mt_not (mt_val (me_call C.c_is_scene_by hA hr tk (by rfl) (ma_cons (me_var (pv 0)) (ma_cons (me_var (pv 1)) ma_nil)))))
  (mss_one (ms_raise g.x_NoScene rfl tk (by rfl)))
  mss_nil))
theorem nd_need_both : (["sky", "scene"] : List Str).Nodup := by decide +kernel
theorem sc_need_both : FnScope ["sky", "scene"] ["sky", "scene"] (defScope s_need_both) := ⟨rfl, rfl, rfl, nd_need_both, rfl, by decide +kernel, by decide +kernel⟩
theorem ok_need_both (g : GL K mg) (C : CL P w K mg base cf k) (hA : A.guards = some []) (hr : Room k (A.deeper (envOfC "need_both" (defScope s_need_both) s.heap.objs.size f cdv))) :
    MSs (cxOf (L2.CX P w) P w K mg base ["sky", "scene"] "need_both" (defScope s_need_both) f cdv A outer s H E) cf (fun c d _ H => E c d H) (defBody s_need_both) F_need_both :=
  have nd := nd_need_both
  have tk : Takes (cxOf (L2.CX P w) P w K mg base ["sky", "scene"] "need_both" (defScope s_need_both) f cdv A outer s H E) (fun c d _ H => E c d H) := takes_of rfl rfl rfl rfl
  (mss_cons (ms_expr (me_call C.c_need_sky hA hr tk (by rfl) (ma_cons (me_var (pv 0)) ma_nil)))
  (mss_one (ms_expr (me_call C.c_need_scene hA hr tk (by rfl) (ma_cons (me_var (pv 0)) (ma_cons (me_var (pv 1)) ma_nil))))))
theorem nd_beats_of : (["sky", "scene"] : List Str).Nodup := by decide +kernel
theorem sc_beats_of : FnScope ["sky", "scene"] ["sky", "scene"] (defScope s_beats_of) := ⟨rfl, rfl, rfl, nd_beats_of, rfl, by decide +kernel, by decide +kernel⟩
theorem ok_beats_of (g : GL K mg) (C : CL P w K mg base cf k) (hA : A.guards = some []) (hr : Room k (A.deeper (envOfC "beats_of" (defScope s_beats_of) s.heap.objs.size f cdv))) :
    MSs (cxOf (L2.CX P w) P w K mg base ["sky", "scene"] "beats_of" (defScope s_beats_of) f cdv A outer s H E) cf (fun c d _ H => E c d H) (defBody s_beats_of) F_beats_of :=
  have nd := nd_beats_of
  have tk : Takes (cxOf (L2.CX P w) P w K mg base ["sky", "scene"] "beats_of" (defScope s_beats_of) f cdv A outer s H E) (fun c d _ H => E c d H) := takes_of rfl rfl rfl rfl
  (mss_cons (ms_expr (me_call C.c_need_both hA hr tk (by rfl) (ma_cons (me_var (pv 0)) (ma_cons (me_var (pv 1)) ma_nil))))
  (mss_one (ms_ret (me_call C.c_size_of hA hr tk (by rfl) (ma_cons (me_var (pv 1)) ma_nil)))))
theorem nd_marks_in : (["items", "found", "item"] : List Str).Nodup := by decide +kernel
theorem sc_marks_in : FnScope ["items", "found", "item"] ["items"] (defScope s_marks_in) := ⟨rfl, rfl, rfl, nd_marks_in, rfl, by decide +kernel, by decide +kernel⟩
theorem ok_marks_in (g : GL K mg) (C : CL P w K mg base cf k) (hA : A.guards = some []) (hr : Room k (A.deeper (envOfC "marks_in" (defScope s_marks_in) s.heap.objs.size f cdv))) :
    MSs (cxOf (L2.CX P w) P w K mg base ["items", "found", "item"] "marks_in" (defScope s_marks_in) f cdv A outer s H E) cf (fun c d _ H => E c d H) (defBody s_marks_in) F_marks_in :=
  have nd := nd_marks_in
  have tk : Takes (cxOf (L2.CX P w) P w K mg base ["items", "found", "item"] "marks_in" (defScope s_marks_in) f cdv A outer s H E) (fun c d _ H => E c d H) := takes_of rfl rfl rfl rfl
  (mss_cons (ms_set (i := 1) nd rfl (by first | exact Or.inl rfl | exact Or.inr rfl) me_int)
  (mss_cons (ms_for (passes_of rfl) rfl (mi_seq (me_var (pv 0))) (mg_name (i := 2) nd rfl (by first | exact Or.inl rfl | exact Or.inr rfl))
  (mss_one (ms_if (mt_c (cm_eq hr) (me_at (me_var (pv 2)) me_int) (me_globS (by rfl) g.i_AGAIN) (by rfl))
  (mss_one (ms_augAdd (i := 1) nd rfl (by first | exact Or.inl rfl | exact Or.inr rfl) (me_mul (me_at (me_var (pv 2)) me_int) (me_call C.c_marks_in hA hr tk (by rfl) (ma_cons (me_at (me_var (pv 2)) me_int) ma_nil)))))
  (mss_one (ms_augAdd (i := 1) nd rfl (by first | exact Or.inl rfl | exact Or.inr rfl) (me_intc (by rfl) g.f_int (ma_cons (me_c (cm_eq hr) (me_at (me_var (pv 2)) me_int) me_str (by rfl)) ma_nil)))))))
  (mss_one (ms_ret (me_var (pv 1))))))
theorem nd_marks_of : (["sky", "scene"] : List Str).Nodup := by decide +kernel
theorem sc_marks_of : FnScope ["sky", "scene"] ["sky", "scene"] (defScope s_marks_of) := ⟨rfl, rfl, rfl, nd_marks_of, rfl, by decide +kernel, by decide +kernel⟩
theorem ok_marks_of (g : GL K mg) (C : CL P w K mg base cf k) (hA : A.guards = some []) (hr : Room k (A.deeper (envOfC "marks_of" (defScope s_marks_of) s.heap.objs.size f cdv))) :
    MSs (cxOf (L2.CX P w) P w K mg base ["sky", "scene"] "marks_of" (defScope s_marks_of) f cdv A outer s H E) cf (fun c d _ H => E c d H) (defBody s_marks_of) F_marks_of :=
  have nd := nd_marks_of
  have tk : Takes (cxOf (L2.CX P w) P w K mg base ["sky", "scene"] "marks_of" (defScope s_marks_of) f cdv A outer s H E) (fun c d _ H => E c d H) := takes_of rfl rfl rfl rfl
  (mss_cons (ms_expr (me_call C.c_need_both hA hr tk (by rfl) (ma_cons (me_var (pv 0)) (ma_cons (me_var (pv 1)) ma_nil))))
  (mss_one (ms_ret (me_call C.c_marks_in hA hr tk (by rfl) (ma_cons (me_var (pv 1)) ma_nil)))))
theorem nd__law_cell_at : (["_law_script", "_law_k"] : List Str).Nodup := by decide +kernel
theorem sc__law_cell_at : FnScope ["_law_script", "_law_k"] ["_law_script", "_law_k"] (defScope s__law_cell_at) := ⟨rfl, rfl, rfl, nd__law_cell_at, rfl, by decide +kernel, by decide +kernel⟩
theorem ok__law_cell_at (g : GL K mg) (C : CL P w K mg base cf k) (hA : A.guards = some []) (hr : Room k (A.deeper (envOfC "_law_cell_at" (defScope s__law_cell_at) s.heap.objs.size f cdv))) :
    MSs (cxOf (L2.CX P w) P w K mg base ["_law_script", "_law_k"] "_law_cell_at" (defScope s__law_cell_at) f cdv A outer s H E) cf (fun c d _ H => E c d H) (defBody s__law_cell_at) F__law_cell_at :=
  have nd := nd__law_cell_at
  have tk : Takes (cxOf (L2.CX P w) P w K mg base ["_law_script", "_law_k"] "_law_cell_at" (defScope s__law_cell_at) f cdv A outer s H E) (fun c d _ H => E c d H) := takes_of rfl rfl rfl rfl
  (mss_cons (ms_if (mt_c cm_lt (me_var (pv 1)) (me_len (by rfl) g.f_len (ma_cons (me_var (pv 0)) ma_nil)) (by rfl))
  (mss_one (ms_ret (me_at (me_var (pv 0)) (me_var (pv 1)))))
  mss_nil)
  (mss_one (ms_ret me_int)))
theorem nd__law_pen : (["_law_cell"] : List Str).Nodup := by decide +kernel
theorem sc__law_pen : FnScope ["_law_cell"] ["_law_cell"] (defScope s__law_pen) := ⟨rfl, rfl, rfl, nd__law_pen, rfl, by decide +kernel, by decide +kernel⟩
theorem ok__law_pen (g : GL K mg) (C : CL P w K mg base cf k) (hA : A.guards = some []) (hr : Room k (A.deeper (envOfC "_law_pen" (defScope s__law_pen) s.heap.objs.size f cdv))) :
    MSs (cxOf (L2.CX P w) P w K mg base ["_law_cell"] "_law_pen" (defScope s__law_pen) f cdv A outer s H E) cf (fun c d _ H => E c d H) (defBody s__law_pen) F__law_pen :=
  have nd := nd__law_pen
  have tk : Takes (cxOf (L2.CX P w) P w K mg base ["_law_cell"] "_law_pen" (defScope s__law_pen) f cdv A outer s H E) (fun c d _ H => E c d H) := takes_of rfl rfl rfl rfl
  (mss_one (ms_ret (me_newL (ma_cons (me_max2 rfl (by rfl) g.f_max (ma_cons me_int (ma_cons (me_sub (me_var (pv 0)) (me_pow me_int me_int)) ma_nil))) (ma_cons (me_mod (me_var (pv 0)) me_int) (ma_cons me_int ma_nil))))))
theorem nd__law_draw : (["_law_pen_here", "_law_many", "_law_digit", "_law_stir"] : List Str).Nodup := by decide +kernel
theorem sc__law_draw : FnScope ["_law_pen_here", "_law_many", "_law_digit", "_law_stir"] ["_law_pen_here", "_law_many"] (defScope s__law_draw) := ⟨rfl, rfl, rfl, nd__law_draw, rfl, by decide +kernel, by decide +kernel⟩
theorem ok__law_draw (g : GL K mg) (C : CL P w K mg base cf k) (hA : A.guards = some []) (hr : Room k (A.deeper (envOfC "_law_draw" (defScope s__law_draw) s.heap.objs.size f cdv))) :
    MSs (cxOf (L2.CX P w) P w K mg base ["_law_pen_here", "_law_many", "_law_digit", "_law_stir"] "_law_draw" (defScope s__law_draw) f cdv A outer s H E) cf (fun c d _ H => E c d H) (defBody s__law_draw) F__law_draw :=
  have nd := nd__law_draw
  have tk : Takes (cxOf (L2.CX P w) P w K mg base ["_law_pen_here", "_law_many", "_law_digit", "_law_stir"] "_law_draw" (defScope s__law_draw) f cdv A outer s H E) (fun c d _ H => E c d H) := takes_of rfl rfl rfl rfl
  (mss_cons (ms_if (mt_c cm_gt (me_at (me_var (pv 0)) me_int) me_int (by rfl))
  (mss_cons (ms_set (i := 2) nd rfl (by first | exact Or.inl rfl | exact Or.inr rfl) (me_mod (me_at (me_var (pv 0)) me_int) (me_var (pv 1))))
  (mss_cons (ms_setIx (me_div (me_at (me_var (pv 0)) me_int) (me_var (pv 1))) (me_var (pv 0)) me_int)
  (mss_one (ms_ret (me_var (pv 2))))))
  mss_nil)
  (mss_cons (ms_setIx (me_add (me_at (me_var (pv 0)) me_int) me_int) (me_var (pv 0)) me_int)
  (mss_cons (ms_set (i := 3) nd rfl (by first | exact Or.inl rfl | exact Or.inr rfl) (me_mod (me_mul (me_add (me_at (me_var (pv 0)) me_int) (me_mul me_int (me_at (me_var (pv 0)) me_int))) (me_add me_int (me_mul me_int (me_at (me_var (pv 0)) me_int)))) me_int))
  (mss_cons (ms_set (i := 3) nd rfl (by first | exact Or.inl rfl | exact Or.inr rfl) (me_mod (me_add (me_add (me_mul (me_var (pv 3)) (me_var (pv 3))) (me_mul me_int (me_at (me_var (pv 0)) me_int))) me_int) me_int))
  (mss_one (ms_ret (me_mod (me_div (me_mod (me_mul (me_var (pv 3)) me_int) me_int) me_int) (me_var (pv 1)))))))))
theorem nd__law_sky : (["_law_pen_here", "_law_most", "_law_wide", "_law_high", "_law_lights", "_law_light", "_law_rows", "_law_turn"] : List Str).Nodup := by decide +kernel
theorem sc__law_sky : FnScope ["_law_pen_here", "_law_most", "_law_wide", "_law_high", "_law_lights", "_law_light", "_law_rows", "_law_turn"] ["_law_pen_here", "_law_most"] (defScope s__law_sky) := ⟨rfl, rfl, rfl, nd__law_sky, rfl, by decide +kernel, by decide +kernel⟩
theorem ok__law_sky (g : GL K mg) (C : CL P w K mg base cf k) (hA : A.guards = some []) (hr : Room k (A.deeper (envOfC "_law_sky" (defScope s__law_sky) s.heap.objs.size f cdv))) :
    MSs (cxOf (L2.CX P w) P w K mg base ["_law_pen_here", "_law_most", "_law_wide", "_law_high", "_law_lights", "_law_light", "_law_rows", "_law_turn"] "_law_sky" (defScope s__law_sky) f cdv A outer s H E) cf (fun c d _ H => E c d H) (defBody s__law_sky) F__law_sky :=
  have nd := nd__law_sky
  have tk : Takes (cxOf (L2.CX P w) P w K mg base ["_law_pen_here", "_law_most", "_law_wide", "_law_high", "_law_lights", "_law_light", "_law_rows", "_law_turn"] "_law_sky" (defScope s__law_sky) f cdv A outer s H E) (fun c d _ H => E c d H) := takes_of rfl rfl rfl rfl
  (mss_cons (ms_unp (me_tup (ma_cons (me_add me_int (me_call C.c__law_draw hA hr tk (by rfl) (ma_cons (me_var (pv 0)) (ma_cons me_int ma_nil)))) (ma_cons (me_add me_int (me_call C.c__law_draw hA hr tk (by rfl) (ma_cons (me_var (pv 0)) (ma_cons me_int ma_nil)))) ma_nil))) (mg_names rfl (mgs_cons (mg_name (i := 2) nd rfl (by first | exact Or.inl rfl | exact Or.inr rfl)) (mgs_cons (mg_name (i := 3) nd rfl (by first | exact Or.inl rfl | exact Or.inr rfl)) mgs_nil))))
  (mss_cons (ms_new (i := 4) nd rfl (by first | exact Or.inl rfl | exact Or.inr rfl) ma_nil)
  (mss_cons (ms_for (passes_of rfl) rfl (mi_range1 (by rfl) g.f_range (ma_cons (me_add me_int (me_call C.c__law_draw hA hr tk (by rfl) (ma_cons (me_var (pv 0)) (ma_cons (me_var (pv 1)) ma_nil)))) ma_nil)) (mg_name (i := 5) nd rfl (by first | exact Or.inl rfl | exact Or.inr rfl))
  (mss_cons (ms_set (i := 6) nd rfl (by first | exact Or.inl rfl | exact Or.inr rfl) (me_tuple (by rfl) g.f_tuple (ma_cons (me_comp (own := [("_law_turn", 7)]) rfl nd (mi_range1 (by rfl) g.f_range (ma_cons (me_add me_int (me_call C.c__law_draw hA hr tk (by rfl) (ma_cons (me_var (pv 0)) (ma_cons me_int ma_nil)))) ma_nil)) (blkOk_by (N := ["_law_pen_here", "_law_most", "_law_wide", "_law_high", "_law_lights", "_law_light", "_law_rows", "_law_turn"]) (sc := defScope s__law_sky) (own := [("_law_turn", 7)]) (by decide +kernel)) (by decide) (fun _ _ _ _ _ => (mg_name (i := 7) nd rfl (by first | exact Or.inl rfl | exact Or.inr rfl))) (fun _ _ _ _ _ => mts_nil) (fun _ _ _ _ _ => (me_call C.c__law_draw hA hr takes0 (by rfl) (ma_cons (me_var (pv 0)) (ma_cons (me_var (pv 3)) ma_nil))))) ma_nil)))
  (mss_one (ms_app (pv 4) (me_tup (ma_cons (me_call C.c__law_draw hA hr tk (by rfl) (ma_cons (me_var (pv 0)) (ma_cons (me_var (pv 2)) ma_nil))) (ma_cons (me_sub (me_call C.c__law_draw hA hr tk (by rfl) (ma_cons (me_var (pv 0)) (ma_cons me_int ma_nil))) me_int) (ma_cons (me_var (pv 6)) ma_nil))))))))
  (mss_one (ms_ret (me_tup (ma_cons (me_var (pv 2)) (ma_cons (me_var (pv 3)) (ma_cons (me_tuple (by rfl) g.f_tuple (ma_one (me_own (pv 4)))) ma_nil)))))))))
theorem nd__law_go : (["_law_pen_here", "_law_far", "_law_moments", "_law_east"] : List Str).Nodup := by decide +kernel
theorem sc__law_go : FnScope ["_law_pen_here", "_law_far", "_law_moments", "_law_east"] ["_law_pen_here"] (defScope s__law_go) := ⟨rfl, rfl, rfl, nd__law_go, rfl, by decide +kernel, by decide +kernel⟩
theorem ok__law_go (g : GL K mg) (C : CL P w K mg base cf k) (hA : A.guards = some []) (hr : Room k (A.deeper (envOfC "_law_go" (defScope s__law_go) s.heap.objs.size f cdv))) :
    MSs (cxOf (L2.CX P w) P w K mg base ["_law_pen_here", "_law_far", "_law_moments", "_law_east"] "_law_go" (defScope s__law_go) f cdv A outer s H E) cf (fun c d _ H => E c d H) (defBody s__law_go) F__law_go :=
  have nd := nd__law_go
  have tk : Takes (cxOf (L2.CX P w) P w K mg base ["_law_pen_here", "_law_far", "_law_moments", "_law_east"] "_law_go" (defScope s__law_go) f cdv A outer s H E) (fun c d _ H => E c d H) := takes_of rfl rfl rfl rfl
  (mss_cons (ms_set (i := 1) nd rfl (by first | exact Or.inl rfl | exact Or.inr rfl) (me_at (me_lst (ma_cons me_int (ma_cons me_int (ma_cons me_int ma_nil)))) (me_call C.c__law_draw hA hr tk (by rfl) (ma_cons (me_var (pv 0)) (ma_cons me_int ma_nil)))))
  (mss_cons (ms_par2 (i := 2) (j := 3) rfl nd rfl rfl (by decide) rfl rfl (ma_cons (me_sub (me_call C.c__law_draw hA hr tk (by rfl) (ma_cons (me_var (pv 0)) (ma_cons (me_add (me_mul me_int (me_var (pv 1))) me_int) ma_nil))) (me_var (pv 1))) (ma_cons (me_sub (me_call C.c__law_draw hA hr tk (by rfl) (ma_cons (me_var (pv 0)) (ma_cons (me_add (me_mul me_int (me_var (pv 1))) me_int) ma_nil))) (me_var (pv 1))) ma_nil)) rfl)
  (mss_one (ms_ret (me_tup (ma_cons me_str (ma_cons (me_var (pv 2)) (ma_cons (me_var (pv 3)) (ma_cons (me_at (me_lst (ma_cons me_int (ma_cons me_int (ma_cons me_int (ma_cons (me_neg me_int) (ma_cons me_int (ma_cons (me_neg me_int) ma_nil))))))) (me_call C.c__law_draw hA hr tk (by rfl) (ma_cons (me_var (pv 0)) (ma_cons me_int ma_nil)))) ma_nil)))))))))
theorem nd__law_items : (["_law_pen_here", "_law_sky_here", "_law_most", "_law_deep", "_law_found", "_law_turn", "_law_way"] : List Str).Nodup := by decide +kernel
theorem sc__law_items : FnScope ["_law_pen_here", "_law_sky_here", "_law_most", "_law_deep", "_law_found", "_law_turn", "_law_way"] ["_law_pen_here", "_law_sky_here", "_law_most", "_law_deep"] (defScope s__law_items) := ⟨rfl, rfl, rfl, nd__law_items, rfl, by decide +kernel, by decide +kernel⟩
theorem ok__law_items (g : GL K mg) (C : CL P w K mg base cf k) (hA : A.guards = some []) (hr : Room k (A.deeper (envOfC "_law_items" (defScope s__law_items) s.heap.objs.size f cdv))) :
    MSs (cxOf (L2.CX P w) P w K mg base ["_law_pen_here", "_law_sky_here", "_law_most", "_law_deep", "_law_found", "_law_turn", "_law_way"] "_law_items" (defScope s__law_items) f cdv A outer s H E) cf (fun c d _ H => E c d H) (defBody s__law_items) F__law_items :=
  have nd := nd__law_items
  have tk : Takes (cxOf (L2.CX P w) P w K mg base ["_law_pen_here", "_law_sky_here", "_law_most", "_law_deep", "_law_found", "_law_turn", "_law_way"] "_law_items" (defScope s__law_items) f cdv A outer s H E) (fun c d _ H => E c d H) := takes_of rfl rfl rfl rfl
  (mss_cons (ms_new (i := 4) nd rfl (by first | exact Or.inl rfl | exact Or.inr rfl) ma_nil)
  (mss_cons (ms_for (passes_of rfl) rfl (mi_range1 (by rfl) g.f_range (ma_cons (me_call C.c__law_draw hA hr tk (by rfl) (ma_cons (me_var (pv 0)) (ma_cons (me_add (me_var (pv 2)) me_int) ma_nil))) ma_nil)) (mg_name (i := 5) nd rfl (by first | exact Or.inl rfl | exact Or.inr rfl))
  (mss_cons (ms_set (i := 6) nd rfl (by first | exact Or.inl rfl | exact Or.inr rfl) (me_call C.c__law_draw hA hr tk (by rfl) (ma_cons (me_var (pv 0)) (ma_cons me_int ma_nil))))
  (mss_one (ms_if (mt_c cm_lt (me_var (pv 6)) me_int (by rfl))
  (mss_one (ms_app (pv 4) (me_call C.c__law_go hA hr tk (by rfl) (ma_cons (me_var (pv 0)) ma_nil))))
  (mss_one (ms_if (mt_c (cm_eq hr) (me_var (pv 6)) me_int (by rfl))
  (mss_one (ms_app (pv 4) (me_tup (ma_cons me_str (ma_cons (me_call C.c__law_draw hA hr tk (by rfl) (ma_cons (me_var (pv 0)) (ma_cons (me_len (by rfl) g.f_len (ma_cons (me_at (me_var (pv 1)) me_int) ma_nil)) ma_nil))) ma_nil)))))
  (mss_one (ms_if (mt_w (mw_or (mt_c (cm_eq hr) (me_var (pv 6)) me_int (by rfl)) (mw_or1 (mt_c (cm_eq hr) (me_var (pv 3)) me_int (by rfl)))))
  (mss_one (ms_app (pv 4) (me_tup (ma_cons me_str ma_nil))))
  (mss_one (ms_app (pv 4) (me_tup (ma_cons me_str (ma_cons (me_call C.c__law_draw hA hr tk (by rfl) (ma_cons (me_var (pv 0)) (ma_cons me_int ma_nil))) (ma_cons (me_call C.c__law_items hA hr tk (by rfl) (ma_cons (me_var (pv 0)) (ma_cons (me_var (pv 1)) (ma_cons me_int (ma_cons (me_sub (me_var (pv 3)) me_int) ma_nil))))) ma_nil))))))))))))))
  (mss_one (ms_ret (me_tuple (by rfl) g.f_tuple (ma_one (me_own (pv 4))))))))
theorem nd__law_whole : (["_law_thing"] : List Str).Nodup := by decide +kernel
theorem sc__law_whole : FnScope ["_law_thing"] ["_law_thing"] (defScope s__law_whole) := ⟨rfl, rfl, rfl, nd__law_whole, rfl, by decide +kernel, by decide +kernel⟩
theorem ok__law_whole (g : GL K mg) (C : CL P w K mg base cf k) (hA : A.guards = some []) (hr : Room k (A.deeper (envOfC "_law_whole" (defScope s__law_whole) s.heap.objs.size f cdv))) :
    MSs (cxOf (L2.CX P w) P w K mg base ["_law_thing"] "_law_whole" (defScope s__law_whole) f cdv A outer s H E) cf (fun c d _ H => E c d H) (defBody s__law_whole) F__law_whole :=
  have nd := nd__law_whole
  have tk : Takes (cxOf (L2.CX P w) P w K mg base ["_law_thing"] "_law_whole" (defScope s__law_whole) f cdv A outer s H E) (fun c d _ H => E c d H) := takes_of rfl rfl rfl rfl
  (mss_one (ms_ret (me_and (me_isi (T := "int") (by decide) (by rfl) g.f_isinstance (me_var (pv 0)) (pe_bltn (by rfl) g.f_int (by decide +kernel) rfl)) (me_one (me_not (me_isi (T := "bool") (by decide) (by rfl) g.f_isinstance (me_var (pv 0)) (pe_bltn (by rfl) g.f_bool (by decide +kernel) rfl)))))))
theorem nd__law_within : (["_law_thing", "_law_low", "_law_high"] : List Str).Nodup := by decide +kernel
theorem sc__law_within : FnScope ["_law_thing", "_law_low", "_law_high"] ["_law_thing", "_law_low", "_law_high"] (defScope s__law_within) := ⟨rfl, rfl, rfl, nd__law_within, rfl, by decide +kernel, by decide +kernel⟩
theorem ok__law_within (g : GL K mg) (C : CL P w K mg base cf k) (hA : A.guards = some []) (hr : Room k (A.deeper (envOfC "_law_within" (defScope s__law_within) s.heap.objs.size f cdv))) :
    MSs (cxOf (L2.CX P w) P w K mg base ["_law_thing", "_law_low", "_law_high"] "_law_within" (defScope s__law_within) f cdv A outer s H E) cf (fun c d _ H => E c d H) (defBody s__law_within) F__law_within :=
  have nd := nd__law_within
  have tk : Takes (cxOf (L2.CX P w) P w K mg base ["_law_thing", "_law_low", "_law_high"] "_law_within" (defScope s__law_within) f cdv A outer s H E) (fun c d _ H => E c d H) := takes_of rfl rfl rfl rfl
  (mss_one (ms_ret (me_and (me_call C.c__law_whole hA hr tk (by rfl) (ma_cons (me_var (pv 0)) ma_nil)) (me_one (me_chain cm_le cm_le (me_var (pv 1)) (me_var (pv 0)) (me_var (pv 2)))))))
theorem nd__law_odd : (["_law_pen_here", "_law_some"] : List Str).Nodup := by decide +kernel
theorem sc__law_odd : FnScope ["_law_pen_here", "_law_some"] ["_law_pen_here"] (defScope s__law_odd) := ⟨rfl, rfl, rfl, nd__law_odd, rfl, by decide +kernel, by decide +kernel⟩
theorem ok__law_odd (g : GL K mg) (C : CL P w K mg base cf k) (hA : A.guards = some []) (hr : Room k (A.deeper (envOfC "_law_odd" (defScope s__law_odd) s.heap.objs.size f cdv))) :
    MSs (cxOf (L2.CX P w) P w K mg base ["_law_pen_here", "_law_some"] "_law_odd" (defScope s__law_odd) f cdv A outer s H E) cf (fun c d _ H => E c d H) (defBody s__law_odd) F__law_odd :=
  have nd := nd__law_odd
  have tk : Takes (cxOf (L2.CX P w) P w K mg base ["_law_pen_here", "_law_some"] "_law_odd" (defScope s__law_odd) f cdv A outer s H E) (fun c d _ H => E c d H) := takes_of rfl rfl rfl rfl
  (mss_cons (ms_set (i := 1) nd rfl (by first | exact Or.inl rfl | exact Or.inr rfl) (me_lst (ma_cons me_non (ma_cons me_bl (ma_cons me_bl (ma_cons (me_neg me_int) (ma_cons (me_pow me_int me_int) (ma_cons me_str (ma_cons me_str (ma_cons me_str (ma_cons (me_tup ma_nil) (ma_cons (me_lst ma_nil) (ma_cons me_dic0 (ma_cons (me_tup (ma_cons me_int ma_nil)) (ma_cons (me_lst (ma_cons me_int ma_nil)) (ma_cons (me_tup (ma_cons me_str (ma_cons me_int ma_nil))) (ma_cons (me_dicK (kvs := [(.inl (0), .int (0))]) (disK_cons (key := (.inl (0))) pe_int pe_int disK_nil) rfl rfl (fun h => nomatch h) (Nat.le_of_ble_eq_true rfl) (Nat.le_of_ble_eq_true rfl) rfl (.cons (.inl (0)) (.int (0)) .nil)) (ma_cons me_int ma_nil))))))))))))))))))
  (mss_one (ms_ret (me_at (me_var (pv 1)) (me_call C.c__law_draw hA hr tk (by rfl) (ma_cons (me_var (pv 0)) (ma_cons me_int ma_nil)))))))
theorem nd__law_bent : (["_law_pen_here", "_law_thing", "_law_deep", "_law_spot", "_law_way"] : List Str).Nodup := by decide +kernel
theorem sc__law_bent : FnScope ["_law_pen_here", "_law_thing", "_law_deep", "_law_spot", "_law_way"] ["_law_pen_here", "_law_thing", "_law_deep"] (defScope s__law_bent) := ⟨rfl, rfl, rfl, nd__law_bent, rfl, by decide +kernel, by decide +kernel⟩
theorem ok__law_bent (g : GL K mg) (C : CL P w K mg base cf k) (hA : A.guards = some []) (hr : Room k (A.deeper (envOfC "_law_bent" (defScope s__law_bent) s.heap.objs.size f cdv))) :
    MSs (cxOf (L2.CX P w) P w K mg base ["_law_pen_here", "_law_thing", "_law_deep", "_law_spot", "_law_way"] "_law_bent" (defScope s__law_bent) f cdv A outer s H E) cf (fun c d _ H => E c d H) (defBody s__law_bent) F__law_bent :=
  have nd := nd__law_bent
  have tk : Takes (cxOf (L2.CX P w) P w K mg base ["_law_pen_here", "_law_thing", "_law_deep", "_law_spot", "_law_way"] "_law_bent" (defScope s__law_bent) f cdv A outer s H E) (fun c d _ H => E c d H) := takes_of rfl rfl rfl rfl
  (mss_cons (ms_if (mt_w (mw_and (mt_val (me_call C.c__law_whole hA hr tk (by rfl) (ma_cons (me_var (pv 1)) ma_nil))) (mw_and1 (mt_c cm_gt (me_call C.c__law_draw hA hr tk (by rfl) (ma_cons (me_var (pv 0)) (ma_cons me_int ma_nil))) me_int (by rfl)))))
  (mss_one (ms_ret (me_at (me_lst (ma_cons (me_add (me_var (pv 1)) me_int) (ma_cons (me_sub (me_var (pv 1)) me_int) (ma_cons (me_sub me_int (me_var (pv 1))) (ma_cons (me_add (me_var (pv 1)) me_int) (ma_cons (me_pow me_int me_int) (ma_cons me_bl ma_nil))))))) (me_call C.c__law_draw hA hr tk (by rfl) (ma_cons (me_var (pv 0)) (ma_cons me_int ma_nil))))))
  mss_nil)
  (mss_cons (ms_if (mt_w (mw_or (mt_not (mt_val (me_isi (T := "tuple") (by decide) (by rfl) g.f_isinstance (me_var (pv 1)) (pe_bltn (by rfl) g.f_tuple (by decide +kernel) rfl)))) (mw_or (mt_c (cm_eqZ hr) (me_var (pv 1)) (me_tup ma_nil) (by rfl)) (mw_or1 (mt_c (cm_eq hr) (me_var (pv 2)) me_int (by rfl))))))
  (mss_one (ms_ret (me_call C.c__law_odd hA hr tk (by rfl) (ma_cons (me_var (pv 0)) ma_nil))))
  mss_nil)
  (mss_cons (ms_par2 (i := 3) (j := 4) rfl nd rfl rfl (by decide) rfl rfl (ma_cons (me_call C.c__law_draw hA hr tk (by rfl) (ma_cons (me_var (pv 0)) (ma_cons (me_len (by rfl) g.f_len (ma_cons (me_var (pv 1)) ma_nil)) ma_nil))) (ma_cons (me_call C.c__law_draw hA hr tk (by rfl) (ma_cons (me_var (pv 0)) (ma_cons me_int ma_nil))) ma_nil)) rfl)
  (mss_cons (ms_if (mt_c (cm_eq hr) (me_var (pv 4)) me_int (by rfl))
  (mss_one (ms_ret (me_add (me_add (me_slice (me_var (pv 1)) mo_none (mo_some (me_var (pv 3)))) (me_tup (ma_cons (me_call C.c__law_odd hA hr tk (by rfl) (ma_cons (me_var (pv 0)) ma_nil)) ma_nil))) (me_slice (me_var (pv 1)) (mo_some (me_var (pv 3))) mo_none))))
  mss_nil)
  (mss_cons (ms_if (mt_c (cm_eq hr) (me_var (pv 4)) me_int (by rfl))
  (mss_one (ms_ret (me_add (me_slice (me_var (pv 1)) mo_none (mo_some (me_var (pv 3)))) (me_slice (me_var (pv 1)) (mo_some (me_add (me_var (pv 3)) me_int)) mo_none))))
  mss_nil)
  (mss_cons (ms_if (mt_c (cm_eq hr) (me_var (pv 4)) me_int (by rfl))
  (mss_one (ms_ret (me_add (me_add (me_slice (me_var (pv 1)) mo_none (mo_some (me_var (pv 3)))) (me_slice (me_var (pv 1)) (mo_some (me_var (pv 3))) (mo_some (me_add (me_var (pv 3)) me_int)))) (me_slice (me_var (pv 1)) (mo_some (me_var (pv 3))) mo_none))))
  mss_nil)
  (mss_cons (ms_if (mt_c (cm_eq hr) (me_var (pv 4)) me_int (by rfl))
  (mss_one (ms_ret (me_at (me_lst (ma_cons (me_list (by rfl) g.f_list (ma_cons (me_var (pv 1)) ma_nil)) (ma_cons (me_rev (me_var (pv 1))) ma_nil))) (me_call C.c__law_draw hA hr tk (by rfl) (ma_cons (me_var (pv 0)) (ma_cons me_int ma_nil))))))
  mss_nil)
  (mss_one (ms_ret (me_add (me_add (me_slice (me_var (pv 1)) mo_none (mo_some (me_var (pv 3)))) (me_tup (ma_cons (me_call C.c__law_bent hA hr tk (by rfl) (ma_cons (me_var (pv 0)) (ma_cons (me_at (me_var (pv 1)) (me_var (pv 3))) (ma_cons (me_sub (me_var (pv 2)) me_int) ma_nil)))) ma_nil))) (me_slice (me_var (pv 1)) (mo_some (me_add (me_var (pv 3)) me_int)) mo_none)))))))))))
theorem nd__law_are_items : (["_law_sky_here", "_law_thing", "_law_deep", "_law_one"] : List Str).Nodup := by decide +kernel
theorem sc__law_are_items : FnScope ["_law_sky_here", "_law_thing", "_law_deep", "_law_one"] ["_law_sky_here", "_law_thing", "_law_deep"] (defScope s__law_are_items) := ⟨rfl, rfl, rfl, nd__law_are_items, rfl, by decide +kernel, by decide +kernel⟩
theorem ok__law_are_items (g : GL K mg) (C : CL P w K mg base cf k) (hA : A.guards = some []) (hr : Room k (A.deeper (envOfC "_law_are_items" (defScope s__law_are_items) s.heap.objs.size f cdv))) :
    MSs (cxOf (L2.CX P w) P w K mg base ["_law_sky_here", "_law_thing", "_law_deep", "_law_one"] "_law_are_items" (defScope s__law_are_items) f cdv A outer s H E) cf (fun c d _ H => E c d H) (defBody s__law_are_items) F__law_are_items :=
  have nd := nd__law_are_items
  have tk : Takes (cxOf (L2.CX P w) P w K mg base ["_law_sky_here", "_law_thing", "_law_deep", "_law_one"] "_law_are_items" (defScope s__law_are_items) f cdv A outer s H E) (fun c d _ H => E c d H) := takes_of rfl rfl rfl rfl
  (mss_cons (ms_if (mt_w (mw_or (mt_not (mt_val (me_isi (T := "tuple") (by decide) (by rfl) g.f_isinstance (me_var (pv 1)) (pe_bltn (by rfl) g.f_tuple (by decide +kernel) rfl)))) (mw_or1 (mt_c cm_gt (me_len (by rfl) g.f_len (ma_cons (me_var (pv 1)) ma_nil)) me_int (by rfl)))))
  (mss_one (ms_ret me_bl))
  mss_nil)
  (mss_one (ms_ret (me_all rfl (by rfl) g.f_all (ma_cons (me_comp (own := [("_law_one", 3)]) rfl nd (mi_seq (me_var (pv 1))) (blkOk_by (N := ["_law_sky_here", "_law_thing", "_law_deep", "_law_one"]) (sc := defScope s__law_are_items) (own := [("_law_one", 3)]) (by decide +kernel)) (by decide) (fun _ _ _ _ _ => (mg_name (i := 3) nd rfl (by first | exact Or.inl rfl | exact Or.inr rfl))) (fun _ _ _ _ _ => mts_nil) (fun _ _ _ _ _ => (me_call C.c__law_is_item hA hr takes0 (by rfl) (ma_cons (me_var (pv 0)) (ma_cons (me_var (pv 3)) (ma_cons (me_var (pv 2)) ma_nil)))))) ma_nil)))))
theorem nd__law_is_item : (["_law_sky_here", "_law_thing", "_law_deep", "_law_one"] : List Str).Nodup := by decide +kernel
theorem sc__law_is_item : FnScope ["_law_sky_here", "_law_thing", "_law_deep", "_law_one"] ["_law_sky_here", "_law_thing", "_law_deep"] (defScope s__law_is_item) := ⟨rfl, rfl, rfl, nd__law_is_item, rfl, by decide +kernel, by decide +kernel⟩
theorem ok__law_is_item (g : GL K mg) (C : CL P w K mg base cf k) (hA : A.guards = some []) (hr : Room k (A.deeper (envOfC "_law_is_item" (defScope s__law_is_item) s.heap.objs.size f cdv))) :
    MSs (cxOf (L2.CX P w) P w K mg base ["_law_sky_here", "_law_thing", "_law_deep", "_law_one"] "_law_is_item" (defScope s__law_is_item) f cdv A outer s H E) cf (fun c d _ H => E c d H) (defBody s__law_is_item) F__law_is_item :=
  have nd := nd__law_is_item
  have tk : Takes (cxOf (L2.CX P w) P w K mg base ["_law_sky_here", "_law_thing", "_law_deep", "_law_one"] "_law_is_item" (defScope s__law_is_item) f cdv A outer s H E) (fun c d _ H => E c d H) := takes_of rfl rfl rfl rfl
  (mss_cons (ms_if (mt_w (mw_or (mt_not (mt_val (me_isi (T := "tuple") (by decide) (by rfl) g.f_isinstance (me_var (pv 1)) (pe_bltn (by rfl) g.f_tuple (by decide +kernel) rfl)))) (mw_or (mt_c (cm_eqZ hr) (me_var (pv 1)) (me_tup ma_nil) (by rfl)) (mw_or1 (mt_not (mt_val (me_isi (T := "str") (by decide) (by rfl) g.f_isinstance (me_at (me_var (pv 1)) me_int) (pe_bltn (by rfl) g.f_str (by decide +kernel) rfl))))))))
  (mss_one (ms_ret me_bl))
  mss_nil)
  (mss_cons (ms_if (mt_c (cm_eq hr) (me_at (me_var (pv 1)) me_int) me_str (by rfl))
  (mss_one (ms_ret (me_and (me_c (cm_eq hr) (me_len (by rfl) g.f_len (ma_cons (me_var (pv 1)) ma_nil)) me_int (by rfl)) (me_one (me_all rfl (by rfl) g.f_all (ma_cons (me_comp (own := [("_law_one", 3)]) rfl nd (mi_seq (me_slice (me_var (pv 1)) (mo_some me_int) mo_none)) (blkOk_by (N := ["_law_sky_here", "_law_thing", "_law_deep", "_law_one"]) (sc := defScope s__law_is_item) (own := [("_law_one", 3)]) (by decide +kernel)) (by decide) (fun _ _ _ _ _ => (mg_name (i := 3) nd rfl (by first | exact Or.inl rfl | exact Or.inr rfl))) (fun _ _ _ _ _ => mts_nil) (fun _ _ _ _ _ => (me_call C.c__law_within hA hr takes0 (by rfl) (ma_cons (me_var (pv 3)) (ma_cons (me_neg me_int) (ma_cons me_int ma_nil)))))) ma_nil))))))
  mss_nil)
  (mss_cons (ms_if (mt_c (cm_eq hr) (me_at (me_var (pv 1)) me_int) me_str (by rfl))
  (mss_one (ms_ret (me_and (me_c (cm_eq hr) (me_len (by rfl) g.f_len (ma_cons (me_var (pv 1)) ma_nil)) me_int (by rfl)) (me_one (me_call C.c__law_within hA hr tk (by rfl) (ma_cons (me_at (me_var (pv 1)) me_int) (ma_cons me_int (ma_cons (me_sub (me_len (by rfl) g.f_len (ma_cons (me_at (me_var (pv 0)) me_int) ma_nil)) me_int) ma_nil))))))))
  mss_nil)
  (mss_cons (ms_if (mt_c (cm_ne hr) (me_at (me_var (pv 1)) me_int) me_str (by rfl))
  (mss_one (ms_ret (me_and (me_c (cm_eq hr) (me_at (me_var (pv 1)) me_int) me_str (by rfl)) (me_one (me_c (cm_eq hr) (me_len (by rfl) g.f_len (ma_cons (me_var (pv 1)) ma_nil)) me_int (by rfl))))))
  mss_nil)
  (mss_cons (ms_if (mt_w (mw_or (mt_c (cm_ne hr) (me_len (by rfl) g.f_len (ma_cons (me_var (pv 1)) ma_nil)) me_int (by rfl)) (mw_or (mt_c (cm_eq hr) (me_var (pv 2)) me_int (by rfl)) (mw_or1 (mt_not (mt_val (me_call C.c__law_within hA hr tk (by rfl) (ma_cons (me_at (me_var (pv 1)) me_int) (ma_cons me_int (ma_cons me_int ma_nil))))))))))
  (mss_one (ms_ret me_bl))
  mss_nil)
  (mss_one (ms_ret (me_call C.c__law_are_items hA hr tk (by rfl) (ma_cons (me_var (pv 0)) (ma_cons (me_at (me_var (pv 1)) me_int) (ma_cons (me_sub (me_var (pv 2)) me_int) ma_nil)))))))))))
theorem nd__law_counted : (["_law_items_here", "_law_beats", "_law_marks", "_law_item", "_law_own"] : List Str).Nodup := by decide +kernel
theorem sc__law_counted : FnScope ["_law_items_here", "_law_beats", "_law_marks", "_law_item", "_law_own"] ["_law_items_here"] (defScope s__law_counted) := ⟨rfl, rfl, rfl, nd__law_counted, rfl, by decide +kernel, by decide +kernel⟩
theorem ok__law_counted (g : GL K mg) (C : CL P w K mg base cf k) (hA : A.guards = some []) (hr : Room k (A.deeper (envOfC "_law_counted" (defScope s__law_counted) s.heap.objs.size f cdv))) :
    MSs (cxOf (L2.CX P w) P w K mg base ["_law_items_here", "_law_beats", "_law_marks", "_law_item", "_law_own"] "_law_counted" (defScope s__law_counted) f cdv A outer s H E) cf (fun c d _ H => E c d H) (defBody s__law_counted) F__law_counted :=
  have nd := nd__law_counted
  have tk : Takes (cxOf (L2.CX P w) P w K mg base ["_law_items_here", "_law_beats", "_law_marks", "_law_item", "_law_own"] "_law_counted" (defScope s__law_counted) f cdv A outer s H E) (fun c d _ H => E c d H) := takes_of rfl rfl rfl rfl
  (mss_cons (ms_unp (me_tup (ma_cons me_int (ma_cons me_int ma_nil))) (mg_names rfl (mgs_cons (mg_name (i := 1) nd rfl (by first | exact Or.inl rfl | exact Or.inr rfl)) (mgs_cons (mg_name (i := 2) nd rfl (by first | exact Or.inl rfl | exact Or.inr rfl)) mgs_nil))))
  (mss_cons (ms_for (passes_of rfl) rfl (mi_seq (me_var (pv 0))) (mg_name (i := 3) nd rfl (by first | exact Or.inl rfl | exact Or.inr rfl))
  (mss_one (ms_if (mt_c (cm_eq hr) (me_at (me_var (pv 3)) me_int) me_str (by rfl))
  (mss_cons (ms_set (i := 4) nd rfl (by first | exact Or.inl rfl | exact Or.inr rfl) (me_call C.c__law_counted hA hr tk (by rfl) (ma_cons (me_at (me_var (pv 3)) me_int) ma_nil)))
  (mss_one (ms_par2 (i := 1) (j := 2) rfl nd rfl rfl (by decide) rfl rfl (ma_cons (me_add (me_var (pv 1)) (me_mul (me_at (me_var (pv 3)) me_int) (me_at (me_var (pv 4)) me_int))) (ma_cons (me_add (me_var (pv 2)) (me_mul (me_at (me_var (pv 3)) me_int) (me_at (me_var (pv 4)) me_int))) ma_nil)) rfl)))
  (mss_one (ms_par2 (i := 1) (j := 2) rfl nd rfl rfl (by decide) rfl rfl (ma_cons (me_add (me_var (pv 1)) (me_intc (by rfl) g.f_int (ma_cons (me_c (cm_ne hr) (me_at (me_var (pv 3)) me_int) me_str (by rfl)) ma_nil))) (ma_cons (me_add (me_var (pv 2)) (me_intc (by rfl) g.f_int (ma_cons (me_c (cm_eq hr) (me_at (me_var (pv 3)) me_int) me_str (by rfl)) ma_nil))) ma_nil)) rfl)))))
  (mss_one (ms_ret (me_tup (ma_cons (me_var (pv 1)) (ma_cons (me_var (pv 2)) ma_nil)))))))
theorem nd__law_by_hand : (["_law_flip", "_law_mark", "_law_great", "_law_far", "_law_some", "_law_four"] : List Str).Nodup := by decide +kernel
theorem sc__law_by_hand : FnScope ["_law_flip", "_law_mark", "_law_great", "_law_far", "_law_some", "_law_four"] [] (defScope s__law_by_hand) := ⟨rfl, rfl, rfl, nd__law_by_hand, rfl, by decide +kernel, by decide +kernel⟩
theorem ok__law_by_hand (g : GL K mg) (C : CL P w K mg base cf k) (hA : A.guards = some []) (hr : Room k (A.deeper (envOfC "_law_by_hand" (defScope s__law_by_hand) s.heap.objs.size f cdv))) :
    MSs (cxOf (L2.CX P w) P w K mg base ["_law_flip", "_law_mark", "_law_great", "_law_far", "_law_some", "_law_four"] "_law_by_hand" (defScope s__law_by_hand) f cdv A outer s H E) cf (fun c d _ H => E c d H) (defBody s__law_by_hand) F__law_by_hand :=
  have nd := nd__law_by_hand
  have tk : Takes (cxOf (L2.CX P w) P w K mg base ["_law_flip", "_law_mark", "_law_great", "_law_far", "_law_some", "_law_four"] "_law_by_hand" (defScope s__law_by_hand) f cdv A outer s H E) (fun c d _ H => E c d H) := takes_of rfl rfl rfl rfl
  (mss_cons (ms_unp (me_tup (ma_cons (me_tup (ma_cons me_str (ma_cons me_int ma_nil))) (ma_cons (me_tup (ma_cons me_str ma_nil)) (ma_cons me_int ma_nil)))) (mg_names rfl (mgs_cons (mg_name (i := 0) nd rfl (by first | exact Or.inl rfl | exact Or.inr rfl)) (mgs_cons (mg_name (i := 1) nd rfl (by first | exact Or.inl rfl | exact Or.inr rfl)) (mgs_cons (mg_name (i := 2) nd rfl (by first | exact Or.inl rfl | exact Or.inr rfl)) mgs_nil)))))
  (mss_cons (ms_set (i := 3) nd rfl (by first | exact Or.inl rfl | exact Or.inr rfl) (me_tup (ma_cons me_str (ma_cons (me_var (pv 2)) (ma_cons (me_tup (ma_cons (me_tup (ma_cons me_str (ma_cons me_int (ma_cons (me_tup (ma_cons (me_var (pv 0)) ma_nil)) ma_nil)))) ma_nil)) ma_nil)))))
  (mss_cons (ms_new (i := 4) nd rfl (by first | exact Or.inl rfl | exact Or.inr rfl) (ma_cons (me_tup ma_nil) (ma_cons (me_mulA (me_tup (ma_cons (me_var (pv 0)) ma_nil)) me_int) (ma_cons (me_mulA (me_tup (ma_cons (me_var (pv 0)) ma_nil)) me_int) (ma_cons (me_tup (ma_cons (me_var (pv 3)) ma_nil)) (ma_cons (me_tup (ma_cons (me_var (pv 3)) (ma_cons (me_var (pv 0)) ma_nil))) (ma_cons (me_tup (ma_cons (me_var (pv 3)) (ma_cons (me_var (pv 1)) ma_nil))) (ma_cons (me_tup (ma_cons (me_tup (ma_cons me_str (ma_cons (me_add (me_var (pv 2)) me_int) (ma_cons (me_tup ma_nil) ma_nil)))) ma_nil)) ma_nil))))))))
  (mss_cons (ms_app (pv 4) (me_tup (ma_cons (me_var (pv 1)) (ma_cons (me_tup (ma_cons me_str (ma_cons me_int ma_nil))) ma_nil))))
  (mss_cons (ms_addO (pv 4) nd rfl (by first | exact Or.inl rfl | exact Or.inr rfl) (me_lst (ma_cons (me_tup (ma_cons (me_tup (ma_cons me_str (ma_cons me_int (ma_cons (me_neg me_int) (ma_cons me_int ma_nil))))) ma_nil)) (ma_cons (me_tup (ma_cons (me_tup (ma_cons me_str (ma_cons me_int (ma_cons me_int (ma_cons me_int ma_nil))))) ma_nil)) (ma_cons (me_tup (ma_cons (me_tup (ma_cons me_str (ma_cons me_int (ma_cons me_int (ma_cons (me_neg me_int) ma_nil))))) ma_nil)) (ma_cons (me_tup (ma_cons (me_tup (ma_cons me_str (ma_cons me_int (ma_cons me_int ma_nil)))) ma_nil)) ma_nil))))))
  (mss_cons (ms_app (pv 4) (me_tup (ma_cons (me_tup (ma_cons me_str (ma_cons (me_neg me_int) ma_nil))) ma_nil)))
  (mss_cons (ms_addO (pv 4) nd rfl (by first | exact Or.inl rfl | exact Or.inr rfl) (me_lst (ma_cons (me_tup (ma_cons (me_tup (ma_cons me_str (ma_cons me_bl ma_nil))) ma_nil)) (ma_cons (me_tup (ma_cons (me_tup (ma_cons me_str (ma_cons me_bl (ma_cons (me_tup ma_nil) ma_nil)))) ma_nil)) (ma_cons (me_tup (ma_cons (me_tup (ma_cons me_str (ma_cons (me_neg me_int) (ma_cons (me_tup ma_nil) ma_nil)))) ma_nil)) (ma_cons (me_tup (ma_cons (me_tup (ma_cons me_str (ma_cons me_int ma_nil))) ma_nil)) (ma_cons (me_tup (ma_cons (me_tup ma_nil) ma_nil)) ma_nil)))))))
  (mss_cons (ms_app (pv 4) (me_tup (ma_cons (me_tup (ma_cons me_str ma_nil)) ma_nil)))
  (mss_cons (ms_set (i := 5) nd rfl (by first | exact Or.inl rfl | exact Or.inr rfl) (me_tup (ma_cons (me_tup (ma_cons me_str (ma_cons me_int (ma_cons (me_tup (ma_cons (me_tup (ma_cons me_str (ma_cons me_int (ma_cons (me_tup (ma_cons (me_tup (ma_cons me_str (ma_cons me_int (ma_cons (me_tup (ma_cons (me_tup (ma_cons me_str (ma_cons me_int (ma_cons (me_tup ma_nil) ma_nil)))) ma_nil)) ma_nil)))) ma_nil)) ma_nil)))) ma_nil)) ma_nil)))) ma_nil)))
  (mss_cons (ms_addO (pv 4) nd rfl (by first | exact Or.inl rfl | exact Or.inr rfl) (me_lst (ma_cons (me_var (pv 5)) (ma_cons (me_at (me_at (me_var (pv 5)) me_int) me_int) ma_nil))))
  (mss_cons (ms_app (pv 4) (me_tup (ma_cons (me_tup (ma_cons me_str (ma_cons me_int (ma_cons (me_tup (ma_cons (me_tup (ma_cons me_str (ma_cons me_int (ma_cons (me_tup (ma_cons (me_tup (ma_cons me_str (ma_cons me_int (ma_cons (me_tup (ma_cons (me_tup (ma_cons me_str (ma_cons me_int ma_nil))) ma_nil)) ma_nil)))) ma_nil)) ma_nil)))) ma_nil)) ma_nil)))) ma_nil)))
  (mss_cons (ms_app (pv 4) (me_tup (ma_cons (me_tup (ma_cons me_str (ma_cons (me_var (pv 2)) (ma_cons (me_tup (ma_cons (me_tup (ma_cons me_str (ma_cons (me_var (pv 2)) (ma_cons (me_tup (ma_cons (me_tup (ma_cons me_str (ma_cons (me_var (pv 2)) (ma_cons (me_mulA (me_tup (ma_cons (me_var (pv 1)) ma_nil)) me_int) ma_nil)))) ma_nil)) ma_nil)))) ma_nil)) ma_nil)))) ma_nil)))
  (mss_cons (ms_app (pv 4) (me_tup (ma_cons (me_tup (ma_cons me_str (ma_cons me_int (ma_cons (me_tup (ma_cons (me_tup (ma_cons me_str (ma_cons (me_var (pv 2)) (ma_cons (me_tup (ma_cons (me_tup (ma_cons me_str (ma_cons (me_var (pv 2)) (ma_cons (me_tup (ma_cons (me_var (pv 0)) ma_nil)) ma_nil)))) ma_nil)) ma_nil)))) ma_nil)) ma_nil)))) ma_nil)))
  (mss_freeze (mss_one (ms_ret (me_add (me_var (pv 4)) (me_lst (ma_cons (me_lst (ma_cons (me_var (pv 0)) ma_nil)) (ma_cons (me_tup (ma_cons (me_tup (ma_cons me_str (ma_cons me_int (ma_cons (me_lst (ma_cons (me_var (pv 0)) ma_nil)) ma_nil)))) ma_nil)) (ma_cons (me_var (pv 0)) (ma_cons me_non ma_nil))))))))))))))))))))))
theorem nd__law_right : (["_law_sky_here", "_law_thing", "_law_kept", "_law_due"] : List Str).Nodup := by decide +kernel
theorem sc__law_right : FnScope ["_law_sky_here", "_law_thing", "_law_kept", "_law_due"] ["_law_sky_here", "_law_thing"] (defScope s__law_right) := ⟨rfl, rfl, rfl, nd__law_right, rfl, by decide +kernel, by decide +kernel⟩
theorem ok__law_right (g : GL K mg) (C : CL P w K mg base cf k) (hA : A.guards = some []) (hr : Room k (A.deeper (envOfC "_law_right" (defScope s__law_right) s.heap.objs.size f cdv))) :
    MSs (cxOf (L2.CX P w) P w K mg base ["_law_sky_here", "_law_thing", "_law_kept", "_law_due"] "_law_right" (defScope s__law_right) f cdv A outer s H E) cf (fun c d _ H => E c d H) (defBody s__law_right) F__law_right :=
  have nd := nd__law_right
  have tk : Takes (cxOf (L2.CX P w) P w K mg base ["_law_sky_here", "_law_thing", "_law_kept", "_law_due"] "_law_right" (defScope s__law_right) f cdv A outer s H E) (fun c d _ H => E c d H) := takes_of rfl rfl rfl rfl
  (mss_cons (ms_par2 (i := 2) (j := 3) rfl nd rfl rfl (by decide) rfl rfl (ma_cons (me_reprX g.sys1 hA hr (by rfl) g.f_repr (ma_cons (me_tup (ma_cons (me_var (pv 0)) (ma_cons (me_var (pv 1)) ma_nil))) ma_nil)) (ma_cons (me_and (me_call C.c__law_are_items hA hr tk (by rfl) (ma_cons (me_var (pv 0)) (ma_cons (me_var (pv 1)) (ma_cons me_int ma_nil)))) (me_one (me_c cm_le (me_at (me_call C.c__law_counted hA hr tk (by rfl) (ma_cons (me_var (pv 1)) ma_nil)) me_int) me_int (by rfl)))) ma_nil)) rfl)
  (mss_cons (ms_if (mt_c (cm_ne hr) (me_reprX g.sys1 hA hr (by rfl) g.f_repr (ma_cons (me_call C.c_is_scene hA hr tk (by rfl) (ma_cons (me_var (pv 0)) (ma_cons (me_var (pv 1)) ma_nil))) ma_nil)) (me_reprX g.sys1 hA hr (by rfl) g.f_repr (ma_cons (me_var (pv 3)) ma_nil)) (by rfl))
  (mss_one (ms_ret me_bl))
  mss_nil)
  (mss_cons (ms_if (mt_w (mw_and (mt_val (me_var (pv 3))) (mw_and1 (mt_c (cm_ne hr) (me_tup (ma_cons (me_call C.c_beats_of hA hr tk (by rfl) (ma_cons (me_var (pv 0)) (ma_cons (me_var (pv 1)) ma_nil))) (ma_cons (me_call C.c_marks_of hA hr tk (by rfl) (ma_cons (me_var (pv 0)) (ma_cons (me_var (pv 1)) ma_nil))) ma_nil))) (me_call C.c__law_counted hA hr tk (by rfl) (ma_cons (me_var (pv 1)) ma_nil)) (by rfl)))))
  (mss_one (ms_ret me_bl))
  mss_nil)
  (mss_one (ms_ret (me_c (cm_eq hr) (me_reprX g.sys1 hA hr (by rfl) g.f_repr (ma_cons (me_tup (ma_cons (me_var (pv 0)) (ma_cons (me_var (pv 1)) ma_nil))) ma_nil)) (me_var (pv 2)) (by rfl)))))))
theorem nd_law : (["_law_script", "_law_k", "_law_pen_here", "_law_turn", "_law_sky_here", "_law_scene", "_law_things", "_law_thing", "_law_lap"] : List Str).Nodup := by decide +kernel
theorem sc_law : FnScope ["_law_script", "_law_k", "_law_pen_here", "_law_turn", "_law_sky_here", "_law_scene", "_law_things", "_law_thing", "_law_lap"] ["_law_script"] (defScope s_law) := ⟨rfl, rfl, rfl, nd_law, rfl, by decide +kernel, by decide +kernel⟩
theorem ok_law (g : GL K mg) (C : CL P w K mg base cf k) (hA : A.guards = some []) (hr : Room k (A.deeper (envOfC "law" (defScope s_law) s.heap.objs.size f cdv))) :
    MSs (cxOf (L2.CX P w) P w K mg base ["_law_script", "_law_k", "_law_pen_here", "_law_turn", "_law_sky_here", "_law_scene", "_law_things", "_law_thing", "_law_lap"] "law" (defScope s_law) f cdv A outer s H E) cf (fun c d _ H => E c d H) (defBody s_law) F_law :=
  have nd := nd_law
  have tk : Takes (cxOf (L2.CX P w) P w K mg base ["_law_script", "_law_k", "_law_pen_here", "_law_turn", "_law_sky_here", "_law_scene", "_law_things", "_law_thing", "_law_lap"] "law" (defScope s_law) f cdv A outer s H E) (fun c d _ H => E c d H) := takes_of rfl rfl rfl rfl
  (mss_cons (ms_if (mt_not (mt_val (me_all rfl (by rfl) g.f_all (ma_cons (me_comp (own := [("_law_thing", 7)]) rfl nd (mi_seq (me_call0 C.c__law_by_hand hA hr tk (by rfl))) (blkOk_by (N := ["_law_script", "_law_k", "_law_pen_here", "_law_turn", "_law_sky_here", "_law_scene", "_law_things", "_law_thing", "_law_lap"]) (sc := defScope s_law) (own := [("_law_thing", 7)]) (by decide +kernel)) (by decide) (fun _ _ _ _ _ => (mg_name (i := 7) nd rfl (by first | exact Or.inl rfl | exact Or.inr rfl))) (fun _ _ _ _ _ => mts_nil) (fun _ _ _ _ _ => (me_call C.c__law_right hA hr takes0 (by rfl) (ma_cons (me_tup (ma_cons me_int (ma_cons me_int (ma_cons (me_tup (ma_cons (me_tup (ma_cons me_int (ma_cons me_int (ma_cons (me_tup (ma_cons me_int ma_nil)) ma_nil)))) ma_nil)) ma_nil)))) (ma_cons (me_var (pv 7)) ma_nil))))) ma_nil))))
  (mss_one (ms_ret me_bl))
  mss_nil)
  (mss_cons (ms_for (passes_of rfl) rfl (mi_range1 (by rfl) g.f_range (ma_cons (me_max2 rfl (by rfl) g.f_max (ma_cons me_int (ma_cons (me_min2 rfl (by rfl) g.f_min (ma_cons (me_len (by rfl) g.f_len (ma_cons (me_var (pv 0)) ma_nil)) (ma_cons me_int ma_nil))) ma_nil))) ma_nil)) (mg_name (i := 1) nd rfl (by first | exact Or.inl rfl | exact Or.inr rfl))
  (mss_cons (ms_set (i := 2) nd rfl (by first | exact Or.inl rfl | exact Or.inr rfl) (me_call C.c__law_pen hA hr tk (by rfl) (ma_cons (me_call C.c__law_cell_at hA hr tk (by rfl) (ma_cons (me_var (pv 0)) (ma_cons (me_var (pv 1)) ma_nil))) ma_nil)))
  (mss_one (ms_for (passes_of rfl) rfl (mi_range1 (by rfl) g.f_range (ma_cons me_int ma_nil)) (mg_name (i := 3) nd rfl (by first | exact Or.inl rfl | exact Or.inr rfl))
  (mss_cons (ms_set (i := 4) nd rfl (by first | exact Or.inl rfl | exact Or.inr rfl) (me_call C.c__law_sky hA hr tk (by rfl) (ma_cons (me_var (pv 2)) (ma_cons me_int ma_nil))))
  (mss_cons (ms_set (i := 5) nd rfl (by first | exact Or.inl rfl | exact Or.inr rfl) (me_call C.c__law_items hA hr tk (by rfl) (ma_cons (me_var (pv 2)) (ma_cons (me_var (pv 4)) (ma_cons me_int (ma_cons me_int ma_nil))))))
  (mss_cons (ms_set (i := 6) nd rfl (by first | exact Or.inl rfl | exact Or.inr rfl) (me_lst (ma_cons (me_var (pv 5)) (ma_cons (me_list (by rfl) g.f_list (ma_cons (me_var (pv 5)) ma_nil)) (ma_cons (me_mulA (me_slice (me_var (pv 5)) mo_none (mo_some me_int)) me_int) (ma_cons me_non (ma_cons (me_call C.c__law_odd hA hr tk (by rfl) (ma_cons (me_var (pv 2)) ma_nil)) ma_nil)))))))
  (mss_cons (ms_set (i := 6) nd rfl (by first | exact Or.inl rfl | exact Or.inr rfl) (me_add (me_var (pv 6)) (me_comp (own := [("_law_lap", 8)]) rfl nd (mi_range1 (by rfl) g.f_range (ma_cons me_int ma_nil)) (blkOk_by (N := ["_law_script", "_law_k", "_law_pen_here", "_law_turn", "_law_sky_here", "_law_scene", "_law_things", "_law_thing", "_law_lap"]) (sc := defScope s_law) (own := [("_law_lap", 8)]) (by decide +kernel)) (by decide) (fun _ _ _ _ _ => (mg_name (i := 8) nd rfl (by first | exact Or.inl rfl | exact Or.inr rfl))) (fun _ _ _ _ _ => mts_nil) (fun _ _ _ _ _ => (me_call C.c__law_bent hA hr takes0 (by rfl) (ma_cons (me_var (pv 2)) (ma_cons (me_var (pv 5)) (ma_cons (me_add me_int (me_mod (me_var (pv 8)) me_int)) ma_nil))))))))
  (mss_one (ms_if (mt_w (mw_or (mt_not (mt_val (me_all rfl (by rfl) g.f_all (ma_cons (me_comp (own := [("_law_thing", 7)]) rfl nd (mi_seq (me_var (pv 6))) (blkOk_by (N := ["_law_script", "_law_k", "_law_pen_here", "_law_turn", "_law_sky_here", "_law_scene", "_law_things", "_law_thing", "_law_lap"]) (sc := defScope s_law) (own := [("_law_thing", 7)]) (by decide +kernel)) (by decide) (fun _ _ _ _ _ => (mg_name (i := 7) nd rfl (by first | exact Or.inl rfl | exact Or.inr rfl))) (fun _ _ _ _ _ => mts_nil) (fun _ _ _ _ _ => (me_call C.c__law_right hA hr takes0 (by rfl) (ma_cons (me_var (pv 4)) (ma_cons (me_var (pv 7)) ma_nil))))) ma_nil)))) (mw_or1 (mt_c cm_notB (me_call C.c_is_scene hA hr tk (by rfl) (ma_cons (me_var (pv 4)) (ma_cons (me_var (pv 5)) ma_nil))) me_bl (by rfl)))))
  (mss_one (ms_ret me_bl))
  mss_nil))))))))))
  (mss_one (ms_ret me_bl))))
end
end Q

set_option maxHeartbeats 0
namespace Q
open PySem PySem.Spec PyProof.Rows L2
theorem ob_eq (s : PySem.W.SharedT) : ob s = hk.obs s.abs := obs1_eq (HandSHeadRun.getT_eq s)
structure DL (K : PySem.W.Frag) (mg : Str → Option Value) : Prop where
  d_is_whole : ∃ fd, DQ K mg "is_whole" "is_whole" "is_whole" (defArgs s_is_whole) (defBody s_is_whole) (defScope s_is_whole) ["thing"] ["thing"] (He.ga K "is_whole") fd
  d_is_among : ∃ fd, DQ K mg "is_among" "is_among" "is_among" (defArgs s_is_among) (defBody s_is_among) (defScope s_is_among) ["thing", "low", "high"] ["thing", "low", "high"] (He.ga K "is_among") fd
  d_is_row : ∃ fd, DQ K mg "is_row" "is_row" "is_row" (defArgs s_is_row) (defBody s_is_row) (defScope s_is_row) ["thing", "low", "high"] ["thing", "low", "high"] (He.ga K "is_row") fd
  d_is_light_of : ∃ fd, DQ K mg "is_light_of" "is_light_of" "is_light_of" (defArgs s_is_light_of) (defBody s_is_light_of) (defScope s_is_light_of) ["thing", "wide", "high", "row"] ["thing", "wide", "high"] (He.ga K "is_light_of") fd
  d_is_sky : ∃ fd, DQ K mg "is_sky" "is_sky" "is_sky" (defArgs s_is_sky) (defBody s_is_sky) (defScope s_is_sky) ["thing", "light"] ["thing"] (He.ga K "is_sky") fd
  d_need_sky : ∃ fd, DQ K mg "need_sky" "need_sky" "need_sky" (defArgs s_need_sky) (defBody s_need_sky) (defScope s_need_sky) ["thing"] ["thing"] (He.ga K "need_sky") fd
  d_is_item : ∃ fd, DQ K mg "is_item" "is_item" "is_item" (defArgs s_is_item) (defBody s_is_item) (defScope s_is_item) ["sky", "thing", "deep", "one"] ["sky", "thing", "deep"] (He.ga K "is_item") fd
  d_are_items : ∃ fd, DQ K mg "are_items" "are_items" "are_items" (defArgs s_are_items) (defBody s_are_items) (defScope s_are_items) ["sky", "thing", "deep", "one"] ["sky", "thing", "deep"] (He.ga K "are_items") fd
  d_size_of : ∃ fd, DQ K mg "size_of" "size_of" "size_of" (defArgs s_size_of) (defBody s_size_of) (defScope s_size_of) ["items", "found", "item"] ["items"] (He.ga K "size_of") fd
  d_is_scene_by : ∃ fd, DQ K mg "is_scene_by" "is_scene_by" "is_scene_by" (defArgs s_is_scene_by) (defBody s_is_scene_by) (defScope s_is_scene_by) ["sky", "thing"] ["sky", "thing"] (He.ga K "is_scene_by") fd
  d_is_scene : ∃ fd, DQ K mg "is_scene" "is_scene" "is_scene" (defArgs s_is_scene) (defBody s_is_scene) (defScope s_is_scene) ["sky", "thing"] ["sky", "thing"] (He.ga K "is_scene") fd
  d_need_scene : ∃ fd, DQ K mg "need_scene" "need_scene" "need_scene" (defArgs s_need_scene) (defBody s_need_scene) (defScope s_need_scene) ["sky", "thing"] ["sky", "thing"] (He.ga K "need_scene") fd
  d_need_both : ∃ fd, DQ K mg "need_both" "need_both" "need_both" (defArgs s_need_both) (defBody s_need_both) (defScope s_need_both) ["sky", "scene"] ["sky", "scene"] (He.ga K "need_both") fd
  d_beats_of : ∃ fd, DQ K mg "beats_of" "beats_of" "beats_of" (defArgs s_beats_of) (defBody s_beats_of) (defScope s_beats_of) ["sky", "scene"] ["sky", "scene"] (He.ga K "beats_of") fd
  d_marks_in : ∃ fd, DQ K mg "marks_in" "marks_in" "marks_in" (defArgs s_marks_in) (defBody s_marks_in) (defScope s_marks_in) ["items", "found", "item"] ["items"] (He.ga K "marks_in") fd
  d_marks_of : ∃ fd, DQ K mg "marks_of" "marks_of" "marks_of" (defArgs s_marks_of) (defBody s_marks_of) (defScope s_marks_of) ["sky", "scene"] ["sky", "scene"] (He.ga K "marks_of") fd
  d__law_cell_at : ∃ fd, DQ K mg "_law_cell_at" "_law_cell_at" "_law_cell_at" (defArgs s__law_cell_at) (defBody s__law_cell_at) (defScope s__law_cell_at) ["_law_script", "_law_k"] ["_law_script", "_law_k"] (He.ga K "_law_cell_at") fd
  d__law_pen : ∃ fd, DQ K mg "_law_pen" "_law_pen" "_law_pen" (defArgs s__law_pen) (defBody s__law_pen) (defScope s__law_pen) ["_law_cell"] ["_law_cell"] (He.ga K "_law_pen") fd
  d__law_draw : ∃ fd, DQ K mg "_law_draw" "_law_draw" "_law_draw" (defArgs s__law_draw) (defBody s__law_draw) (defScope s__law_draw) ["_law_pen_here", "_law_many", "_law_digit", "_law_stir"] ["_law_pen_here", "_law_many"] (He.ga K "_law_draw") fd
  d__law_sky : ∃ fd, DQ K mg "_law_sky" "_law_sky" "_law_sky" (defArgs s__law_sky) (defBody s__law_sky) (defScope s__law_sky) ["_law_pen_here", "_law_most", "_law_wide", "_law_high", "_law_lights", "_law_light", "_law_rows", "_law_turn"] ["_law_pen_here", "_law_most"] (He.ga K "_law_sky") fd
  d__law_go : ∃ fd, DQ K mg "_law_go" "_law_go" "_law_go" (defArgs s__law_go) (defBody s__law_go) (defScope s__law_go) ["_law_pen_here", "_law_far", "_law_moments", "_law_east"] ["_law_pen_here"] (He.ga K "_law_go") fd
  d__law_items : ∃ fd, DQ K mg "_law_items" "_law_items" "_law_items" (defArgs s__law_items) (defBody s__law_items) (defScope s__law_items) ["_law_pen_here", "_law_sky_here", "_law_most", "_law_deep", "_law_found", "_law_turn", "_law_way"] ["_law_pen_here", "_law_sky_here", "_law_most", "_law_deep"] (He.ga K "_law_items") fd
  d__law_whole : ∃ fd, DQ K mg "_law_whole" "_law_whole" "_law_whole" (defArgs s__law_whole) (defBody s__law_whole) (defScope s__law_whole) ["_law_thing"] ["_law_thing"] (He.ga K "_law_whole") fd
  d__law_within : ∃ fd, DQ K mg "_law_within" "_law_within" "_law_within" (defArgs s__law_within) (defBody s__law_within) (defScope s__law_within) ["_law_thing", "_law_low", "_law_high"] ["_law_thing", "_law_low", "_law_high"] (He.ga K "_law_within") fd
  d__law_odd : ∃ fd, DQ K mg "_law_odd" "_law_odd" "_law_odd" (defArgs s__law_odd) (defBody s__law_odd) (defScope s__law_odd) ["_law_pen_here", "_law_some"] ["_law_pen_here"] (He.ga K "_law_odd") fd
  d__law_bent : ∃ fd, DQ K mg "_law_bent" "_law_bent" "_law_bent" (defArgs s__law_bent) (defBody s__law_bent) (defScope s__law_bent) ["_law_pen_here", "_law_thing", "_law_deep", "_law_spot", "_law_way"] ["_law_pen_here", "_law_thing", "_law_deep"] (He.ga K "_law_bent") fd
  d__law_are_items : ∃ fd, DQ K mg "_law_are_items" "_law_are_items" "_law_are_items" (defArgs s__law_are_items) (defBody s__law_are_items) (defScope s__law_are_items) ["_law_sky_here", "_law_thing", "_law_deep", "_law_one"] ["_law_sky_here", "_law_thing", "_law_deep"] (He.ga K "_law_are_items") fd
  d__law_is_item : ∃ fd, DQ K mg "_law_is_item" "_law_is_item" "_law_is_item" (defArgs s__law_is_item) (defBody s__law_is_item) (defScope s__law_is_item) ["_law_sky_here", "_law_thing", "_law_deep", "_law_one"] ["_law_sky_here", "_law_thing", "_law_deep"] (He.ga K "_law_is_item") fd
  d__law_counted : ∃ fd, DQ K mg "_law_counted" "_law_counted" "_law_counted" (defArgs s__law_counted) (defBody s__law_counted) (defScope s__law_counted) ["_law_items_here", "_law_beats", "_law_marks", "_law_item", "_law_own"] ["_law_items_here"] (He.ga K "_law_counted") fd
  d__law_by_hand : ∃ fd, DQ K mg "_law_by_hand" "_law_by_hand" "_law_by_hand" (defArgs s__law_by_hand) (defBody s__law_by_hand) (defScope s__law_by_hand) ["_law_flip", "_law_mark", "_law_great", "_law_far", "_law_some", "_law_four"] [] (He.ga K "_law_by_hand") fd
  d__law_right : ∃ fd, DQ K mg "_law_right" "_law_right" "_law_right" (defArgs s__law_right) (defBody s__law_right) (defScope s__law_right) ["_law_sky_here", "_law_thing", "_law_kept", "_law_due"] ["_law_sky_here", "_law_thing"] (He.ga K "_law_right") fd
  d_law : ∃ fd, DQ K mg "law" "law" "law" (defArgs s_law) (defBody s_law) (defScope s_law) ["_law_script", "_law_k", "_law_pen_here", "_law_turn", "_law_sky_here", "_law_scene", "_law_things", "_law_thing", "_law_lap"] ["_law_script"] (He.ga K "law") fd
theorem facts {K : PySem.W.Frag} {h : Heap} {mg : Str → Option Value} (X : K.In h) (G : h.Ns mainGlobals mg) (cx : He.SaysD fa fn K ∧ oneB cs K = true) : GL K mg ∧ DL K mg := by
  obtain ⟨c, cx⟩ := cx
  have c1 := one_ok cx
  replace cx := (band cx).2
  refine ⟨⟨?_, ?_, ?_, ?_, ?_, ?_, ?_, ?_, ?_, ?_, ?_, ?_, ?_, ?_, ?_, ?_, ?_, ?_, ?_, ?_, ?_, ?_, ?_, ?_, ?_, ?_, ?_⟩, ⟨?_, ?_, ?_, ?_, ?_, ?_, ?_, ?_, ?_, ?_, ?_, ?_, ?_, ?_, ?_, ?_, ?_, ?_, ?_, ?_, ?_, ?_, ?_, ?_, ?_, ?_, ?_, ?_, ?_, ?_, ?_, ?_⟩⟩
  · exact He.free_ok X G (c.fact 32 (f := .free "all") rfl)
  · exact He.free_ok X G (c.fact 33 (f := .free "bool") rfl)
  · exact He.free_ok X G (c.fact 34 (f := .free "int") rfl)
  · exact He.free_ok X G (c.fact 35 (f := .free "isinstance") rfl)
  · exact He.free_ok X G (c.fact 36 (f := .free "len") rfl)
  · exact He.free_ok X G (c.fact 37 (f := .free "list") rfl)
  · exact He.free_ok X G (c.fact 38 (f := .free "max") rfl)
  · exact He.free_ok X G (c.fact 39 (f := .free "min") rfl)
  · exact He.free_ok X G (c.fact 40 (f := .free "range") rfl)
  · exact He.free_ok X G (c.fact 41 (f := .free "repr") rfl)
  · exact He.free_ok X G (c.fact 42 (f := .free "str") rfl)
  · exact He.free_ok X G (c.fact 43 (f := .free "tuple") rfl)
  · exact He.str_ok X G (c.fact 44 (f := .str "AGAIN" "again") rfl)
  · exact He.int_ok X G (c.fact 45 (f := .int "LEAST_WIDE" 4) rfl)
  · exact He.int_ok X G (c.fact 46 (f := .int "MOST_BEATS" 100000000000) rfl)
  · exact He.int_ok X G (c.fact 47 (f := .int "MOST_DEEP" 3) rfl)
  · exact He.int_ok X G (c.fact 48 (f := .int "MOST_GO" 99) rfl)
  · exact He.int_ok X G (c.fact 49 (f := .int "MOST_HIGH" 5) rfl)
  · exact He.int_ok X G (c.fact 50 (f := .int "MOST_ITEMS" 8) rfl)
  · exact He.int_ok X G (c.fact 51 (f := .int "MOST_LIGHTS" 6) rfl)
  · exact He.int_ok X G (c.fact 52 (f := .int "MOST_ROWS" 4) rfl)
  · exact He.int_ok X G (c.fact 53 (f := .int "MOST_SPEED" 9) rfl)
  · exact He.int_ok X G (c.fact 54 (f := .int "MOST_TIMES" 1000000) rfl)
  · exact He.int_ok X G (c.fact 55 (f := .int "MOST_WIDE" 12) rfl)
  · exact c1
  · exact ⟨_, He.glo_ok X G (c.fact 56 (f := .glo "NoScene") rfl), He.exc_ok (c.fact 57 (f := .exc "NoScene") rfl)⟩
  · exact ⟨_, He.glo_ok X G (c.fact 58 (f := .glo "NoSky") rfl), He.exc_ok (c.fact 59 (f := .exc "NoSky") rfl)⟩
  · obtain ⟨fd, F⟩ := c.def_ 0 (d := d_is_whole) rfl
    exact ⟨fd, F, sc_is_whole, He.glo_ok X G (c.fact 0 (f := .glo "is_whole") rfl), F.bindsN fun _ _ _ _ _ _ us hl => match us, hl with | [_], _ => rfl⟩
  · obtain ⟨fd, F⟩ := c.def_ 1 (d := d_is_among) rfl
    exact ⟨fd, F, sc_is_among, He.glo_ok X G (c.fact 1 (f := .glo "is_among") rfl), F.bindsN fun _ _ _ _ _ _ us hl => match us, hl with | [_, _, _], _ => rfl⟩
  · obtain ⟨fd, F⟩ := c.def_ 2 (d := d_is_row) rfl
    exact ⟨fd, F, sc_is_row, He.glo_ok X G (c.fact 2 (f := .glo "is_row") rfl), F.bindsN fun _ _ _ _ _ _ us hl => match us, hl with | [_, _, _], _ => rfl⟩
  · obtain ⟨fd, F⟩ := c.def_ 3 (d := d_is_light_of) rfl
    exact ⟨fd, F, sc_is_light_of, He.glo_ok X G (c.fact 3 (f := .glo "is_light_of") rfl), F.bindsN fun _ _ _ _ _ _ us hl => match us, hl with | [_, _, _], _ => rfl⟩
  · obtain ⟨fd, F⟩ := c.def_ 4 (d := d_is_sky) rfl
    exact ⟨fd, F, sc_is_sky, He.glo_ok X G (c.fact 4 (f := .glo "is_sky") rfl), F.bindsN fun _ _ _ _ _ _ us hl => match us, hl with | [_], _ => rfl⟩
  · obtain ⟨fd, F⟩ := c.def_ 5 (d := d_need_sky) rfl
    exact ⟨fd, F, sc_need_sky, He.glo_ok X G (c.fact 5 (f := .glo "need_sky") rfl), F.bindsN fun _ _ _ _ _ _ us hl => match us, hl with | [_], _ => rfl⟩
  · obtain ⟨fd, F⟩ := c.def_ 6 (d := d_is_item) rfl
    exact ⟨fd, F, sc_is_item, He.glo_ok X G (c.fact 6 (f := .glo "is_item") rfl), F.bindsN fun _ _ _ _ _ _ us hl => match us, hl with | [_, _, _], _ => rfl⟩
  · obtain ⟨fd, F⟩ := c.def_ 7 (d := d_are_items) rfl
    exact ⟨fd, F, sc_are_items, He.glo_ok X G (c.fact 7 (f := .glo "are_items") rfl), F.bindsN fun _ _ _ _ _ _ us hl => match us, hl with | [_, _, _], _ => rfl⟩
  · obtain ⟨fd, F⟩ := c.def_ 8 (d := d_size_of) rfl
    exact ⟨fd, F, sc_size_of, He.glo_ok X G (c.fact 8 (f := .glo "size_of") rfl), F.bindsN fun _ _ _ _ _ _ us hl => match us, hl with | [_], _ => rfl⟩
  · obtain ⟨fd, F⟩ := c.def_ 9 (d := d_is_scene_by) rfl
    exact ⟨fd, F, sc_is_scene_by, He.glo_ok X G (c.fact 9 (f := .glo "is_scene_by") rfl), F.bindsN fun _ _ _ _ _ _ us hl => match us, hl with | [_, _], _ => rfl⟩
  · obtain ⟨fd, F⟩ := c.def_ 10 (d := d_is_scene) rfl
    exact ⟨fd, F, sc_is_scene, He.glo_ok X G (c.fact 10 (f := .glo "is_scene") rfl), F.bindsN fun _ _ _ _ _ _ us hl => match us, hl with | [_, _], _ => rfl⟩
  · obtain ⟨fd, F⟩ := c.def_ 11 (d := d_need_scene) rfl
    exact ⟨fd, F, sc_need_scene, He.glo_ok X G (c.fact 11 (f := .glo "need_scene") rfl), F.bindsN fun _ _ _ _ _ _ us hl => match us, hl with | [_, _], _ => rfl⟩
  · obtain ⟨fd, F⟩ := c.def_ 12 (d := d_need_both) rfl
    exact ⟨fd, F, sc_need_both, He.glo_ok X G (c.fact 12 (f := .glo "need_both") rfl), F.bindsN fun _ _ _ _ _ _ us hl => match us, hl with | [_, _], _ => rfl⟩
  · obtain ⟨fd, F⟩ := c.def_ 13 (d := d_beats_of) rfl
    exact ⟨fd, F, sc_beats_of, He.glo_ok X G (c.fact 13 (f := .glo "beats_of") rfl), F.bindsN fun _ _ _ _ _ _ us hl => match us, hl with | [_, _], _ => rfl⟩
  · obtain ⟨fd, F⟩ := c.def_ 14 (d := d_marks_in) rfl
    exact ⟨fd, F, sc_marks_in, He.glo_ok X G (c.fact 14 (f := .glo "marks_in") rfl), F.bindsN fun _ _ _ _ _ _ us hl => match us, hl with | [_], _ => rfl⟩
  · obtain ⟨fd, F⟩ := c.def_ 15 (d := d_marks_of) rfl
    exact ⟨fd, F, sc_marks_of, He.glo_ok X G (c.fact 15 (f := .glo "marks_of") rfl), F.bindsN fun _ _ _ _ _ _ us hl => match us, hl with | [_, _], _ => rfl⟩
  · obtain ⟨fd, F⟩ := c.def_ 16 (d := d__law_cell_at) rfl
    exact ⟨fd, F, sc__law_cell_at, He.glo_ok X G (c.fact 16 (f := .glo "_law_cell_at") rfl), F.bindsN fun _ _ _ _ _ _ us hl => match us, hl with | [_, _], _ => rfl⟩
  · obtain ⟨fd, F⟩ := c.def_ 17 (d := d__law_pen) rfl
    exact ⟨fd, F, sc__law_pen, He.glo_ok X G (c.fact 17 (f := .glo "_law_pen") rfl), F.bindsN fun _ _ _ _ _ _ us hl => match us, hl with | [_], _ => rfl⟩
  · obtain ⟨fd, F⟩ := c.def_ 18 (d := d__law_draw) rfl
    exact ⟨fd, F, sc__law_draw, He.glo_ok X G (c.fact 18 (f := .glo "_law_draw") rfl), F.bindsN fun _ _ _ _ _ _ us hl => match us, hl with | [_, _], _ => rfl⟩
  · obtain ⟨fd, F⟩ := c.def_ 19 (d := d__law_sky) rfl
    exact ⟨fd, F, sc__law_sky, He.glo_ok X G (c.fact 19 (f := .glo "_law_sky") rfl), F.bindsN fun _ _ _ _ _ _ us hl => match us, hl with | [_, _], _ => rfl⟩
  · obtain ⟨fd, F⟩ := c.def_ 20 (d := d__law_go) rfl
    exact ⟨fd, F, sc__law_go, He.glo_ok X G (c.fact 20 (f := .glo "_law_go") rfl), F.bindsN fun _ _ _ _ _ _ us hl => match us, hl with | [_], _ => rfl⟩
  · obtain ⟨fd, F⟩ := c.def_ 21 (d := d__law_items) rfl
    exact ⟨fd, F, sc__law_items, He.glo_ok X G (c.fact 21 (f := .glo "_law_items") rfl), F.bindsN fun _ _ _ _ _ _ us hl => match us, hl with | [_, _, _, _], _ => rfl⟩
  · obtain ⟨fd, F⟩ := c.def_ 22 (d := d__law_whole) rfl
    exact ⟨fd, F, sc__law_whole, He.glo_ok X G (c.fact 22 (f := .glo "_law_whole") rfl), F.bindsN fun _ _ _ _ _ _ us hl => match us, hl with | [_], _ => rfl⟩
  · obtain ⟨fd, F⟩ := c.def_ 23 (d := d__law_within) rfl
    exact ⟨fd, F, sc__law_within, He.glo_ok X G (c.fact 23 (f := .glo "_law_within") rfl), F.bindsN fun _ _ _ _ _ _ us hl => match us, hl with | [_, _, _], _ => rfl⟩
  · obtain ⟨fd, F⟩ := c.def_ 24 (d := d__law_odd) rfl
    exact ⟨fd, F, sc__law_odd, He.glo_ok X G (c.fact 24 (f := .glo "_law_odd") rfl), F.bindsN fun _ _ _ _ _ _ us hl => match us, hl with | [_], _ => rfl⟩
  · obtain ⟨fd, F⟩ := c.def_ 25 (d := d__law_bent) rfl
    exact ⟨fd, F, sc__law_bent, He.glo_ok X G (c.fact 25 (f := .glo "_law_bent") rfl), F.bindsN fun _ _ _ _ _ _ us hl => match us, hl with | [_, _, _], _ => rfl⟩
  · obtain ⟨fd, F⟩ := c.def_ 26 (d := d__law_are_items) rfl
    exact ⟨fd, F, sc__law_are_items, He.glo_ok X G (c.fact 26 (f := .glo "_law_are_items") rfl), F.bindsN fun _ _ _ _ _ _ us hl => match us, hl with | [_, _, _], _ => rfl⟩
  · obtain ⟨fd, F⟩ := c.def_ 27 (d := d__law_is_item) rfl
    exact ⟨fd, F, sc__law_is_item, He.glo_ok X G (c.fact 27 (f := .glo "_law_is_item") rfl), F.bindsN fun _ _ _ _ _ _ us hl => match us, hl with | [_, _, _], _ => rfl⟩
  · obtain ⟨fd, F⟩ := c.def_ 28 (d := d__law_counted) rfl
    exact ⟨fd, F, sc__law_counted, He.glo_ok X G (c.fact 28 (f := .glo "_law_counted") rfl), F.bindsN fun _ _ _ _ _ _ us hl => match us, hl with | [_], _ => rfl⟩
  · obtain ⟨fd, F⟩ := c.def_ 29 (d := d__law_by_hand) rfl
    exact ⟨fd, F, sc__law_by_hand, He.glo_ok X G (c.fact 29 (f := .glo "_law_by_hand") rfl), F.bindsN fun _ _ _ _ _ _ us hl => match us, hl with | [], _ => rfl⟩
  · obtain ⟨fd, F⟩ := c.def_ 30 (d := d__law_right) rfl
    exact ⟨fd, F, sc__law_right, He.glo_ok X G (c.fact 30 (f := .glo "_law_right") rfl), F.bindsN fun _ _ _ _ _ _ us hl => match us, hl with | [_, _], _ => rfl⟩
  · obtain ⟨fd, F⟩ := c.def_ 31 (d := d_law) rfl
    exact ⟨fd, F, sc_law, He.glo_ok X G (c.fact 31 (f := .glo "law") rfl), F.bindsN fun _ _ _ _ _ _ us hl => match us, hl with | [_], _ => rfl⟩
section
variable {P : Program} {w : World} {K : PySem.W.Frag} {mg : Str → Option Value} {base : Heap}
theorem all_k (g : GL K mg) (D : DL K mg) : ∀ k, CL P w K mg base (callQ T k) k
  | 0 => ⟨D.d_is_whole.elim fun _ d => fn_zero d, D.d_is_among.elim fun _ d => fn_zero d, D.d_is_row.elim fun _ d => fn_zero d, D.d_is_light_of.elim fun _ d => fn_zero d, D.d_is_sky.elim fun _ d => fn_zero d, D.d_need_sky.elim fun _ d => fn_zero d, D.d_is_item.elim fun _ d => fn_zero d, D.d_are_items.elim fun _ d => fn_zero d, D.d_size_of.elim fun _ d => fn_zero d, D.d_is_scene_by.elim fun _ d => fn_zero d, D.d_is_scene.elim fun _ d => fn_zero d, D.d_need_scene.elim fun _ d => fn_zero d, D.d_need_both.elim fun _ d => fn_zero d, D.d_beats_of.elim fun _ d => fn_zero d, D.d_marks_in.elim fun _ d => fn_zero d, D.d_marks_of.elim fun _ d => fn_zero d, D.d__law_cell_at.elim fun _ d => fn_zero d, D.d__law_pen.elim fun _ d => fn_zero d, D.d__law_draw.elim fun _ d => fn_zero d, D.d__law_sky.elim fun _ d => fn_zero d, D.d__law_go.elim fun _ d => fn_zero d, D.d__law_items.elim fun _ d => fn_zero d, D.d__law_whole.elim fun _ d => fn_zero d, D.d__law_within.elim fun _ d => fn_zero d, D.d__law_odd.elim fun _ d => fn_zero d, D.d__law_bent.elim fun _ d => fn_zero d, D.d__law_are_items.elim fun _ d => fn_zero d, D.d__law_is_item.elim fun _ d => fn_zero d, D.d__law_counted.elim fun _ d => fn_zero d, D.d__law_by_hand.elim fun _ d => fn_zero d, D.d__law_right.elim fun _ d => fn_zero d, D.d_law.elim fun _ d => fn_zero d⟩
  | k + 1 => by
    have C := all_k g D k
    exact ⟨D.d_is_whole.elim fun _ d => fn_succ d T_is_whole rfl rfl (by decide) fun _ _ _ _ _ _ hA hr => ok_is_whole g C hA hr,
      D.d_is_among.elim fun _ d => fn_succ d T_is_among rfl rfl (by decide) fun _ _ _ _ _ _ hA hr => ok_is_among g C hA hr,
      D.d_is_row.elim fun _ d => fn_succ d T_is_row rfl rfl (by decide) fun _ _ _ _ _ _ hA hr => ok_is_row g C hA hr,
      D.d_is_light_of.elim fun _ d => fn_succ d T_is_light_of rfl rfl (by decide) fun _ _ _ _ _ _ hA hr => ok_is_light_of g C hA hr,
      D.d_is_sky.elim fun _ d => fn_succ d T_is_sky rfl rfl (by decide) fun _ _ _ _ _ _ hA hr => ok_is_sky g C hA hr,
      D.d_need_sky.elim fun _ d => fn_succ d T_need_sky rfl rfl (by decide) fun _ _ _ _ _ _ hA hr => ok_need_sky g C hA hr,
      D.d_is_item.elim fun _ d => fn_succ d T_is_item rfl rfl (by decide) fun _ _ _ _ _ _ hA hr => ok_is_item g C hA hr,
      D.d_are_items.elim fun _ d => fn_succ d T_are_items rfl rfl (by decide) fun _ _ _ _ _ _ hA hr => ok_are_items g C hA hr,
      D.d_size_of.elim fun _ d => fn_succ d T_size_of rfl rfl (by decide) fun _ _ _ _ _ _ hA hr => ok_size_of g C hA hr,
      D.d_is_scene_by.elim fun _ d => fn_succ d T_is_scene_by rfl rfl (by decide) fun _ _ _ _ _ _ hA hr => ok_is_scene_by g C hA hr,
      D.d_is_scene.elim fun _ d => fn_succ d T_is_scene rfl rfl (by decide) fun _ _ _ _ _ _ hA hr => ok_is_scene g C hA hr,
      D.d_need_scene.elim fun _ d => fn_succ d T_need_scene rfl rfl (by decide) fun _ _ _ _ _ _ hA hr => ok_need_scene g C hA hr,
      D.d_need_both.elim fun _ d => fn_succ d T_need_both rfl rfl (by decide) fun _ _ _ _ _ _ hA hr => ok_need_both g C hA hr,
      D.d_beats_of.elim fun _ d => fn_succ d T_beats_of rfl rfl (by decide) fun _ _ _ _ _ _ hA hr => ok_beats_of g C hA hr,
      D.d_marks_in.elim fun _ d => fn_succ d T_marks_in rfl rfl (by decide) fun _ _ _ _ _ _ hA hr => ok_marks_in g C hA hr,
      D.d_marks_of.elim fun _ d => fn_succ d T_marks_of rfl rfl (by decide) fun _ _ _ _ _ _ hA hr => ok_marks_of g C hA hr,
      D.d__law_cell_at.elim fun _ d => fn_succ d T__law_cell_at rfl rfl (by decide) fun _ _ _ _ _ _ hA hr => ok__law_cell_at g C hA hr,
      D.d__law_pen.elim fun _ d => fn_succ d T__law_pen rfl rfl (by decide) fun _ _ _ _ _ _ hA hr => ok__law_pen g C hA hr,
      D.d__law_draw.elim fun _ d => fn_succ d T__law_draw rfl rfl (by decide) fun _ _ _ _ _ _ hA hr => ok__law_draw g C hA hr,
      D.d__law_sky.elim fun _ d => fn_succ d T__law_sky rfl rfl (by decide) fun _ _ _ _ _ _ hA hr => ok__law_sky g C hA hr,
      D.d__law_go.elim fun _ d => fn_succ d T__law_go rfl rfl (by decide) fun _ _ _ _ _ _ hA hr => ok__law_go g C hA hr,
      D.d__law_items.elim fun _ d => fn_succ d T__law_items rfl rfl (by decide) fun _ _ _ _ _ _ hA hr => ok__law_items g C hA hr,
      D.d__law_whole.elim fun _ d => fn_succ d T__law_whole rfl rfl (by decide) fun _ _ _ _ _ _ hA hr => ok__law_whole g C hA hr,
      D.d__law_within.elim fun _ d => fn_succ d T__law_within rfl rfl (by decide) fun _ _ _ _ _ _ hA hr => ok__law_within g C hA hr,
      D.d__law_odd.elim fun _ d => fn_succ d T__law_odd rfl rfl (by decide) fun _ _ _ _ _ _ hA hr => ok__law_odd g C hA hr,
      D.d__law_bent.elim fun _ d => fn_succ d T__law_bent rfl rfl (by decide) fun _ _ _ _ _ _ hA hr => ok__law_bent g C hA hr,
      D.d__law_are_items.elim fun _ d => fn_succ d T__law_are_items rfl rfl (by decide) fun _ _ _ _ _ _ hA hr => ok__law_are_items g C hA hr,
      D.d__law_is_item.elim fun _ d => fn_succ d T__law_is_item rfl rfl (by decide) fun _ _ _ _ _ _ hA hr => ok__law_is_item g C hA hr,
      D.d__law_counted.elim fun _ d => fn_succ d T__law_counted rfl rfl (by decide) fun _ _ _ _ _ _ hA hr => ok__law_counted g C hA hr,
      D.d__law_by_hand.elim fun _ d => fn_succ d T__law_by_hand rfl rfl (by decide) fun _ _ _ _ _ _ hA hr => ok__law_by_hand g C hA hr,
      D.d__law_right.elim fun _ d => fn_succ d T__law_right rfl rfl (by decide) fun _ _ _ _ _ _ hA hr => ok__law_right g C hA hr,
      D.d_law.elim fun _ d => fn_succ d T_law rfl rfl (by decide) fun _ _ _ _ _ _ hA hr => ok_law g C hA hr⟩
end
end Q

open PySem PySem.W PySem.Calls PyProof.Rows
theorem PySem.Challenge.cw_domelights_k58_scenes_known_and_counted_holds : PySem.Challenge.rw_domelights_k58_scenes_known_and_counted.Holds := by
  w_on; o_law
  refine HandSHeadRun.head_any (r := OpenLaw.row PySem.Challenge.rw_domelights_k58_scenes_known_and_counted) (q := view (OpenLaw.row PySem.Challenge.rw_domelights_k58_scenes_known_and_counted).prog [50]) (H := Q.hk) (ob := Q.ob) (M := 40000) (loose := Q.loose) (d := HandSHeadRun.topDef (OpenLaw.row PySem.Challenge.rw_domelights_k58_scenes_known_and_counted).prog 50) (kwd := []) Q.ob_eq
    (by kernel_rfl) (fun s => by kernel_rfl) Q.run (by kernel_rfl) (by kernel_rfl) (by kernel_rfl) (by rfl) (by first | assumption | decide +kernel) (by decide +kernel) ⟨rfl, rfl, rfl, rfl, rfl, by decide +kernel⟩ ?hw ?hc
  case hw => w_witness2
  case hc =>
    refine Q.walk_G (l := PySem.Challenge.rw_domelights_k58_scenes_known_and_counted) (n := 63) (k := 40) (x := "_law_script") rfl (by decide) (by kernel_rfl) ⟨rfl, by decide, by decide⟩ ?F
    intro w mg fa h Y G hmg0
    obtain ⟨K, KX, c⟩ := Y
    have hmg : mg ("law" : PySem.Str) = some (.ref fa) := by
      have e : (HandSHeadRun.topDef (OpenLaw.row PySem.Challenge.rw_domelights_k58_scenes_known_and_counted).prog 50).name = ("law" : PySem.Str) := by kernel_rfl
      rw [← e]
      exact hmg0
    obtain ⟨g, D⟩ := Q.facts KX G c
    obtain ⟨fd, dl⟩ := D.d_law
    have e := hmg.symm.trans dl.g
    cases e
    have b := L2.FunD.bindsA (ps := ["_law_script"]) dl.F fun _ _ _ _ _ _ us hl => match us, hl with | [_], _ => rfl
    exact ⟨K, fd, _, KX, fun s v => b s [v] rfl, fun H a ns hl hO hS => Q.law_sp (mg := mg) (k := 40) Q.law_true H a ns hl hO hS,
      fun base _ _ => Q.fn_succG dl Q.T_law rfl rfl (by decide) fun _ _ _ _ _ _ hA hr => Q.ok_law g (Q.all_k g D 39) hA hr⟩
