import PyProof.Rows.All
import HandS.ForMost
import HandS.ForExc
import HandS.Flow
import HandS.Style
import HandS.Zip
import HandS.TupAny
import HandS.TupMul
import HandS.Wide
import HandS.Lambda
import HandS.HeadHook1
import HandS.HeadHook2
import HandS.HeadHook4
import HandS.Defaults
import HandS.Ends
import HandS.HeadEnd
import HandS.IsInst
import HandS.SortInts
import HandS.Deep
import PyProof.SumWalkG
import PyProof.ReprRoads
import PyProof.FitsInt
import HandS.Iter
import KE.GoesEnum
import KE.GoesMore
import HandS.SortRule
import HandS.TupSets
import HandS.Dict
import HandS.More
import HandS.Conv
import HandS.List
import HandS.SetFor
import KE.KRevSl
import KE.GoesEnumKw
import HandS.Head0
import HandS.Head1
import HandS.Head2
import HandS.Exc
import HandS.ExcOwn
import PyProof.ExcBaseAll.ValueError
import HandS.EndTab
import HandS.HeadHook3
import KE.KLam
import KE.SortKeyHeap
import HandS.Flt
import HandS.WideBits
import HandS.DictComp
import PyProof.DictUpdate
import PyProof.Rows.SortShellAny
import KE.DataCmp
import KE.DataMinMax
import HandS.SortKw
import KE.SortData
import HandS.DictTup
import KE.KDictKeyed
import KE.KDictItemsList
import HandS.ListItems
import Wide.All
import OpenK.AllK
import Wide.FinOn
import KE.KStateDown
import HandS.Base
import HandS.Call
import HandS.Words
import HandS.WordsExc
import PySem.Challenge.RW_domelights_k23_led_back_or_barred
set_option Elab.async false
set_option linter.all false
set_option maxRecDepth 100000
set_option maxHeartbeats 4000000
namespace Q
open PySem PySem.Spec PyProof.Rows L2

abbrev D := PyData
/-- what a lambda that was made stands on: its object, its code object, its name, what it took along -/
structure Clo where
  f : Addr
  c : Addr
  q : Str
  vs : List V
/-- what a slot or an expression holds -/
inductive W where
  | d (x : D)
  | ref (n : Nat)
  | own (xs : List D)
  | ownd (kvs : List (Key × D))
  | dn (ds : List (List (Int ⊕ List Int) × PyData))
  | tw (xs : List W)
  | fn (x : String)
  | scr (xs : List Int)
  | clo (j : Clo) (y : String) (ws : List W)
  | err (a : Addr) (c : String)
/-- what the store holds -/
inductive O where
  | lst (xs : List D)
  | dct (ks : List (List (Int ⊕ List Int)))
  | dcm (kvs : List (List (Int ⊕ List Int) × PyData))
  | ins (C : String) (fs : List (Str × W))
  | tab (x z : String)
/-- keys of dicts that are changed: tuples of ints and of tuples of ints -/
abbrev NK := List (Int ⊕ List Int)
def enc1 : Int ⊕ List Int → D
  | .inl i => .int i
  | .inr ns => .tuple (ns.map .int)
def encN (ks : NK) : D := .tuple (ks.map enc1)
def hash1 : Int ⊕ List Int → Int
  | .inl i => hashInt i
  | .inr ns => reduceHash (Builtin.Tuple.tupleHashOf (ns.map hashInt))
def hashN (ks : NK) : Int := reduceHash (Builtin.Tuple.tupleHashOf (ks.map hash1))
/-- the dict at a has just these keys, True at each -/
def NestD (a : Addr) (es : List (NK × Addr)) (h : Heap) : Prop :=
  (a == sysModules) = false ∧ (es.map (·.1)).Nodup ∧ ∃ (o : Obj) (ar : Array DictEntry) (ep : Nat), h.get? a = some o ∧ o.ExactDict ∧ o.data = .dict ar ep ∧ ar.toList = es.map fun e => { hash := hashN e.1, key := .ref e.2, val := .bool true }
/-- the dict at a has just these keys (where they stand), these values -/
def NestM (a : Addr) (es : List (NK × Addr × Value)) (h : Heap) : Prop :=
  (a == sysModules) = false ∧ (es.map (·.1)).Nodup ∧ ∃ (o : Obj) (ar : Array DictEntry) (ep : Nat), h.get? a = some o ∧ o.ExactDict ∧ o.data = .dict ar ep ∧ ar.toList = es.map fun e => { hash := hashN e.1, key := .ref e.2.1, val := e.2.2 }
abbrev EnvQ := List (Option W)
abbrev Sto := List O
inductive R (α : Type) where
  | ok (a : α) (S : Sto)
  | exc (c : String) (S : Sto)
  | stuck
abbrev CF := String → List W → Sto → R W
abbrev SE := CF → EnvQ → Sto → R W
abbrev ST := CF → EnvQ → Sto → R Bool
abbrev SA := CF → EnvQ → Sto → R (List W)

/-- a list, a tuple that stays: read, and not among what changes (N); or written by the top -/
def RdL (K : PySem.W.Frag) (H : Hp) (N : Addr → Prop) (a : Addr) (xs : List V) : Prop := ¬ N a ∧ H a = some (.lst xs)
def RdT (K : PySem.W.Frag) (H : Hp) (N : Addr → Prop) (a : Addr) (xs : List V) : Prop := (¬ N a ∧ Rd H a (.tup xs)) ∨ SqT K (fun _ => none) a xs
/-- a dict's flat values, its keys as data -/
inductive Fl : V → D → Prop
  | non : Fl .non .none
  | bl (b : Bool) : Fl (.bl b) (.bool b)
  | int (i : Int) : Fl (.int i) (.int i)
  | str (x : Str) : Fl (.str x) (.str x)
def keyD : Key → D
  | .inl i => .int i
  | .inr x => .str x
inductive KvF : List (Key × V) → List (D × D) → Prop
  | nil : KvF [] []
  | cons (k : Key) {v : V} {d : D} {vs : List (Key × V)} {ds : List (D × D)} : Fl v d → KvF vs ds → KvF ((k, v) :: vs) ((keyD k, d) :: ds)
mutual
inductive Dn (K : PySem.W.Frag) (H : Hp) (N : Addr → Prop) : V → D → Prop
  | non : Dn K H N .non .none
  | bl (b : Bool) : Dn K H N (.bl b) (.bool b)
  | int (i : Int) : Dn K H N (.int i) (.int i)
  | str (x : Str) : Dn K H N (.str x) (.str x)
  | lst {a : Addr} {xs : List V} {ds : List D} : RdL K H N a xs → DnAll K H N xs ds → Dn K H N (.ref a) (.list ds)
  | tup {a : Addr} {xs : List V} {ds : List D} : RdT K H N a xs → DnAll K H N xs ds → Dn K H N (.ref a) (.tuple ds)
  | dic {a : Addr} {o : Obj} {vs : List (Key × V)} {ds : List (D × D)} : ¬ N a → H a = some (.frz o (.dK vs)) → KvF vs ds → Dn K H N (.ref a) (.dict ds)
inductive DnAll (K : PySem.W.Frag) (H : Hp) (N : Addr → Prop) : List V → List D → Prop
  | nil : DnAll K H N [] []
  | cons {v : V} {vs : List V} {d : D} {ds : List D} : Dn K H N v d → DnAll K H N vs ds → DnAll K H N (v :: vs) (d :: ds)
end
/-- a dict's entries: keys, where they stand, values -/
inductive KvN (K : PySem.W.Frag) (H : Hp) (N : Addr → Prop) : List (NK × Addr × Value) → List (NK × D) → Prop
  | nil : KvN K H N [] []
  | cons {k : NK} {ka : Addr} {v : V} {u : Value} {d : D} {xs : List (NK × Addr × Value)} {ds : List (NK × D)} : Dn K H N (.ref ka) (encN k) → RelV v u → Dn K H N v d → KvN K H N xs ds → KvN K H N ((k, ka, u) :: xs) ((k, d) :: ds)
/-- a dict's keys and values -/
inductive KvR (K : PySem.W.Frag) (H : Hp) (N : Addr → Prop) : List (Key × V) → List (Key × D) → Prop
  | nil : KvR K H N [] []
  | cons (k : Key) {v : V} {d : D} {vs : List (Key × V)} {ds : List (Key × D)} : Dn K H N v d → KvR K H N vs ds → KvR K H N ((k, v) :: vs) ((k, d) :: ds)
/-- a list that is read, in whatever way it stands (the script) -/
def RdF (K : PySem.W.Frag) (H : Hp) (N : Addr → Prop) (a : Addr) (xs : List V) : Prop := (¬ N a ∧ Rd H a (.lst xs)) ∨ SqL K (fun _ => none) a xs
/-- what was tracked and does not change stays as it is -/
def Keep (N : Addr → Prop) (H : Hp) (N' : Addr → Prop) (H' : Hp) : Prop := ∀ a o, ¬ N a → H a = some o → H' a = some o ∧ ¬ N' a
theorem Keep.trans {N N1 N2 : Addr → Prop} {H H1 H2 : Hp} (x : Keep N H N1 H1) (y : Keep N1 H1 N2 H2) : Keep N H N2 H2 := fun a o n e =>
  let z := x a o n e
  y a o z.2 z.1
section
variable {K : PySem.W.Frag} {mg : Str → Option Value} {H H' : Hp} {N N' : Addr → Prop}
theorem RdL.keep {a : Addr} {xs : List V} (k : Keep N H N' H') (h : RdL K H N a xs) : RdL K H' N' a xs := ⟨(k a _ h.1 h.2).2, (k a _ h.1 h.2).1⟩
theorem RdF.keep {a : Addr} {xs : List V} (k : Keep N H N' H') (h : RdF K H N a xs) : RdF K H' N' a xs := by
  rcases h with ⟨n, h | ⟨o, h⟩⟩ | h
  · obtain ⟨e, n'⟩ := k a _ n h
    exact .inl ⟨n', .inl e⟩
  · obtain ⟨e, n'⟩ := k a _ n h
    exact .inl ⟨n', .inr ⟨o, e⟩⟩
  · exact .inr h
theorem RdT.keep {a : Addr} {xs : List V} (k : Keep N H N' H') (h : RdT K H N a xs) : RdT K H' N' a xs := by
  rcases h with ⟨n, h | ⟨o, h⟩⟩ | h
  · obtain ⟨e, n'⟩ := k a _ n h
    exact .inl ⟨n', .inl e⟩
  · obtain ⟨e, n'⟩ := k a _ n h
    exact .inl ⟨n', .inr ⟨o, e⟩⟩
  · exact .inr h
mutual
theorem Dn.keep (k : Keep N H N' H') : ∀ {v : V} {d : D}, Dn K H N v d → Dn K H' N' v d
  | _, _, .non => .non
  | _, _, .bl b => .bl b
  | _, _, .int i => .int i
  | _, _, .str x => .str x
  | _, _, .lst h t => .lst (h.keep k) (DnAll.keep k t)
  | _, _, .tup h t => .tup (h.keep k) (DnAll.keep k t)
  | _, _, .dic n h f => .dic (k _ _ n h).2 (k _ _ n h).1 f
theorem DnAll.keep (k : Keep N H N' H') : ∀ {vs : List V} {ds : List D}, DnAll K H N vs ds → DnAll K H' N' vs ds
  | _, _, .nil => .nil
  | _, _, .cons h t => .cons (Dn.keep k h) (DnAll.keep k t)
end
theorem KvN.keep (k : Keep N H N' H') : ∀ {xs : List (NK × Addr × Value)} {ds : List (NK × D)}, KvN K H N xs ds → KvN K H' N' xs ds
  | _, _, .nil => .nil
  | _, _, .cons h r g t => .cons (Dn.keep k h) r (Dn.keep k g) (KvN.keep k t)
theorem KvR.keep (k : Keep N H N' H') : ∀ {vs : List (Key × V)} {ds : List (Key × D)}, KvR K H N vs ds → KvR K H' N' vs ds
  | _, _, .nil => .nil
  | _, _, .cons i h t => .cons i (Dn.keep k h) (KvR.keep k t)
theorem KvR.length : ∀ {vs : List (Key × V)} {ds : List (Key × D)}, KvR K H N vs ds → vs.length = ds.length
  | _, _, .nil => rfl
  | _, _, .cons _ _ t => congrArg (· + 1) (KvR.length t)
theorem DnAll.length : ∀ {vs : List V} {ds : List D}, DnAll K H N vs ds → vs.length = ds.length
  | _, _, .nil => rfl
  | _, _, .cons _ t => congrArg (· + 1) (DnAll.length t)
theorem DnAll.set {v : V} {d : D} (r : Dn K H N v d) : ∀ {xs : List V} {ds : List D} (i : Nat), DnAll K H N xs ds → DnAll K H N (xs.set i v) (ds.set i d)
  | _, _, _, .nil => by simpa using DnAll.nil
  | _, _, 0, .cons _ t => by simpa using DnAll.cons r t
  | _, _, i + 1, .cons q t => by simpa using DnAll.cons q (DnAll.set r i t)
end

mutual
inductive RW (K : PySem.W.Frag) (mg : Str → Option Value) (H : Hp) (N : Addr → Prop) (μ : List Addr) : V → W → Prop
  | d {v : V} {x : D} : Dn K H N v x → RW K mg H N μ v (.d x)
  | ref {a : Addr} {n : Nat} : μ[n]? = some a → RW K mg H N μ (.ref a) (.ref n)
  | own {a : Addr} {vs : List V} {xs : List D} : H a = some (.lst vs) → DnAll K H N vs xs → RW K mg H N μ (.ref a) (.own xs)
  | ownd {a : Addr} {vs : List (Key × V)} {ds : List (Key × D)} : H a = some (.dK vs) → KvR K H N vs ds → RW K mg H N μ (.ref a) (.ownd ds)
  | dn {a : Addr} {xs : List (NK × Addr × Value)} {ds : List (NK × D)} : ¬ N a → H a = some (.ext (NestM a xs)) → KvN K H N xs ds → RW K mg H N μ (.ref a) (.dn ds)
  | tw {a : Addr} {vs : List V} {ws : List W} : ¬ N a → H a = some (.tup vs) → RWs K mg H N μ vs ws → RW K mg H N μ (.ref a) (.tw ws)
  | fn {a : Addr} {x : String} : mg (Str.ofString x) = some (.ref a) → RW K mg H N μ (.ref a) (.fn x)
  | scr {a : Addr} {xs : List Int} : RdF K H N a (xs.map V.int) → RW K mg H N μ (.ref a) (.scr xs)
  | clo {j : Clo} {y : String} {ws : List W} : ¬ N j.c → H j.c = some (LamX.CodeO j.c j.q) → RWs K mg H N μ j.vs ws → RW K mg H N μ (.ref j.f) (.clo j y ws)
  | err {a : Addr} {c : String} : RW K mg H N μ (.ref a) (.err a c)
inductive RWs (K : PySem.W.Frag) (mg : Str → Option Value) (H : Hp) (N : Addr → Prop) (μ : List Addr) : List V → List W → Prop
  | nil : RWs K mg H N μ [] []
  | cons {v : V} {vs : List V} {w : W} {ws : List W} : RW K mg H N μ v w → RWs K mg H N μ vs ws → RWs K mg H N μ (v :: vs) (w :: ws)
end
mutual
/-- without anything of one's own -/
def W.plain : W → Bool
  | .d _ => true
  | .ref _ => true
  | .own _ => false
  | .ownd _ => false
  | .dn _ => true
  | .tw xs => W.plains xs
  | .fn _ => true
  | .scr _ => true
  | .clo _ _ ws => W.plains ws
  | .err _ _ => true
def W.plains : List W → Bool
  | [] => true
  | w :: ws => W.plain w && W.plains ws
end
section
variable {K : PySem.W.Frag} {mg : Str → Option Value} {H H' : Hp} {N N' : Addr → Prop} {μ μ' : List Addr}
theorem pre_get {μ μ' : List Addr} (p : μ <+: μ') {n : Nat} {a : Addr} (h : μ[n]? = some a) : μ'[n]? = some a := by
  obtain ⟨t, rfl⟩ := p
  have hl : n < μ.length := by
    rcases Nat.lt_or_ge n μ.length with q | q
    · exact q
    · rw [List.getElem?_eq_none q] at h; cases h
  rw [List.getElem?_append_left hl]
  exact h
mutual
theorem RW.keep (k : Keep N H N' H') (p : μ <+: μ') : ∀ {v : V} {w : W}, RW K mg H N μ v w → w.plain = true → RW K mg H' N' μ' v w
  | _, _, .d h, _ => .d (h.keep k)
  | _, _, .ref h, _ => .ref (pre_get p h)
  | _, _, .own _ _, e => by simp [W.plain] at e
  | _, _, .ownd _ _, e => by simp [W.plain] at e
  | _, _, .dn n h t, _ => .dn (k _ _ n h).2 (k _ _ n h).1 (t.keep k)
  | _, _, .tw n h t, e => .tw (k _ _ n h).2 (k _ _ n h).1 (RWs.keep k p t (by simpa [W.plain] using e))
  | _, _, .fn h, _ => .fn h
  | _, _, .scr h, _ => .scr (h.keep k)
  | _, _, .clo n h t, e => .clo (k _ _ n h).2 (k _ _ n h).1 (RWs.keep k p t (by simpa [W.plain] using e))
  | _, _, .err, _ => .err
theorem RWs.keep (k : Keep N H N' H') (p : μ <+: μ') : ∀ {vs : List V} {ws : List W}, RWs K mg H N μ vs ws → W.plains ws = true → RWs K mg H' N' μ' vs ws
  | _, _, .nil, _ => .nil
  | _, _, .cons h t, e => by
    simp only [W.plains, Bool.and_eq_true] at e
    exact .cons (RW.keep k p h e.1) (RWs.keep k p t e.2)
end
theorem RWs.length : ∀ {vs : List V} {ws : List W}, RWs K mg H N μ vs ws → vs.length = ws.length
  | _, _, .nil => rfl
  | _, _, .cons _ t => congrArg (· + 1) (RWs.length t)
end

def W.isOwn : W → Bool
  | .own _ => true
  | .ownd _ => true
  | _ => false
/-- plain or one's own -/
def W.fine (w : W) : Bool := w.plain || w.isOwn
def OwnAt (σ : L2.St) (env : EnvQ) (i : Nat) (a : Addr) : Prop := σ[i]? = some (some (.ref a)) ∧ ∃ w, env[i]? = some (some w) ∧ w.isOwn = true
/-- what this code may change: the store, its own slots -/
def MM (μ : List Addr) (σ : L2.St) (env : EnvQ) : Addr → Prop := fun a => a ∈ μ ∨ ∃ i, OwnAt σ env i a
/-- .. and what its callers may (F): data hang on none of these -/
def NN (F : Addr → Prop) (μ : List Addr) (σ : L2.St) (env : EnvQ) : Addr → Prop := fun a => MM μ σ env a ∨ F a
/-- the name of the lambdas that the def z makes -/
abbrev lamQ (z : String) : Str := Str.ofString z ++ ".<locals>." ++ "<lambda>"
/-- the table at P tells code objects of the name q, which stay -/
def TabN (H : Hp) (N : Addr → Prop) (P : Addr) (q : Str) : Prop := ∃ ps : Array Value, H P = some (.tbl ps) ∧ TriplesOk ps.toList ∧ ∀ (pos : Pos) (cv : Value), codeAmong pos ps.toList = some cv → ∃ c, cv = .ref c ∧ ¬ N c ∧ H c = some (LamX.CodeO c q)
theorem TabN.keep {H H' : Hp} {N N' : Addr → Prop} {P : Addr} {q : Str} (t : TabN H N P q) (h : ∀ {ps}, H P = some (.tbl ps) → H' P = some (.tbl ps)) (k : Keep N H N' H') : TabN H' N' P q := by
  obtain ⟨ps, h1, h2, h3⟩ := t
  refine ⟨ps, h h1, h2, fun pos cv e => ?_⟩
  obtain ⟨c, e1, n, e2⟩ := h3 pos cv e
  exact ⟨c, e1, (k c _ n e2).2, (k c _ n e2).1⟩
theorem TabN.s {H : Hp} {N : Addr → Prop} {P : Addr} {q : Str} (t : TabN H N P q) : LamX.TabS H P q := by
  obtain ⟨ps, h1, h2, h3⟩ := t
  refine ⟨ps, h1, h2, fun pos cv e => ?_⟩
  obtain ⟨c, e1, _, e2⟩ := h3 pos cv e
  exact ⟨c, e1, e2⟩
/-- where the table of the def x stands -/
def tabA (K : PySem.W.Frag) (x : String) : Addr := (He.cT K (Str.ofString x, none)).2
inductive RO (K : PySem.W.Frag) (mg : Str → Option Value) (H : Hp) (N : Addr → Prop) (μ : List Addr) (a : Addr) : O → Prop
  | lst {vs : List V} {xs : List D} : H a = some (.lst vs) → DnAll K H N vs xs → RO K mg H N μ a (.lst xs)
  | ins {C : String} {c dx : Addr} {fvs : List (Str × V)} {fs : List (Str × W)} : mg (Str.ofString C) = some (.ref c) → H a = some (.ins c dx fvs) → fvs.map (·.1) = fs.map (·.1) →
      RWs K mg H N μ (fvs.map (·.2)) (fs.map (·.2)) → W.plains (fs.map (·.2)) = true → RO K mg H N μ a (.ins C fs)
  | dct {es : List (NK × Addr)} : H a = some (.ext (NestD a es)) → (∀ e ∈ es, Dn K H N (.ref e.2) (encN e.1)) → RO K mg H N μ a (.dct (es.map (·.1)))
  | dcm {xs : List (NK × Addr × Value)} {ds : List (NK × D)} : H a = some (.ext (NestM a xs)) → KvN K H N xs ds → RO K mg H N μ a (.dcm ds)
  | tab {x z : String} : a = tabA K x → TabN H N a (lamQ z) → RO K mg H N μ a (.tab x z)
/-- the store -/
structure SimS (K : PySem.W.Frag) (mg : Str → Option Value) (H : Hp) (N : Addr → Prop) (S : Sto) (μ : List Addr) : Prop where
  len : μ.length = S.length
  nd : μ.Nodup
  obj : ∀ (n : Nat) (o : O), S[n]? = some o → ∃ a, μ[n]? = some a ∧ RO K mg H N μ a o
structure Sim (K : PySem.W.Frag) (mg : Str → Option Value) (F : Addr → Prop) (σ : L2.St) (H : Hp) (env : EnvQ) (S : Sto) (μ : List Addr) : Prop where
  len : σ.length = env.length
  slot : ∀ (i : Nat) (w : W), env[i]? = some (some w) → ∃ v, σ[i]? = some (some v) ∧ RW K mg H (NN F μ σ env) μ v w
  fin : ∀ (i : Nat) (w : W), env[i]? = some (some w) → w.fine = true
  inj : ∀ (i j : Nat) (a : Addr), OwnAt σ env i a → OwnAt σ env j a → i = j
  apart : ∀ (i : Nat) (a : Addr), OwnAt σ env i a → a ∉ μ
  st : SimS K mg H (NN F μ σ env) S μ
  ftr : ∀ a, F a → ∃ u, H a = some u
  fdis : ∀ a, F a → ¬ MM μ σ env a
/-- from one state to a later one, the slots as they were -/
structure Ext (σ : L2.St) (env : EnvQ) (H : Hp) (μ : List Addr) (H' : Hp) (μ' : List Addr) : Prop where
  keep : Keep (MM μ σ env) H (MM μ' σ env) H'
  pre : μ <+: μ'
theorem Ext.nn {σ : L2.St} {env : EnvQ} {H H1 : Hp} {μ μ1 : List Addr} (x : Ext σ env H μ H1 μ1) (F : Addr → Prop) : Keep (NN F μ σ env) H (NN F μ1 σ env) H1 := fun a o n e =>
  let z := x.keep a o (fun q => n (.inl q)) e
  ⟨z.1, fun q => q.elim z.2 fun q => n (.inr q)⟩
theorem Ext.trans {σ : L2.St} {env : EnvQ} {H H1 H2 : Hp} {μ μ1 μ2 : List Addr} (x : Ext σ env H μ H1 μ1) (y : Ext σ env H1 μ1 H2 μ2) : Ext σ env H μ H2 μ2 :=
  ⟨x.keep.trans y.keep, List.IsPrefix.trans x.pre y.pre⟩
section
variable (K : PySem.W.Frag) (mg : Str → Option Value) (EX : WX)
def Post {α : Type} (F : Addr → Prop) (σ : L2.St) (env : EnvQ) (H : Hp) (μ : List Addr) (r : R α) (P : α → Sto → Hp → List Addr → Prop) : Prop :=
  match r with
  | .ok a S' => ∀ H' μ', Sim K mg F σ H' env S' μ' → Ext σ env H μ H' μ' → P a S' H' μ'
  | .exc c S' => ∀ C H' μ', mg (Str.ofString c) = some (.ref C) → Sim K mg F σ H' env S' μ' → Ext σ env H μ H' μ' → EX (.ref C) none σ H'
  | .stuck => False
end
section
variable {K : PySem.W.Frag} {mg : Str → Option Value} {EX : WX} {F : Addr → Prop} {σ : L2.St} {env : EnvQ} {H H' : Hp} {S : Sto} {μ μ' : List Addr} {α β : Type}
theorem Post.ext {r : R α} {P : α → Sto → Hp → List Addr → Prop} (h : Post K mg EX F σ env H μ r P) (x : Ext σ env H μ H' μ') : Post K mg EX F σ env H' μ' r P := by
  cases r with
  | ok a S' => exact fun H2 μ2 s2 x2 => h H2 μ2 s2 (x.trans x2)
  | exc c S' => exact fun C H2 μ2 g s2 x2 => h C H2 μ2 g s2 (x.trans x2)
  | stuck => exact h
theorem Post.ok {a : α} {P : α → Sto → Hp → List Addr → Prop} (h : Post K mg EX F σ env H μ (.ok a S) P) (s : Sim K mg F σ H' env S μ') (x : Ext σ env H μ H' μ') : P a S H' μ' := h H' μ' s x
end

end Q

namespace Q
open PySem PySem.Spec PyProof.Rows L2

section
variable {K : PySem.W.Frag} {mg : Str → Option Value} {H : Hp} {N N' : Addr → Prop} {μ : List Addr}
theorem Keep.sub (h : ∀ a, N' a → N a) : Keep N H N' H := fun a _ n e => ⟨e, fun q => n (h a q)⟩
mutual
theorem RW.sub (h : ∀ a, N' a → N a) : ∀ {v : V} {w : W}, RW K mg H N μ v w → RW K mg H N' μ v w
  | _, _, .d t => .d (t.keep (Keep.sub h))
  | _, _, .ref t => .ref t
  | _, _, .own e t => .own e (t.keep (Keep.sub h))
  | _, _, .ownd e t => .ownd e (t.keep (Keep.sub h))
  | _, _, .dn n e t => .dn (fun q => n (h _ q)) e (t.keep (Keep.sub h))
  | _, _, .tw n e t => .tw (fun q => n (h _ q)) e (RWs.sub h t)
  | _, _, .fn t => .fn t
  | _, _, .scr t => .scr (t.keep (Keep.sub h))
  | _, _, .clo n e t => .clo (fun q => n (h _ q)) e (RWs.sub h t)
  | _, _, .err => .err
theorem RWs.sub (h : ∀ a, N' a → N a) : ∀ {vs : List V} {ws : List W}, RWs K mg H N μ vs ws → RWs K mg H N' μ vs ws
  | _, _, .nil => .nil
  | _, _, .cons t r => .cons (RW.sub h t) (RWs.sub h r)
end
theorem RO.sub (h : ∀ a, N' a → N a) {a : Addr} {o : O} (r : RO K mg H N μ a o) : RO K mg H N' μ a o := by
  cases r with
  | lst e t => exact .lst e (t.keep (Keep.sub h))
  | ins g e m t p => exact .ins g e m (RWs.sub h t) p
  | dct e t => exact .dct e fun x hx => (t x hx).keep (Keep.sub h)
  | dcm e t => exact .dcm e (t.keep (Keep.sub h))
  | tab e t => exact .tab e (t.keep (fun q => q) (Keep.sub h))
theorem SimS.sub {S : Sto} (h : ∀ a, N' a → N a) (s : SimS K mg H N S μ) : SimS K mg H N' S μ := ⟨s.len, s.nd, fun n o e => let ⟨a, ha, r⟩ := s.obj n o e; ⟨a, ha, r.sub h⟩⟩
end

def NR (F : Addr → Prop) (μ : List Addr) : Addr → Prop := fun a => a ∈ μ ∨ F a
structure SimR (K : PySem.W.Frag) (mg : Str → Option Value) (F : Addr → Prop) (H : Hp) (S : Sto) (μ : List Addr) : Prop where
  st : SimS K mg H (NR F μ) S μ
  ftr : ∀ a, F a → ∃ u, H a = some u
  fdis : ∀ a, F a → a ∉ μ
section
variable {X : Cx} {cf : CF} {EX : WX} {F : Addr → Prop} {σ : L2.St} {env : EnvQ} {S S' : Sto} {H H' : Hp} {μ μ' : List Addr} {K : PySem.W.Frag} {mg : Str → Option Value}
/-- what one's own thing holds -/
inductive OwnR (K : PySem.W.Frag) (H : Hp) (N : Addr → Prop) : HO → W → Prop
  | lst {vs : List V} {xs : List D} : DnAll K H N vs xs → OwnR K H N (.lst vs) (.own xs)
  | dct {vs : List (Key × V)} {ds : List (Key × D)} : KvR K H N vs ds → OwnR K H N (.dK vs) (.ownd ds)
theorem OwnR.keep {N N' : Addr → Prop} {H' : Hp} {o : HO} {w : W} (k : Keep N H N' H') (h : OwnR K H N o w) : OwnR K H' N' o w := by
  cases h with
  | lst t => exact .lst (t.keep k)
  | dct t => exact .dct (t.keep k)
theorem OwnR.rw {N : Addr → Prop} {o : HO} {w : W} {a : Addr} (h : OwnR K H N o w) (e : H a = some o) : RW K mg H N μ (.ref a) w := by
  cases h with
  | lst t => exact .own e t
  | dct t => exact .ownd e t
theorem own_or_plain : ∀ {v : V} {w : W} {N : Addr → Prop}, RW K mg H N μ v w → w.isOwn = true → ∃ a o, v = .ref a ∧ H a = some o ∧ OwnR K H N o w
  | _, _, _, .own e t, _ => ⟨_, _, rfl, e, .lst t⟩
  | _, _, _, .ownd e t, _ => ⟨_, _, rfl, e, .dct t⟩
  | _, _, _, .d _, h => by simp [W.isOwn] at h
  | _, _, _, .ref _, h => by simp [W.isOwn] at h
  | _, _, _, .tw _ _ _, h => by simp [W.isOwn] at h
  | _, _, _, .fn _, h => by simp [W.isOwn] at h
  | _, _, _, .scr _, h => by simp [W.isOwn] at h
end
end Q

namespace Q
open PySem PySem.Spec PyProof.Rows L2

inductive RS where
  | next (env : EnvQ) (S : Sto)
  | ret (w : W) (S : Sto)
  | brk (env : EnvQ) (S : Sto)
  | cont (env : EnvQ) (S : Sto)
  | exc (c : String) (env : EnvQ) (S : Sto)
  | stuck
abbrev SS := CF → EnvQ → Sto → RS
/-- from an expression's result to a statement's -/
def R.then {α : Type} (r : R α) (env : EnvQ) (f : α → Sto → RS) : RS := match r with
  | .ok a S => f a S
  | .exc c S => .exc c env S
  | .stuck => .stuck
def RS.seq (r : RS) (f : EnvQ → Sto → RS) : RS := match r with
  | .next env S => f env S
  | r => r
structure ExS (σ : L2.St) (env : EnvQ) (H : Hp) (μ : List Addr) (σ' : L2.St) (env' : EnvQ) (H' : Hp) (μ' : List Addr) : Prop where
  keep : Keep (MM μ σ env) H (MM μ' σ' env') H'
  pre : μ <+: μ'
theorem ExS.trans {σ σ1 σ2 : L2.St} {env env1 env2 : EnvQ} {H H1 H2 : Hp} {μ μ1 μ2 : List Addr} (x : ExS σ env H μ σ1 env1 H1 μ1) (y : ExS σ1 env1 H1 μ1 σ2 env2 H2 μ2) : ExS σ env H μ σ2 env2 H2 μ2 :=
  ⟨x.keep.trans y.keep, List.IsPrefix.trans x.pre y.pre⟩
theorem ExS.nn {σ σ1 : L2.St} {env env1 : EnvQ} {H H1 : Hp} {μ μ1 : List Addr} (x : ExS σ env H μ σ1 env1 H1 μ1) (F : Addr → Prop) : Keep (NN F μ σ env) H (NN F μ1 σ1 env1) H1 := fun a o n e =>
  let z := x.keep a o (fun q => n (.inl q)) e
  ⟨z.1, fun q => q.elim z.2 fun q => n (.inr q)⟩
theorem Ext.s {σ : L2.St} {env : EnvQ} {H H' : Hp} {μ μ' : List Addr} (x : Ext σ env H μ H' μ') : ExS σ env H μ σ env H' μ' := ⟨x.keep, x.pre⟩
section
variable (K : PySem.W.Frag) (mg : Str → Option Value) (EX : WX)
def PostS (F : Addr → Prop) (σ : L2.St) (env : EnvQ) (H : Hp) (μ : List Addr) (r : RS) (D : Ends) : Prop :=
  match r with
  | .next env' S' => ∀ σ' H' μ', Sim K mg F σ' H' env' S' μ' → ExS σ env H μ σ' env' H' μ' → D.nx σ' H'
  | .brk env' S' => ∀ σ' H' μ', Sim K mg F σ' H' env' S' μ' → ExS σ env H μ σ' env' H' μ' → D.bk σ' H'
  | .cont env' S' => ∀ σ' H' μ', Sim K mg F σ' H' env' S' μ' → ExS σ env H μ σ' env' H' μ' → D.ct σ' H'
  | .ret w S' => ∀ v H' μ', SimR K mg F H' S' μ' → Keep (MM μ σ env) H (· ∈ μ') H' → μ <+: μ' → RW K mg H' (NR F μ') μ' v w → D.rt v H'
  | .exc c env' S' => ∀ C σ' H' μ', mg (Str.ofString c) = some (.ref C) → Sim K mg F σ' H' env' S' μ' → ExS σ env H μ σ' env' H' μ' → EX (.ref C) none σ' H'
  | .stuck => False
end
section
variable {K : PySem.W.Frag} {mg : Str → Option Value} {EX : WX} {F : Addr → Prop} {σ σ' : L2.St} {env env' : EnvQ} {H H' : Hp} {S : Sto} {μ μ' : List Addr} {D D' : Ends}
theorem PostS.ext {r : RS} (h : PostS K mg EX F σ env H μ r D) (x : ExS σ env H μ σ' env' H' μ') : PostS K mg EX F σ' env' H' μ' r D := by
  cases r with
  | next e S' => exact fun σ2 H2 μ2 s2 x2 => h σ2 H2 μ2 s2 (x.trans x2)
  | brk e S' => exact fun σ2 H2 μ2 s2 x2 => h σ2 H2 μ2 s2 (x.trans x2)
  | cont e S' => exact fun σ2 H2 μ2 s2 x2 => h σ2 H2 μ2 s2 (x.trans x2)
  | ret w S' => exact fun v H2 μ2 s2 k2 p2 => h v H2 μ2 s2 (x.keep.trans k2) (List.IsPrefix.trans x.pre p2)
  | exc c e S' => exact fun C σ2 H2 μ2 g s2 x2 => h C σ2 H2 μ2 g s2 (x.trans x2)
  | stuck => exact h
theorem PostS.seq {r : RS} {f : EnvQ → Sto → RS} (h : PostS K mg EX F σ env H μ (r.seq f) D) : PostS K mg EX F σ env H μ r { D with nx := fun σ' H' => ∃ env' S' μ', Sim K mg F σ' H' env' S' μ' ∧ PostS K mg EX F σ' env' H' μ' (f env' S') D } := by
  cases r with
  | next e S' => exact fun σ2 H2 μ2 s2 x2 => ⟨e, S', μ2, s2, PostS.ext h x2⟩
  | brk e S' => exact h
  | cont e S' => exact h
  | ret w S' => exact h
  | exc c e S' => exact h
  | stuck => exact h
end
/-- where an item goes -/
inductive Tg where
  | name (i : Nat)
  | names (is : List Nat)
def setAll : List Nat → List D → EnvQ → Option EnvQ
  | [], [], env => some env
  | i :: is, d :: ds, env => setAll is ds (env.set i (some (.d d)))
  | _, _, _ => none
def Tg.set : Tg → D → EnvQ → Option EnvQ
  | .name i, d, env => some (env.set i (some (.d d)))
  | .names is, .tuple ds, env => setAll is ds env
  | _, _, _ => none
section
variable {X : Cx} {cf : CF} {EX : WX} {F : Addr → Prop} {σ : L2.St} {env : EnvQ} {S S' : Sto} {H H' : Hp} {μ μ' : List Addr} {K : PySem.W.Frag} {mg : Str → Option Value} {st : Stmt} {sts body : List Stmt} {e c : Expr} {fa fb : SE} {gc : ST} {ha : SA} {f g : SS} {pos p : Pos} {x : Str}
theorem set_get {α : Type} {l : List α} {i j : Nat} {x y : α} (h : (l.set i x)[j]? = some y) : (j = i ∧ y = x) ∨ (j ≠ i ∧ l[j]? = some y) := by
  by_cases e : j = i
  · subst e
    by_cases hl : j < l.length
    · rw [List.getElem?_set_self hl] at h
      exact .inl ⟨rfl, (Option.some.inj h).symm⟩
    · rw [List.getElem?_eq_none (by simpa using hl)] at h
      cases h
  · rw [List.getElem?_set_ne (Ne.symm e)] at h
    exact .inr ⟨e, h⟩
theorem fine_own {w : W} (h : w.isOwn = true) : w.plain = false := by
  cases w <;> first | rfl | simp [W.isOwn] at h
theorem own_set {i j : Nat} {v : V} {w : W} {a : Addr} (pw : w.isOwn = false) (hl : σ.length = env.length) (h : OwnAt (σ.set i (some v)) (env.set i (some w)) j a) : j ≠ i ∧ OwnAt σ env j a := by
  obtain ⟨h1, u, h2, h3⟩ := h
  rcases set_get h2 with ⟨e, z⟩ | ⟨n, z⟩
  · cases z
    rw [pw] at h3
    cases h3
  · rcases set_get h1 with ⟨e, _⟩ | ⟨_, y⟩
    · exact absurd e n
    · exact ⟨n, y, u, z, h3⟩
theorem plain_notOwn {w : W} (h : w.plain = true) : w.isOwn = false := by
  cases e : w.isOwn with
  | false => rfl
  | true => rw [fine_own e] at h; cases h
theorem Sim.set (s : Sim K mg F σ H env S μ) {i : Nat} {v : V} {w : W} (pw : w.plain = true) (r : RW K mg H (NN F μ σ env) μ v w) : Sim K mg F (σ.set i (some v)) H (env.set i (some w)) S μ ∧ ExS σ env H μ (σ.set i (some v)) (env.set i (some w)) H μ := by
  have no := plain_notOwn pw
  have sub : ∀ a, MM μ (σ.set i (some v)) (env.set i (some w)) a → MM μ σ env a := fun a h => h.elim .inl fun ⟨j, h⟩ => .inr ⟨j, (own_set no s.len h).2⟩
  have subN : ∀ a, NN F μ (σ.set i (some v)) (env.set i (some w)) a → NN F μ σ env a := fun a h => h.elim (fun h => .inl (sub a h)) .inr
  refine ⟨⟨by simpa using s.len, fun j u e => ?_, fun j u e => ?_, fun j k a h1 h2 => s.inj j k a (own_set no s.len h1).2 (own_set no s.len h2).2, fun j a h => s.apart j a (own_set no s.len h).2, s.st.sub subN, s.ftr, fun a f h => s.fdis a f (sub a h)⟩, Keep.sub sub, List.prefix_refl _⟩
  · rcases set_get e with ⟨z, y⟩ | ⟨n, z⟩
    · subst z
      cases y
      have hl : j < σ.length := by
        rw [s.len]
        have q := (List.getElem?_eq_some_iff.mp e).1
        simpa using q
      exact ⟨v, List.getElem?_set_self hl, RW.sub subN r⟩
    · obtain ⟨v', h1, h2⟩ := s.slot j u z
      exact ⟨v', by rw [List.getElem?_set_ne (Ne.symm n)]; exact h1, RW.sub subN h2⟩
  · rcases set_get e with ⟨z, y⟩ | ⟨n, z⟩
    · cases y
      unfold W.fine
      rw [pw, Bool.true_or]
    · exact s.fin j u z
end
end Q

namespace Q
open PySem PySem.Spec PyProof.Rows L2
section
variable {X : Cx} {cf : CF} {EX : WX} {F : Addr → Prop} {σ : L2.St} {env : EnvQ} {S S' : Sto} {H H' : Hp} {μ μ' : List Addr} {K : PySem.W.Frag} {mg : Str → Option Value} {st : Stmt} {sts body : List Stmt} {e c tg : Expr} {es : List Expr} {fa fb : SE} {gc : ST} {ha : SA} {f g : SS} {pos p : Pos} {x : Str}

theorem nd_ix {α : Type} : ∀ {l : List α} {i j : Nat} {x : α}, l.Nodup → l[i]? = some x → l[j]? = some x → i = j
  | [], _, _, _, _, h, _ => by simp at h
  | a :: l, 0, 0, _, _, _, _ => rfl
  | a :: l, 0, j + 1, x, nd, h1, h2 => by
    simp at h1 h2
    subst h1
    exact absurd (List.mem_of_getElem? h2) (List.nodup_cons.mp nd).1
  | a :: l, i + 1, 0, x, nd, h1, h2 => by
    simp at h1 h2
    subst h2
    exact absurd (List.mem_of_getElem? h1) (List.nodup_cons.mp nd).1
  | a :: l, i + 1, j + 1, x, nd, h1, h2 => congrArg (· + 1) (nd_ix (List.nodup_cons.mp nd).2 (by simpa using h1) (by simpa using h2))
theorem Sim.store (s : Sim K mg F σ H env S μ) {n : Nat} {a : Addr} {vs vs' : List V} {xs xs' : List D} (hn : μ[n]? = some a) (hS : S[n]? = some (.lst xs)) (ha : H a = some (.lst vs)) (t : DnAll K H (NN F μ σ env) vs' xs') :
    Sim K mg F σ (upd H a (.lst vs')) env (S.set n (.lst xs')) μ ∧ Ext σ env H μ (upd H a (.lst vs')) μ := by
  have am : a ∈ μ := List.mem_of_getElem? hn
  have kp : Keep (MM μ σ env) H (MM μ σ env) (upd H a (.lst vs')) := fun b o nb q => by
    have ne : b ≠ a := fun z => nb (z ▸ .inl am)
    exact ⟨by rw [upd_ne ne]; exact q, nb⟩
  have ex : Ext σ env H μ (upd H a (.lst vs')) μ := ⟨kp, List.prefix_refl _⟩
  have kn := ex.nn F
  refine ⟨⟨s.len, fun i w e => ?_, s.fin, s.inj, s.apart, ⟨by simpa using s.st.len, s.st.nd, fun k ob e => ?_⟩, fun b f => ?_, s.fdis⟩, ex⟩
  · obtain ⟨v, hv, r⟩ := s.slot i w e
    refine ⟨v, hv, ?_⟩
    by_cases po : w.isOwn = true
    · obtain ⟨b, ob, rfl, hb, tb⟩ := own_or_plain r po
      have ne : b ≠ a := fun z => s.apart i b ⟨hv, _, e, po⟩ (z ▸ am)
      exact (tb.keep kn).rw (by rw [upd_ne ne]; exact hb)
    · have pl : w.plain = true := by
        have fi := s.fin i w e
        unfold W.fine at fi
        simpa [po] using fi
      exact RW.keep kn (List.prefix_refl _) r pl
  · rcases set_get e with ⟨z, y⟩ | ⟨nk, z⟩
    · subst z
      cases y
      exact ⟨a, hn, .lst upd_same (t.keep kn)⟩
    · obtain ⟨b, hb, r⟩ := s.st.obj k ob z
      have ne : b ≠ a := fun y => nk (nd_ix s.st.nd hb (y ▸ hn))
      refine ⟨b, hb, ?_⟩
      cases r with
      | lst h t' => exact .lst (by rw [upd_ne ne]; exact h) (t'.keep kn)
      | ins g h m t' pl => exact .ins g (by rw [upd_ne ne]; exact h) m (RWs.keep kn (List.prefix_refl _) t' pl) pl
      | dct h t' => exact .dct (by rw [upd_ne ne]; exact h) fun e he => (t' e he).keep kn
      | dcm h t' => exact .dcm (by rw [upd_ne ne]; exact h) (t'.keep kn)
      | tab h0 t' => exact .tab h0 (t'.keep (fun h => by rw [upd_ne ne]; exact h) kn)
  · obtain ⟨u, hu⟩ := s.ftr b f
    have ne : b ≠ a := fun z => s.fdis b f (.inl (z ▸ am))
    exact ⟨u, by rw [upd_ne ne]; exact hu⟩
end
end Q

namespace Q
open PySem PySem.Spec PyProof.Rows L2
section
variable {X : Cx} {cf : CF} {EX : WX} {F : Addr → Prop} {σ : L2.St} {env : EnvQ} {S S' : Sto} {H H' : Hp} {μ μ' : List Addr} {K : PySem.W.Frag} {mg : Str → Option Value} {e c tg : Expr} {es : List Expr} {fa fb : SE} {pos p : Pos} {x : Str}
theorem KvR.any {N : Addr → Prop} {k : Key} : ∀ {vs : List (Key × V)} {ds : List (Key × D)}, KvR K H N vs ds → (vs.any fun kv => decide (kv.1 = k)) = (ds.any fun kv => decide (kv.1 = k))
  | _, _, .nil => rfl
  | _, _, .cons i _ t => by simp only [List.any_cons, KvR.any t]
theorem KvR.map {N : Addr → Prop} {k : Key} {v : V} {d : D} (r : Dn K H N v d) : ∀ {vs : List (Key × V)} {ds : List (Key × D)}, KvR K H N vs ds → KvR K H N (vs.map fun kv => if kv.1 = k then (kv.1, v) else kv) (ds.map fun kv => if kv.1 = k then (kv.1, d) else kv)
  | _, _, .nil => .nil
  | _, _, .cons i h t => by
    simp only [List.map_cons]
    by_cases e : i = k
    · rw [if_pos e, if_pos e]
      exact .cons i r (KvR.map r t)
    · rw [if_neg e, if_neg e]
      exact .cons i h (KvR.map r t)
end
end Q

namespace Q
open PySem PySem.Spec PyProof.Rows L2
mutual
/-- the value as the top left it is this datum -/
def datB (K : PySem.W.Frag) : D → Value → Bool
  | .none, .none => true
  | .bool b, .bool c => b == c
  | .int i, .int j _ => decide (i = j)
  | .str i, .str j _ => decide (i = j)
  | .tuple ds, .ref a => (match K.lookup a with
    | some ⟨.type c, _, .seq us _, _⟩ => decide (c = "tuple") && (decide (us.size ≤ sizeLine) && datsB K ds us.toList)
    | _ => false)
  | _, _ => false
def datsB (K : PySem.W.Frag) : List D → List Value → Bool
  | [], [] => true
  | d :: ds, u :: us => datB K d u && datsB K ds us
  | _, _ => false
end
/-- the module's name x holds this datum -/
def conB (K : PySem.W.Frag) (x : Str) (d : D) : Bool := datB K d (.ref (He.ga K x))
def consB (cs : List (Str × D)) (K : PySem.W.Frag) : Bool := cs.all fun p => conB K p.1 p.2
end Q

namespace Q
open PySem PySem.Spec PyProof.Rows L2
/-- the defs whose tables stand in the store: (name, qualified name) -/
abbrev TF := List (String × String)
def tfD (tf : TF) : List He.Defn := tf.map fun p => (Str.ofString p.1, none)
def exT (cs : List (Str × D)) (tf : TF) (K : PySem.W.Frag) : Bool := consB cs K && decide ((tf.map fun p => tabA K p.1).Nodup)
end Q

namespace Q
open PySem PySem.Spec PyProof.Rows L2
def lamTF : TF := [("lots_of", "lots_of")]
end Q

namespace Q
open PySem PySem.Spec PyProof.Rows L2
def top (i : Nat) : Stmt := PySem.Challenge.pw_domelights_k23_led_back_or_barred.main.body.getD i (.Pass ⟨0, 0, 0, 0⟩)
abbrev s_is_whole : Stmt := top 11
abbrev s_is_among : Stmt := top 12
abbrev s_is_row : Stmt := top 13
abbrev s_is_light_of : Stmt := top 14
abbrev s_is_sky : Stmt := top 15
abbrev s_need_sky : Stmt := top 16
abbrev s_stands_by : Stmt := top 17
abbrev s_is_back : Stmt := top 18
abbrev s_round_of : Stmt := top 19
abbrev s_half_of : Stmt := top 21
abbrev s_is_cell : Stmt := top 22
abbrev s_up_by : Stmt := top 23
abbrev s_is_part : Stmt := top 28
abbrev s_need_report : Stmt := top 29
abbrev s_places_of : Stmt := top 30
abbrev s_all_views : Stmt := top 31
abbrev s_so_at : Stmt := top 32
abbrev s_lots_so : Stmt := top 33
abbrev s_lots_of : Stmt := top 34
abbrev s_are_apart : Stmt := top 35
abbrev s_led_back : Stmt := top 36
abbrev s__law_cell_at : Stmt := top 38
abbrev s__law_pen : Stmt := top 39
abbrev s__law_draw : Stmt := top 40
abbrev s__law_pick : Stmt := top 41
abbrev s__law_sky : Stmt := top 42
abbrev s__law_gcd : Stmt := top 43
abbrev s__law_round : Stmt := top 44
abbrev s__law_cell : Stmt := top 45
abbrev s__law_places : Stmt := top 46
abbrev s__law_views : Stmt := top 47
abbrev s__law_view : Stmt := top 48
abbrev s__law_any_cell : Stmt := top 49
abbrev s__law_report : Stmt := top 50
abbrev s__law_lots : Stmt := top 51
abbrev s__law_least_bar : Stmt := top 52
abbrev s_law : Stmt := top 53
end Q

set_option maxHeartbeats 0
namespace Q
open PySem PySem.Spec PyProof.Rows L2
def d_is_whole : He.DefD := ⟨("is_whole", none), "is_whole", "is_whole", defArgs s_is_whole, defBody s_is_whole, defScope s_is_whole, [], []⟩
def d_is_among : He.DefD := ⟨("is_among", none), "is_among", "is_among", defArgs s_is_among, defBody s_is_among, defScope s_is_among, [], []⟩
def d_is_row : He.DefD := ⟨("is_row", none), "is_row", "is_row", defArgs s_is_row, defBody s_is_row, defScope s_is_row, [], []⟩
def d_is_light_of : He.DefD := ⟨("is_light_of", none), "is_light_of", "is_light_of", defArgs s_is_light_of, defBody s_is_light_of, defScope s_is_light_of, [], []⟩
def d_is_sky : He.DefD := ⟨("is_sky", none), "is_sky", "is_sky", defArgs s_is_sky, defBody s_is_sky, defScope s_is_sky, [], []⟩
def d_need_sky : He.DefD := ⟨("need_sky", none), "need_sky", "need_sky", defArgs s_need_sky, defBody s_need_sky, defScope s_need_sky, [], []⟩
def d_stands_by : He.DefD := ⟨("stands_by", none), "stands_by", "stands_by", defArgs s_stands_by, defBody s_stands_by, defScope s_stands_by, [], []⟩
def d_is_back : He.DefD := ⟨("is_back", none), "is_back", "is_back", defArgs s_is_back, defBody s_is_back, defScope s_is_back, [], []⟩
def d_round_of : He.DefD := ⟨("round_of", none), "round_of", "round_of", defArgs s_round_of, defBody s_round_of, defScope s_round_of, [], []⟩
def d_half_of : He.DefD := ⟨("half_of", none), "half_of", "half_of", defArgs s_half_of, defBody s_half_of, defScope s_half_of, [], []⟩
def d_is_cell : He.DefD := ⟨("is_cell", none), "is_cell", "is_cell", defArgs s_is_cell, defBody s_is_cell, defScope s_is_cell, [], []⟩
def d_up_by : He.DefD := ⟨("up_by", none), "up_by", "up_by", defArgs s_up_by, defBody s_up_by, defScope s_up_by, [], []⟩
def d_is_part : He.DefD := ⟨("is_part", none), "is_part", "is_part", defArgs s_is_part, defBody s_is_part, defScope s_is_part, [], []⟩
def d_need_report : He.DefD := ⟨("need_report", none), "need_report", "need_report", defArgs s_need_report, defBody s_need_report, defScope s_need_report, [], []⟩
def d_places_of : He.DefD := ⟨("places_of", none), "places_of", "places_of", defArgs s_places_of, defBody s_places_of, defScope s_places_of, [], []⟩
def d_all_views : He.DefD := ⟨("all_views", none), "all_views", "all_views", defArgs s_all_views, defBody s_all_views, defScope s_all_views, [], []⟩
def d_so_at : He.DefD := ⟨("so_at", none), "so_at", "so_at", defArgs s_so_at, defBody s_so_at, defScope s_so_at, [], []⟩
def d_lots_so : He.DefD := ⟨("lots_so", none), "lots_so", "lots_so", defArgs s_lots_so, defBody s_lots_so, defScope s_lots_so, [], []⟩
def d_lots_of : He.DefD := ⟨("lots_of", none), "lots_of", "lots_of", defArgs s_lots_of, defBody s_lots_of, defScope s_lots_of, [], []⟩
def d_are_apart : He.DefD := ⟨("are_apart", none), "are_apart", "are_apart", defArgs s_are_apart, defBody s_are_apart, defScope s_are_apart, [], []⟩
def d_led_back : He.DefD := ⟨("led_back", none), "led_back", "led_back", defArgs s_led_back, defBody s_led_back, defScope s_led_back, [], []⟩
def d__law_cell_at : He.DefD := ⟨("_law_cell_at", none), "_law_cell_at", "_law_cell_at", defArgs s__law_cell_at, defBody s__law_cell_at, defScope s__law_cell_at, [], []⟩
def d__law_pen : He.DefD := ⟨("_law_pen", none), "_law_pen", "_law_pen", defArgs s__law_pen, defBody s__law_pen, defScope s__law_pen, [], []⟩
def d__law_draw : He.DefD := ⟨("_law_draw", none), "_law_draw", "_law_draw", defArgs s__law_draw, defBody s__law_draw, defScope s__law_draw, [], []⟩
def d__law_pick : He.DefD := ⟨("_law_pick", none), "_law_pick", "_law_pick", defArgs s__law_pick, defBody s__law_pick, defScope s__law_pick, [], []⟩
def d__law_sky : He.DefD := ⟨("_law_sky", none), "_law_sky", "_law_sky", defArgs s__law_sky, defBody s__law_sky, defScope s__law_sky, [], []⟩
def d__law_gcd : He.DefD := ⟨("_law_gcd", none), "_law_gcd", "_law_gcd", defArgs s__law_gcd, defBody s__law_gcd, defScope s__law_gcd, [], []⟩
def d__law_round : He.DefD := ⟨("_law_round", none), "_law_round", "_law_round", defArgs s__law_round, defBody s__law_round, defScope s__law_round, [], []⟩
def d__law_cell : He.DefD := ⟨("_law_cell", none), "_law_cell", "_law_cell", defArgs s__law_cell, defBody s__law_cell, defScope s__law_cell, [], []⟩
def d__law_places : He.DefD := ⟨("_law_places", none), "_law_places", "_law_places", defArgs s__law_places, defBody s__law_places, defScope s__law_places, [], []⟩
def d__law_views : He.DefD := ⟨("_law_views", none), "_law_views", "_law_views", defArgs s__law_views, defBody s__law_views, defScope s__law_views, [], []⟩
def d__law_view : He.DefD := ⟨("_law_view", none), "_law_view", "_law_view", defArgs s__law_view, defBody s__law_view, defScope s__law_view, [], []⟩
def d__law_any_cell : He.DefD := ⟨("_law_any_cell", none), "_law_any_cell", "_law_any_cell", defArgs s__law_any_cell, defBody s__law_any_cell, defScope s__law_any_cell, [], []⟩
def d__law_report : He.DefD := ⟨("_law_report", none), "_law_report", "_law_report", defArgs s__law_report, defBody s__law_report, defScope s__law_report, [], []⟩
def d__law_lots : He.DefD := ⟨("_law_lots", none), "_law_lots", "_law_lots", defArgs s__law_lots, defBody s__law_lots, defScope s__law_lots, [], []⟩
def d__law_least_bar : He.DefD := ⟨("_law_least_bar", none), "_law_least_bar", "_law_least_bar", defArgs s__law_least_bar, defBody s__law_least_bar, defScope s__law_least_bar, [], []⟩
def d_law : He.DefD := ⟨("law", none), "law", "law", defArgs s_law, defBody s_law, defScope s_law, [], []⟩
def fn0 : List He.DefD := [d_is_whole, d_is_among, d_is_row, d_is_light_of, d_is_sky, d_need_sky, d_stands_by, d_is_back, d_round_of, d_half_of, d_is_cell, d_up_by, d_is_part, d_need_report, d_places_of, d_all_views, d_so_at, d_lots_so, d_lots_of, d_are_apart]
def fn1 : List He.DefD := [d_led_back, d__law_cell_at, d__law_pen, d__law_draw, d__law_pick, d__law_sky, d__law_gcd, d__law_round, d__law_cell, d__law_places, d__law_views, d__law_view, d__law_any_cell, d__law_report, d__law_lots, d__law_least_bar, d_law]
def fn : List He.DefD := fn0 ++ fn1
def fa0 : List He.Fa := [.glo "is_whole", .glo "is_among", .glo "is_row", .glo "is_light_of", .glo "is_sky", .glo "need_sky", .glo "stands_by", .glo "is_back", .glo "round_of", .glo "half_of", .glo "is_cell", .glo "up_by", .glo "is_part", .glo "need_report", .glo "places_of", .glo "all_views", .glo "so_at", .glo "lots_so", .glo "lots_of", .glo "are_apart"]
def fa1 : List He.Fa := [.glo "led_back", .glo "_law_cell_at", .glo "_law_pen", .glo "_law_draw", .glo "_law_pick", .glo "_law_sky", .glo "_law_gcd", .glo "_law_round", .glo "_law_cell", .glo "_law_places", .glo "_law_views", .glo "_law_view", .glo "_law_any_cell", .glo "_law_report", .glo "_law_lots", .glo "_law_least_bar", .glo "law", .free "abs", .free "all", .free "any"]
def fa2 : List He.Fa := [.free "bool", .free "enumerate", .free "int", .free "isinstance", .free "len", .free "list", .free "max", .free "min", .free "range", .free "repr", .free "sorted", .free "tuple", .int "LEAST_WIDE" 4, .int "MOST_HIGH" 5, .int "MOST_LIGHTS" 6, .int "MOST_PARTS" 6, .int "MOST_ROWS" 4, .int "MOST_SPEED" 9, .int "MOST_WIDE" 12, .str "NEVER" "never"]
def fa3 : List He.Fa := [.str "SEEN" "seen", .glo "NoReport", .exc "NoReport", .glo "NoSky", .exc "NoSky"]
def fa : List He.Fa := fa0 ++ fa1 ++ fa2 ++ fa3
def loose0 : List Str := ["_law_any_cell", "_law_cell", "_law_cell_at", "_law_draw", "_law_gcd", "_law_least_bar", "_law_lots", "_law_pen", "_law_pick", "_law_places", "_law_report", "_law_round", "_law_sky", "_law_view", "_law_views", "all_views", "are_apart", "half_of", "is_among", "is_back"]
def loose1 : List Str := ["is_cell", "is_light_of", "is_part", "is_row", "is_sky", "is_whole", "led_back", "lots_of", "lots_so", "need_report", "need_sky", "places_of", "round_of", "so_at", "stands_by", "up_by", "LEAST_WIDE", "MOST_WIDE", "MOST_HIGH", "MOST_LIGHTS"]
def loose2 : List Str := ["MOST_SPEED", "MOST_ROWS", "MOST_PARTS", "SEEN", "NEVER", "DomeError", "NoSky", "NoReport"]
def loose : List Str := loose0 ++ loose1 ++ loose2
abbrev RR : PySem.W.OpenRow := PySem.W.OpenLaw.row PySem.Challenge.rw_domelights_k23_led_back_or_barred
def cs : List (Str × D) := []
abbrev hk : PySem.W.Hook := He.hookX 4 fa fn [] (tfD lamTF) (exT cs lamTF)
def ob (s : PySem.W.SharedT) : He.AlX := He.obsX 4 fa fn [] (tfD lamTF) (exT cs lamTF) (HandSHeadRun.getT s)
theorem run (w : World) : HandSHeadRun.RunEq RR (PySem.W.view RR.prog [53]) hk ob 40000 loose w := by
  intro os
  kernel_rfl
end Q

open PySem PySem.W PySem.Calls PyProof.Rows
set_option maxHeartbeats 4000000
namespace Q
open PySem PySem.Spec PyProof.Rows L2

def R.bind {α β : Type} : R α → (α → Sto → R β) → R β
  | .ok a S, f => f a S
  | .exc c S, _ => .exc c S
  | .stuck, _ => .stuck
@[simp] theorem R.bind_ok {α β : Type} (a : α) (S : Sto) (f : α → Sto → R β) : (R.ok a S).bind f = f a S := rfl
@[simp] theorem R.bind_exc {α β : Type} (c : String) (S : Sto) (f : α → Sto → R β) : (R.exc c S : R α).bind f = .exc c S := rfl
@[simp] theorem R.bind_stuck {α β : Type} (f : α → Sto → R β) : (R.stuck : R α).bind f = .stuck := rfl
theorem Keep.refl (N : Addr → Prop) (H : Hp) : Keep N H N H := fun _ _ n e => ⟨e, n⟩
section
variable {K : PySem.W.Frag} {mg : Str → Option Value} {H H' : Hp} {N N' : Addr → Prop}
theorem sqL_none {a : Addr} {xs : List V} (h : SqL K (fun _ => none) a xs) (H : Hp) : SqL K H a xs := by
  rcases h with (h | ⟨_, h⟩) | h
  · cases h
  · cases h
  · exact .inr h
theorem sqT_none {a : Addr} {xs : List V} (h : SqT K (fun _ => none) a xs) (H : Hp) : SqT K H a xs := by
  rcases h with (h | ⟨_, h⟩) | h
  · cases h
  · cases h
  · exact .inr h
theorem RdL.sq {a : Addr} {xs : List V} (h : RdL K H N a xs) : SqL K H a xs := SqL.of h.2
theorem RdT.sq {a : Addr} {xs : List V} (h : RdT K H N a xs) : SqT K H a xs := h.elim (fun h => .inl h.2) fun h => sqT_none h H
theorem RdF.sq {a : Addr} {xs : List V} (h : RdF K H N a xs) : SqL K H a xs := h.elim (fun h => .inl h.2) fun h => sqL_none h H
theorem KvR.keys : ∀ {vs : List (Key × V)} {ds : List (Key × D)}, KvR K H N vs ds → vs.map (·.1) = ds.map (·.1)
  | _, _, .nil => rfl
  | _, _, .cons i _ t => congrArg (i :: ·) (KvR.keys t)
theorem DnAll.get : ∀ {vs : List V} {ds : List D} {i : Nat} {d : D}, DnAll K H N vs ds → ds[i]? = some d → ∃ v, vs[i]? = some v ∧ Dn K H N v d
  | _, _, _, _, .nil, e => by simp at e
  | _, _, 0, _, .cons h _, e => by simp at e; subst e; exact ⟨_, rfl, h⟩
  | _, _, i + 1, d, .cons _ t, e => by
    obtain ⟨v, h1, h2⟩ := DnAll.get (i := i) (d := d) t (by simpa using e)
    exact ⟨v, by simpa using h1, h2⟩
theorem DnAll.append : ∀ {xs ys : List V} {ds es : List D}, DnAll K H N xs ds → DnAll K H N ys es → DnAll K H N (xs ++ ys) (ds ++ es)
  | _, _, _, _, .nil, h => h
  | _, _, _, _, .cons r t, h => .cons r (DnAll.append t h)
theorem DnAll.take : ∀ {xs : List V} {ds : List D} (n : Nat), DnAll K H N xs ds → DnAll K H N (xs.take n) (ds.take n)
  | _, _, 0, _ => by simpa using DnAll.nil
  | _, _, _ + 1, .nil => by simpa using DnAll.nil
  | _, _, n + 1, .cons r t => by simpa using DnAll.cons r (DnAll.take n t)
theorem DnAll.drop : ∀ {xs : List V} {ds : List D} (n : Nat), DnAll K H N xs ds → DnAll K H N (xs.drop n) (ds.drop n)
  | _, _, 0, h => by simpa using h
  | _, _, _ + 1, .nil => by simpa using DnAll.nil
  | _, _, n + 1, .cons _ t => by simpa using DnAll.drop n t
theorem DnAll.reverse {xs : List V} {ds : List D} (h : DnAll K H N xs ds) : DnAll K H N xs.reverse ds.reverse := by
  induction xs generalizing ds with
  | nil => cases h; exact .nil
  | cons v vs ih =>
    cases h with
    | cons r t =>
      rw [List.reverse_cons, List.reverse_cons]
      exact (ih t).append (.cons r .nil)
mutual
theorem Dn.dp : ∀ {v : V} {d : D}, Dn K H N v d → (∀ kvs, d ≠ .dict kvs) → d.hasDict = false → Dp K H v d
  | _, _, .non, _, _ => .non
  | _, _, .bl b, _, _ => .bl b
  | _, _, .int i, _, _ => .int i
  | _, _, .str x, _, _ => .str x
  | _, _, .lst h t, _, e => .lst h.sq (DnAll.dp t (by simpa [PyData.hasDict] using e))
  | _, _, .tup h t, _, e => .tup h.sq (DnAll.dp t (by simpa [PyData.hasDict] using e))
  | _, _, .dic _ _ _, h, _ => absurd rfl (h _)
theorem DnAll.dp : ∀ {vs : List V} {ds : List D}, DnAll K H N vs ds → PyData.hasDictAll ds = false → DpAll K H vs ds
  | _, _, .nil, _ => .nil
  | _, d :: ds, .cons h t, e => by
    have e' : d.hasDict = false ∧ PyData.hasDictAll ds = false := by simpa [PyData.hasDictAll] using e
    exact .cons (Dn.dp h (fun kvs q => by subst q; simp [PyData.hasDict] at e') e'.1) (DnAll.dp t e'.2)
end
end

section
variable {K : PySem.W.Frag} {mg : Str → Option Value} {H H' : Hp} {N N' : Addr → Prop} {μ μ' : List Addr}
end

theorem Ext.refl (σ : L2.St) (env : EnvQ) (H : Hp) (μ : List Addr) : Ext σ env H μ H μ := ⟨Keep.refl _ _, List.prefix_refl _⟩
section
variable {K : PySem.W.Frag} {mg : Str → Option Value} {F : Addr → Prop} {σ : L2.St} {env : EnvQ} {H H' : Hp} {S : Sto} {μ μ' : List Addr}
theorem RO.tracked {N : Addr → Prop} {a : Addr} {o : O} (h : RO K mg H N μ a o) : ∃ u, H a = some u := by
  cases h with
  | lst h _ => exact ⟨_, h⟩
  | ins _ h _ _ _ => exact ⟨_, h⟩
  | dct h _ => exact ⟨_, h⟩
  | dcm h _ => exact ⟨_, h⟩
  | tab _ t => exact ⟨_, t.choose_spec.1⟩
theorem SimS.tracked {N : Addr → Prop} (h : SimS K mg H N S μ) {a : Addr} (m : a ∈ μ) : ∃ u, H a = some u := by
  obtain ⟨n, hn⟩ := List.getElem?_of_mem m
  have hl : n < S.length := by
    rw [← h.len]
    rcases Nat.lt_or_ge n μ.length with q | q
    · exact q
    · rw [List.getElem?_eq_none q] at hn; cases hn
  obtain ⟨b, hb, ro⟩ := h.obj n S[n] (by simp [hl])
  rw [hn] at hb
  cases hb
  exact ro.tracked
theorem RW.ownTracked {N : Addr → Prop} {a : Addr} {w : W} (h : RW K mg H N μ (.ref a) w) (o : w.isOwn = true) : ∃ u, H a = some u := by
  cases h with
  | own e _ => exact ⟨_, e⟩
  | ownd e _ => exact ⟨_, e⟩
  | d _ => simp [W.isOwn] at o
  | dn _ _ _ => simp [W.isOwn] at o
  | ref _ => simp [W.isOwn] at o
  | tw _ _ _ => simp [W.isOwn] at o
  | fn _ => simp [W.isOwn] at o
  | scr _ => simp [W.isOwn] at o
  | clo _ _ _ => simp [W.isOwn] at o
  | err => simp [W.isOwn] at o
theorem Sim.tracked (h : Sim K mg F σ H env S μ) {a : Addr} (n : NN F μ σ env a) : ∃ u, H a = some u := by
  rcases n with (m | ⟨i, e, w, hw, o⟩) | f
  · exact h.st.tracked m
  · obtain ⟨v, hv, r⟩ := h.slot i w hw
    rw [e] at hv
    cases hv
    exact r.ownTracked o
  · exact h.ftr a f
theorem Sim.fresh (h : Sim K mg F σ H env S μ) {p : Addr} (n : H p = none) : ¬ NN F μ σ env p := fun q => by
  obtain ⟨u, e⟩ := h.tracked q
  rw [n] at e
  cases e
theorem Keep.upd_new {N : Addr → Prop} {p : Addr} {o : HO} (n : H p = none) : Keep N H N (upd H p o) := fun a u na e => by
  refine ⟨?_, na⟩
  rw [upd_ne (ne_of_none e n)]
  exact e
theorem ext_new {p : Addr} {o : HO} (n : H p = none) : Ext σ env H μ (upd H p o) μ := ⟨Keep.upd_new n, List.prefix_refl _⟩
theorem Same.upd_new {p : Addr} {o : HO} (n : H p = none) : Same H (upd H p o) := fun a u e => by
  rw [upd_ne (ne_of_none e n)]
  exact e
mutual
theorem RW.same {N : Addr → Prop} (s : Same H H') : ∀ {v : V} {w : W}, RW K mg H N μ v w → RW K mg H' N μ v w
  | _, _, .d h => .d (h.keep fun a o n e => ⟨s a o e, n⟩)
  | _, _, .ref h => .ref h
  | _, _, .own h t => .own (s _ _ h) (t.keep fun a o n e => ⟨s a o e, n⟩)
  | _, _, .ownd h t => .ownd (s _ _ h) (t.keep fun a o n e => ⟨s a o e, n⟩)
  | _, _, .dn n h t => .dn n (s _ _ h) (t.keep fun a o n e => ⟨s a o e, n⟩)
  | _, _, .tw n h t => .tw n (s _ _ h) (RWs.same s t)
  | _, _, .fn h => .fn h
  | _, _, .scr h => .scr (h.keep fun a o n e => ⟨s a o e, n⟩)
  | _, _, .clo n h t => .clo n (s _ _ h) (RWs.same s t)
  | _, _, .err => .err
theorem RWs.same {N : Addr → Prop} (s : Same H H') : ∀ {vs : List V} {ws : List W}, RWs K mg H N μ vs ws → RWs K mg H' N μ vs ws
  | _, _, .nil => .nil
  | _, _, .cons h t => .cons (RW.same s h) (RWs.same s t)
end
theorem RO.same {N : Addr → Prop} (s : Same H H') {a : Addr} {o : O} (h : RO K mg H N μ a o) : RO K mg H' N μ a o := by
  cases h with
  | lst h t => exact .lst (s _ _ h) (t.keep fun a o n e => ⟨s a o e, n⟩)
  | ins g h m t p => exact .ins g (s _ _ h) m (RWs.same s t) p
  | dct h t => exact .dct (s _ _ h) fun x hx => (t x hx).keep fun a o n e => ⟨s a o e, n⟩
  | dcm h t => exact .dcm (s _ _ h) (t.keep fun a o n e => ⟨s a o e, n⟩)
  | tab e t => exact .tab e (t.keep (fun h => s _ _ h) fun a o n e => ⟨s a o e, n⟩)
/-- what was tracked is still there: the state stands -/
theorem Sim.same (h : Sim K mg F σ H env S μ) (s : Same H H') : Sim K mg F σ H' env S μ where
  len := h.len
  slot := fun i w e => let ⟨v, hv, r⟩ := h.slot i w e; ⟨v, hv, RW.same s r⟩
  fin := h.fin
  inj := h.inj
  apart := h.apart
  st := ⟨h.st.len, h.st.nd, fun n o e => let ⟨a, ha, r⟩ := h.st.obj n o e; ⟨a, ha, r.same s⟩⟩
  ftr := fun a f => let ⟨u, e⟩ := h.ftr a f; ⟨u, s a u e⟩
  fdis := h.fdis
theorem Sim.new (h : Sim K mg F σ H env S μ) {p : Addr} {o : HO} (n : H p = none) : Sim K mg F σ (upd H p o) env S μ := h.same (Same.upd_new n)
theorem Ext.same (s : Same H H') : Ext σ env H μ H' μ := ⟨fun a o n e => ⟨s a o e, n⟩, List.prefix_refl _⟩
end

section
variable (K : PySem.W.Frag) (mg : Str → Option Value) (EX : WX)
end
section
variable {K : PySem.W.Frag} {mg : Str → Option Value} {EX : WX} {F : Addr → Prop} {σ : L2.St} {env : EnvQ} {H H' : Hp} {S : Sto} {μ μ' : List Addr} {α β : Type}
theorem Post.bind {r : R α} {g : α → Sto → R β} {P : β → Sto → Hp → List Addr → Prop} (h : Post K mg EX F σ env H μ (r.bind g) P) :
    Post K mg EX F σ env H μ r (fun a S' H' μ' => Post K mg EX F σ env H' μ' (g a S') P) := by
  cases r with
  | ok a S' => exact fun H2 μ2 s2 x2 => Post.ext h x2
  | exc c S' => exact h
  | stuck => exact h
theorem Post.mono {r : R α} {P P' : α → Sto → Hp → List Addr → Prop} (h : Post K mg EX F σ env H μ r P) (f : ∀ a S' H' μ', Sim K mg F σ H' env S' μ' → Ext σ env H μ H' μ' → P a S' H' μ' → P' a S' H' μ') :
    Post K mg EX F σ env H μ r P' := by
  cases r with
  | ok a S' => exact fun H2 μ2 s2 x2 => f _ _ _ _ s2 x2 (h H2 μ2 s2 x2)
  | exc c S' => exact h
  | stuck => exact h
end

section
variable (K : PySem.W.Frag) (mg : Str → Option Value) (cf : CF) (EX : WX)
def tE (f : SE) : TE := fun σ H Q => ∃ env S μ F, Sim K mg F σ H env S μ ∧ Post K mg EX F σ env H μ (f cf env S) fun w _ H' μ' => ∀ v, RW K mg H' (NN F μ' σ env) μ' v w → Q v H'
def tT (f : ST) : TT := fun σ H Q => ∃ env S μ F, Sim K mg F σ H env S μ ∧ Post K mg EX F σ env H μ (f cf env S) fun b _ H' _ => Q b H'
def tA (f : SA) : TA := fun σ H Q => ∃ env S μ F, Sim K mg F σ H env S μ ∧ Post K mg EX F σ env H μ (f cf env S) fun ws _ H' μ' => ∀ vs, RWs K mg H' (NN F μ' σ env) μ' vs ws → Q vs H'
end
def ME (X : Cx) (cf : CF) (EX : WX) (e : Expr) (f : SE) : Prop := PE X e (tE X.K X.mg cf EX f)
def MT (X : Cx) (cf : CF) (EX : WX) (e : Expr) (f : ST) : Prop := PT X e (tT X.K X.mg cf EX f)
def MW (X : Cx) (cf : CF) (EX : WX) (e : Expr) (f : ST) : Prop := PW X e (tT X.K X.mg cf EX f)
def MA (X : Cx) (cf : CF) (EX : WX) (es : List Expr) (f : SA) : Prop := PA X es (tA X.K X.mg cf EX f)
theorem PE.weak {X : Cx} {e : Expr} {t t' : TE} (h : PE X e t) (w : ∀ σ H Q, t' σ H Q → t σ H Q) : PE X e t' := ⟨fun pins s σ H Q I q => h.run pins s σ H Q I (w σ H Q q)⟩
theorem PT.weak {X : Cx} {e : Expr} {t t' : TT} (h : PT X e t) (w : ∀ σ H Q, t' σ H Q → t σ H Q) : PT X e t' := ⟨fun pins s σ H Q I q => h.run pins s σ H Q I (w σ H Q q)⟩
theorem PW.weak {X : Cx} {e : Expr} {t t' : TT} (h : PW X e t) (w : ∀ σ H Q, t' σ H Q → t σ H Q) : PW X e t' := ⟨fun wh pins s σ H Q I q => h.run wh pins s σ H Q I (w σ H Q q)⟩
theorem PA.weak {X : Cx} {es : List Expr} {t t' : TA} (h : PA X es t) (w : ∀ σ H Q, t' σ H Q → t σ H Q) : PA X es t' := ⟨fun pos pins s σ H Q I q => h.run pos pins s σ H Q I (w σ H Q q)⟩
theorem PS.weak {X : Cx} {st : Stmt} {t t' : TS} (h : PS X st t) (w : ∀ D σ H, t' D σ H → t D σ H) : PS X st t' := ⟨fun pins s σ H D I q => h.run pins s σ H D I (w D σ H q)⟩
theorem PSs.weak {X : Cx} {st : List Stmt} {t t' : TS} (h : PSs X st t) (w : ∀ D σ H, t' D σ H → t D σ H) : PSs X st t' := ⟨fun pins s σ H D I q => h.run pins s σ H D I (w D σ H q)⟩
end Q

namespace Q
open PySem PySem.Spec PyProof.Rows L2

/-- as FnOk, of calls without a guard around -/
structure FnG (P : Program) (w : World) (K : PySem.W.Frag) (mg : Str → Option Value) (base : Heap) (CX : CXT) (k : Nat) (f : Addr) (fd : FuncData) (ps : List Str) (sp : Sp) : Prop where
  len : ∀ vs H Q E, sp vs H Q E → vs.length = ps.length
  run : ∀ (A : Around) (outer : List Env) (s : Shared) (H : Hp) (args : Args) (us : List Value) (vs : List V) (Q : VK) (E : XK), A.guards = some [] → Room k A → Env0 P w K mg base A outer s H → BindsTo s fd args (ps.zip us) → Vals vs us → sp vs H Q E →
    codeAny (model P w) A (.call (.ref f) args) (CR CX outer P w H s Q E) s
section
variable {X : Cx} {k : Nat} {f : Addr} {fd : FuncData} {ps : List Str} {sp : Sp} {EX : WX} {x : Str} {p pos : Pos} {e : Expr} {es : List Expr} {t : TA}
theorem run_G {pins : List (Addr × Obj)} {σ : L2.St} {H : Hp} {s : Shared} {Q : VK} {us : List Value} {vs : List V} (F : FnG X.prog X.w X.K X.mg X.base (L2.CX X.prog X.w) k f fd ps sp) (hg : X.A.guards = some []) (hr : Room k X.A) (hb : Binds X.K fd ps []) (tk : Takes X EX)
    (I : Inv X pins σ H s) (r : Vals vs us) (h : sp vs H Q (WE EX σ)) : wpAny (model X.prog X.w) X.A (call (.ref f) us) (EP X pins σ Q) X.xe s := by
  have hl : us.length = ps.length := by
    rw [← r.length]
    exact F.len _ _ _ _ h
  have bt := hb s us I.kIn (by simpa using hl)
  rw [List.append_nil] at bt
  apply wpAny_call
  apply codeAny_mono (F.run X.A X.stack s H ⟨us, []⟩ us vs Q (WE EX σ) hg hr I.env0 bt r h)
  rintro (e | fl) s' hq
  · exact passAt tk σ pins H s e s' I hq
  · cases fl with
    | ret u => exact I.after hq
    | _ => exact hq.elim
theorem pe_callG (F : FnG X.prog X.w X.K X.mg X.base (L2.CX X.prog X.w) k f fd ps sp) (hA : X.A.guards = some []) (hr : Room k X.A) (hg : Gl X x) (hm : X.mg x = some (.ref f)) (hk : PySem.W.keepIn X.K (.ref f) = true) (hb : Binds X.K fd ps []) (tk : Takes X EX)
    (ha : PA X (e :: es) t) (hdb : (x == ("__debug__" : Str)) = false) (he : starEach (e :: es) X.env = (false, eval e X.env) :: starEach es X.env) (hpl : (backTo pos (starEach es X.env)).any (·.1) = false) :
    PE X (.Call (.Name x p) (e :: es) [] pos) (tCallS sp (WE EX) t) := by
  constructor
  intro pins s σ H Q I h
  apply wpAny_Call_Name_kw
  apply ld_glob I hg hm _ hdb
  exact PySem.W.callWith_K (h₀ := X.base) I.ok.mod.kin hk (thn (ha.run pos pins s σ H _ I h) fun us s1 ⟨vs, H1, I1, r, q⟩ => ⟨I1.kIn, run_G F hA hr hb tk I1 r q⟩) he hpl
end
/-- a def's body keeps its promise -/
theorem ok_G {CX : CXT} {P : Program} {w : World} {K : PySem.W.Frag} {mg : Str → Option Value} {base : Heap} {k : Nat} {f : Addr} {fd : FuncData} {x qual : Str} {params : Arguments} {body : List Stmt} {scope : Scope} {dvs : List V} {kws : List (Str × V)} {N ps : List Str} {sp : Sp} (F : FunD K x qual params body scope dvs kws f fd) (S : FnScope N ps scope)
    (len : ∀ vs H Q E, sp vs H Q E → vs.length = ps.length)
    (hbody : ∀ (cdv : Value) (A : Around) (outer : List Env) (s : Shared) (H : Hp) (vs : List V) (Q : VK) (E : XK), A.guards = some [] → Room k (A.deeper (envOfC qual scope s.heap.objs.size f cdv)) → sp vs H Q E →
      ∃ t, PSs (cxOf CX P w K mg base N qual scope f cdv A outer s H E) body t ∧ t { nx := fun _ H' => Q .non H', rt := Q } (start N vs) H) : FnG P w K mg base CX (k + 1) f fd ps sp := by
  obtain ⟨oc, od, dV, kV, doc, pm, an, cdv, ct, osl, rfl, lk, hcd, _, _⟩ := F.ex
  refine ⟨len, ?_⟩
  intro A outer s H args us vs Q E hg hr e0 hb r hsp
  have up : ∀ b o, base.get? b = some o → s.heap.get? b = some o := fun b o e => (e0.bs b o e).1
  have KX : K.In s.heap := e0.mod.kin.keeps up
  apply codeAny_call_function hr.depth (KX _ _ lk) rfl S.co S.gen rfl (PySem.W.codeRec_of KX hcd)
  apply hb
  have kinds : ∀ y ∈ ps.zip us, scope.names.lookup y.1 = some .local ∨ (scope.names.lookup y.1 = some .cell ∧ ((cellsFrom (s.heap.objs.size + 1) scope.names []).lookup y.1).isSome = true) := by
    rintro ⟨n, v⟩ hy
    rcases S.par n (List.of_mem_zip hy).1 with q | q
    · exact .inl q
    · exact .inr ⟨q, PySem.W.cellsFrom_some _ _ _ (.inl q)⟩
  apply wpAny_newFunctionEnv_cells S.kind kinds
  rintro env rfl s1 xx
  refine ⟨(e0.mod.nolimit.keeps up).keeps xx.toInCall.keep, codeAny_func ?_⟩
  obtain ⟨t, ht, hq⟩ := hbody cdv A outer s H vs Q E hg (hr.deeper _) hsp
  have I : Inv (cxOf CX P w K mg base N qual scope f cdv A outer s H E) [] (start N vs) H s1 := inv_start S hr.hd e0 (len _ _ _ _ hsp) r xx
  apply wpAny_mono (ht.run [] s1 (start N vs) H _ I hq)
  · intro fl s' hs
    cases fl with
    | ret u =>
      obtain ⟨v, σ', H', J, rv, q⟩ := hs
      exact ⟨v, H', J.os, J.bare, J.base, J.hok, rv, q⟩
    | next =>
      obtain ⟨σ', H', J, q⟩ := hs
      exact ⟨V.non, H', J.os, J.bare, J.base, J.hok, rfl, q⟩
    | brk =>
      obtain ⟨_, _, _, q⟩ := hs
      exact q.elim
    | cont =>
      obtain ⟨_, _, _, q⟩ := hs
      exact q.elim
  · exact fun _ _ h => h
section
variable {P : Program} {w : World} {K : PySem.W.Frag} {mg mb : Str → Option Value} {k : Nat} {fa a : Addr} {fd : FuncData} {x : Str} {sp : Sp} {s₁ : Shared} {vs : List Value} {ns : List Int}
/-- what a law's end asks of the state behind the call -/
abbrev EndG (s₁ : Shared) : Result → Shared → Prop := fun r s' => r = .ok (.ret (.bool true)) ∧ OldK s₁.heap s'.heap ∧ s'.os = s₁.os ∧ AllBare s'.gens
/-- from a tracked heap that holds nothing but the script -/
theorem end_core (KX : K.In s₁.heap) (hns : s₁.heap.Ns mainGlobals mg) (hb : s₁.heap.Ns builtinsNs mb) (hbb : ∀ x : Str, x ≠ "__name__" → mb x = bootBuiltins x) (hlim : s₁.heap.NoLimit) (hg : s₁.gens = #[])
    (ha : s₁.heap.get? a = some { cls := .type "list", data := .seq vs.toArray }) (hr : Room k callerA)
    (F : ∀ base : Heap, K.In base → base.Ns mainGlobals mg → FnG P w K mg base (L2.CX P w) k fa fd [x] sp) (hbind : ∀ (s : Shared) (u : Value), BindsTo s fd ⟨[u], []⟩ [(x, u)])
    (hsp : ∀ H : Hp, Only H → SqL K H a (ns.map V.int) → sp [.ref a] H (fun v _ => v = .bl true) fun _ _ _ => False)
    (H : Hp) (hO : Only H) (hS : SqL K H a (ns.map V.int)) (hok : HOk P w H s₁.heap) (hA : ∀ b, H b ≠ none → b = a) (hK : H a ≠ none → K.lookup a = none) :
    codeAny (model P w) callerA (.call (.ref fa) ⟨[.ref a], []⟩) (EndG s₁) s₁ := by
  have off : ∀ {b : Addr} {o : Obj} {es : Array DictEntry} {ep : Nat}, s₁.heap.get? b = some o → o.data = .dict es ep → H b = none := by
    intro b o es ep e d
    by_cases q : H b = none
    · exact q
    · have z := hA b q
      subst z
      rw [ha] at e
      cases e
      cases d
  have ns : ∀ {b : Addr} {m : Str → Option Value}, s₁.heap.Ns b m → (hidT s₁.heap H).Ns b m := by
    rintro b m ⟨o, es, ep, e, d, r⟩
    exact ⟨o, es, ep, hidT_get e (off e d), d, r⟩
  have hKb : K.In (hidT s₁.heap H) := by
    intro b o e
    apply hidT_get (KX b o e)
    by_cases q : H b = none
    · exact q
    · have z := hA b q
      subst z
      rw [hK q] at e
      cases e
  have lim : (hidT s₁.heap H).NoLimit := by
    obtain ⟨mc, h1, h2⟩ := hlim
    exact ⟨mc, ns h1, h2⟩
  have e0 : Env0 P w K mg (hidT s₁.heap H) callerA [] s₁ H :=
    { frames := rfl, mod := ⟨hKb, ns hns, ⟨mb, ns hb, hbb⟩, lim⟩, bs := fun b o e => of_hidT e, bsz := Nat.le_of_eq (hidT_size _ _), funs := trivial, frf := fun b hb => absurd hb (by simp [frs]), hok := hok, bare := .of_eq hg }
  apply codeAny_mono ((F _ hKb (ns hns)).run callerA [] s₁ H ⟨[.ref a], []⟩ [.ref a] [.ref a] _ _ rfl hr e0 (hbind s₁ (.ref a)) (.cons rfl .nil) (hsp H hO hS))
  rintro (e | fl) s' h
  · obtain ⟨_, _, _, _, _, _, _, _, _, _, _, _, z⟩ := h
    exact z.elim
  · cases fl with
    | ret u =>
      obtain ⟨v, H', os, bare, un, hok', r', rfl⟩ := h
      cases r'
      refine ⟨rfl, OldK.of_keep ?_, os, bare⟩
      intro b o e
      by_cases q : H b = none
      · exact un.keep b o e q (by simp [frs]) (by simp)
      · rcases hO b with z | ⟨ob, xs, z⟩
        · exact absurd z q
        · obtain ⟨e1, _⟩ := hok b _ z
          obtain ⟨e2, _⟩ := hok' b _ (un.frzs b ob _ z)
          rw [e] at e1
          cases e1
          exact e2
    | _ => exact h.elim
theorem law_G (KX : K.In s₁.heap) (hns : s₁.heap.Ns mainGlobals mg) (hb : s₁.heap.Ns builtinsNs mb) (hbb : ∀ x : Str, x ≠ "__name__" → mb x = bootBuiltins x) (hlim : s₁.heap.NoLimit) (hg : s₁.gens = #[])
    (ha : s₁.heap.get? a = some { cls := .type "list", data := .seq vs.toArray }) (hi : IntsAre vs ns) (hl : ns.length ≤ sizeLine) (hr : Room k callerA)
    (F : ∀ base : Heap, K.In base → base.Ns mainGlobals mg → FnG P w K mg base (L2.CX P w) k fa fd [x] sp) (hbind : ∀ (s : Shared) (u : Value), BindsTo s fd ⟨[u], []⟩ [(x, u)])
    (hsp : ∀ H : Hp, Only H → SqL K H a (ns.map V.int) → sp [.ref a] H (fun v _ => v = .bl true) fun _ _ _ => False) :
    codeAny (model P w) callerA (.call (.ref fa) ⟨[.ref a], []⟩) (EndG s₁) s₁ := by
  have rv := vals_ints hi
  have core := end_core KX hns hb hbb hlim hg ha hr F hbind hsp
  cases hk : K.lookup a with
  | some o =>
    have e := KX a o hk
    rw [ha] at e
    cases e
    apply core (fun _ => none)
    · exact fun _ => .inl rfl
    · exact .inr ⟨_, vs.toArray, _, hk, rfl, rfl, rfl, by rw [List.size_toArray, hi.length]; exact hl, by simpa using rv⟩
    · intro b u z
      cases z
    · exact fun b z => absurd rfl z
    · exact fun z => absurd rfl z
  | none =>
    have at_a : upd (fun _ => none) a (.frz { cls := .type "list", data := .seq vs.toArray } (.lst (ns.map V.int))) a = some (.frz { cls := .type "list", data := .seq vs.toArray } (.lst (ns.map V.int))) := upd_same
    apply core (upd (fun _ => none) a (.frz { cls := .type "list", data := .seq vs.toArray } (.lst (ns.map V.int))))
    · intro b
      by_cases hb : b = a
      · subst hb
        exact .inr ⟨_, _, at_a⟩
      · exact .inl (upd_ne hb)
    · exact .inl (.inr ⟨_, at_a⟩)
    · intro b u z
      by_cases hb : b = a
      · subst hb
        rw [at_a] at z
        cases z
        exact ⟨ha, by rw [List.length_map]; exact hl, vs, _, rv, ha⟩
      · rw [upd_ne hb] at z
        cases z
    · intro b z
      by_cases hb : b = a
      · exact hb
      · exact absurd (upd_ne hb) z
    · exact fun _ => hk
end
end Q

namespace Q
open PySem PySem.Spec PyProof.Rows L2

def fW (w : W) : SE := fun _ _ S => .ok w S
def fInt (i : Int) : SE := fW (.d (.int i))
def fBl (b : Bool) : SE := fW (.d (.bool b))
def fNon : SE := fW (.d .none)
def fStr (s : Str) : SE := fW (.d (.str s))
def fVar (i : Nat) : SE := fun _ env S => match env[i]? with
  | some (some w) => if w.plain then .ok w S else .stuck
  | _ => .stuck
abbrev G2 := W → W → Sto → R W
def fBin (g : G2) (a b : SE) : SE := fun cf env S => (a cf env S).bind fun x S1 => (b cf env S1).bind fun y S2 => g x y S2
abbrev LIM : Nat := 16777216
def gAdd : G2
  | .d (.int i), .d (.int j), S => .ok (.d (.int (i + j))) S
  | .d (.str a), .d (.str b), S => if a.length + b.length ≤ LIM then .ok (.d (.str (a ++ b))) S else .stuck
  | .d (.tuple a), .d (.tuple b), S => if a.length + b.length ≤ LIM then .ok (.d (.tuple (a ++ b))) S else .stuck
  | .d (.list a), .d (.list b), S => if a.length + b.length ≤ LIM then .ok (.d (.list (a ++ b))) S else .stuck
  | _, _, _ => .stuck
def gSub : G2
  | .d (.int i), .d (.int j), S => .ok (.d (.int (i - j))) S
  | _, _, _ => .stuck
/-- a number small enough for products -/
def sm (i : Int) : Bool := Nat.ble i.natAbs 18446744073709551615
theorem sm_iff {i : Int} (h : sm i = true) : -(2 ^ 64) < i ∧ i < 2 ^ 64 := by
  have := Nat.le_of_ble_eq_true h
  omega
def gMod : G2
  | .d (.int i), .d (.int j), S => if 0 < j then .ok (.d (.int (i % j))) S else .stuck
  | _, _, _ => .stuck
def gDiv : G2
  | .d (.int i), .d (.int j), S => if 0 < j ∧ Nat.ble j.natAbs 18446744073709551615 = true then .ok (.d (.int (i / j))) S else .stuck
  | _, _, _ => .stuck
def gPow : G2
  | .d (.int i), .d (.int j), S => if 0 ≤ j ∧ j ≤ 1000000 ∧ i.natAbs < 2 ^ 64 then .ok (.d (.int (i ^ j.toNat))) S else .stuck
  | _, _, _ => .stuck
def gCmp (p : Int → Int → Bool) : G2
  | .d (.int i), .d (.int j), S => .ok (.d (.bool (p i j))) S
  | _, _, _ => .stuck
def gLt : G2 := gCmp fun i j => decide (i < j)
def gLe : G2 := gCmp fun i j => decide (i ≤ j)
def gGt : G2 := gCmp fun i j => decide (j < i)
def gGe : G2 := gCmp fun i j => decide (j ≤ i)
/-- data that == may look at -/
def okEq (d : D) : Bool := d.canLay0 && decide (d.depth ≤ 64)
def gEq : G2
  | .d (.str a), .d (.str b), S => .ok (.d (.bool (decide (a = b)))) S
  | .d x, .d y, S => if okEq x && okEq y then .ok (.d (.bool (PyData.eqv x y))) S else .stuck
  | _, _, _ => .stuck
def gNe : G2
  | .d (.str a), .d (.str b), S => .ok (.d (.bool (!decide (a = b)))) S
  | .d x, .d y, S => if okEq x && okEq y then .ok (.d (.bool (!PyData.eqv x y))) S else .stuck
  | _, _, _ => .stuck
def W.isNone : W → Bool
  | .d .none => true
  | _ => false
def fIsNone (a : SE) : SE := fun cf env S => (a cf env S).bind fun x S1 => .ok (.d (.bool x.isNone)) S1
def fNotNone (a : SE) : SE := fun cf env S => (a cf env S).bind fun x S1 => .ok (.d (.bool (!x.isNone))) S1
def fNeg (a : SE) : SE := fun cf env S => (a cf env S).bind fun x S1 => match x with
  | .d (.int i) => .ok (.d (.int (-i))) S1
  | _ => .stuck
/-- tests -/
def cVal (a : SE) : ST := fun cf env S => (a cf env S).bind fun x S1 => match x with
  | .d (.bool b) => .ok b S1
  | _ => .stuck
def cNot (a : ST) : ST := fun cf env S => (a cf env S).bind fun b S1 => .ok (!b) S1
def cAnd (a b : ST) : ST := fun cf env S => (a cf env S).bind fun x S1 => if x = true then b cf env S1 else .ok false S1
def cOr (a b : ST) : ST := fun cf env S => (a cf env S).bind fun x S1 => if x = true then .ok true S1 else b cf env S1
def fAnd (a b : SE) : SE := fun cf env S => (a cf env S).bind fun x S1 => match x with
  | .d (.bool c) => if c = true then b cf env S1 else .ok (.d (.bool false)) S1
  | _ => .stuck
def fOr (a b : SE) : SE := fun cf env S => (a cf env S).bind fun x S1 => match x with
  | .d (.bool c) => if c = true then .ok (.d (.bool true)) S1 else b cf env S1
  | _ => .stuck
def fNot (a : SE) : SE := fun cf env S => (a cf env S).bind fun x S1 => match x with
  | .d (.bool c) => .ok (.d (.bool (!c))) S1
  | _ => .stuck
def fIf (c : ST) (a b : SE) : SE := fun cf env S => (c cf env S).bind fun x S1 => if x = true then a cf env S1 else b cf env S1
def aNil : SA := fun _ _ S => .ok [] S
def aCons (a : SE) (r : SA) : SA := fun cf env S => (a cf env S).bind fun x S1 => (r cf env S1).bind fun xs S2 => if x.plain then .ok (x :: xs) S2 else .stuck
def datas : List W → Option (List D)
  | [] => some []
  | .d x :: ws => (datas ws).map (x :: ·)
  | _ :: _ => none
def fTup (a : SA) : SE := fun cf env S => (a cf env S).bind fun ws S1 => if ws.length ≤ LIM then (match datas ws with
  | some ds => .ok (.d (.tuple ds)) S1
  | none => .ok (.tw ws) S1) else .stuck
def fLst (a : SA) : SE := fun cf env S => (a cf env S).bind fun ws S1 => if ws.length ≤ LIM then (match datas ws with
  | some ds => .ok (.d (.list ds)) S1
  | none => .stuck) else .stuck
def tyName : D → String
  | .none => "NoneType" | .bool _ => "bool" | .int _ => "int" | .str _ => "str" | .list _ => "list" | .tuple _ => "tuple" | .dict _ => "dict"
def isTy (T : String) (d : D) : Bool := tyName d == T || (tyName d == "bool" && T == "int")
def fIsI (T : String) (a : SE) : SE := fun cf env S => (a cf env S).bind fun x S1 => match x with
  | .d d => .ok (.d (.bool (isTy T d))) S1
  | _ => .stuck

section
variable {X : Cx} {cf : CF} {EX : WX} {e a b c : Expr} {es : List Expr} {fa fb fc : SE} {ga gb gc : ST} {ha hb : SA} {pos p : Pos}
theorem me_w {v : V} {w : W} (h : PE X e (tC v)) (r : ∀ H N μ, RW X.K X.mg H N μ v w) : ME X cf EX e (fW w) :=
  PE.weak h fun σ H Q ⟨env, S, μ, F, s, q⟩ => q H μ s (Ext.refl _ _ _ _) v (r _ _ _)
theorem me_int {i : Int} {j} : ME X cf EX (.Constant (.int i) j pos) (fInt i) := me_w pe_int fun _ _ _ => .d (.int i)
theorem me_bl {k : Bool} {j} : ME X cf EX (.Constant (.bool k) j pos) (fBl k) := me_w pe_bl fun _ _ _ => .d (.bl k)
theorem me_non {j} : ME X cf EX (.Constant .none j pos) fNon := me_w pe_non fun _ _ _ => .d .non
theorem me_str {x : Str} {j} : ME X cf EX (.Constant (.str x) j pos) (fStr x) := me_w pe_str fun _ _ _ => .d (.str x)
theorem me_var {i : Nat} {x : Str} (h : PE X (.Name x pos) (tVar i)) : ME X cf EX (.Name x pos) (fVar i) :=
  PE.weak h fun σ H Q ⟨env, S, μ, F, s, q⟩ => by
    unfold fVar at q
    cases e : env[i]? with
    | none => rw [e] at q; exact q.elim
    | some ow =>
      cases ow with
      | none => rw [e] at q; exact q.elim
      | some w =>
        rw [e] at q
        simp only at q
        cases pw : w.plain with
        | false => rw [pw] at q; exact q.elim
        | true =>
          rw [pw] at q
          obtain ⟨v, hv, r⟩ := s.slot i w e
          exact ⟨v, hv, q H μ s (Ext.refl _ _ _ _) v r⟩
/-- a module's whole number -/
theorem me_globI {x : Str} {i : Int} (hg : Gl X x) (hm : ∃ t, X.mg x = some (.int i t)) (hd : (x == ("__debug__" : Str)) = false := by decide) : ME X cf EX (.Name x pos) (fInt i) :=
  let ⟨t, e⟩ := hm; me_w (pe_glob (v := .int i) hg e ⟨_, rfl⟩ hd) fun _ _ _ => .d (.int i)
theorem me_globS {x y : Str} (hg : Gl X x) (hm : ∃ t, X.mg x = some (.str y t)) (hd : (x == ("__debug__" : Str)) = false := by decide) : ME X cf EX (.Name x pos) (fStr y) :=
  let ⟨t, e⟩ := hm; me_w (pe_glob (v := .str y) hg e ⟨_, rfl⟩ hd) fun _ _ _ => .d (.str y)
/-- a rule by values says no more than g -/
def Op (X : Cx) (EX : WX) (r : R2) (g : G2) : Prop := ∀ (F : Addr → Prop) (σ : L2.St) (env : EnvQ) (S : Sto) (H : Hp) (μ : List Addr) (x y : V) (w u : W) (Q : VK), Sim X.K X.mg F σ H env S μ → RW X.K X.mg H (NN F μ σ env) μ x w → w.plain = true → RW X.K X.mg H (NN F μ σ env) μ y u → u.plain = true →
  Post X.K X.mg EX F σ env H μ (g w u S) (fun w _ H' μ' => ∀ v, RW X.K X.mg H' (NN F μ' σ env) μ' v w → Q v H') → r x y H Q
theorem tE_bin {r : R2} {g : G2} (o : Op X EX r g) (hp : ∀ w u S, w.plain = false ∨ u.plain = false → g w u S = .stuck) (σ : L2.St) (H : Hp) (Q : VK) (q : tE X.K X.mg cf EX (fBin g fa fb) σ H Q) : tOp r (tE X.K X.mg cf EX fa) (tE X.K X.mg cf EX fb) σ H Q := by
  obtain ⟨env, S, μ, F, s, q⟩ := q
  refine ⟨env, S, μ, F, s, (Post.bind q).mono fun w S1 H1 μ1 s1 x1 q1 v rv => ?_⟩
  refine ⟨env, S1, μ1, F, s1, (Post.bind q1).mono fun u S2 H2 μ2 s2 x2 q2 v2 rv2 => ?_⟩
  by_cases pw : w.plain = true
  · by_cases pu : u.plain = true
    · exact o F σ env S2 H2 μ2 v v2 w u Q s2 (RW.keep (x2.nn F) x2.pre rv pw) pw rv2 pu q2
    · rw [hp w u S2 (.inr (by simpa using pu))] at q2
      exact q2.elim
  · rw [hp w u S2 (.inl (by simpa using pw))] at q2
    exact q2.elim
theorem me_bin {op : Operator} {r : R2} {g : G2} (ho : OpR X (binaryOp op) r) (o : Op X EX r g) (hp : ∀ w u S, w.plain = false ∨ u.plain = false → g w u S = .stuck) (h1 : ME X cf EX a fa) (h2 : ME X cf EX b fb) : ME X cf EX (.BinOp a op b pos) (fBin g fa fb) :=
  PE.weak (pe_op ho h1 h2) (tE_bin o hp)
theorem me_cmp {op : CmpOp} {r : R2} {g : G2} (ho : OpR X (compareOp op) r) (o : Op X EX r g) (hp : ∀ w u S, w.plain = false ∨ u.plain = false → g w u S = .stuck) (h1 : ME X cf EX a fa) (h2 : ME X cf EX b fb) (hm : behindInMarks op b = false) : ME X cf EX (.Compare a [op] [b] pos) (fBin g fa fb) :=
  PE.weak (pe_cmpR ho h1 h2 hm) (tE_bin o hp)
/-- ints -/
theorem rw_int {K : PySem.W.Frag} {mg : Str → Option Value} {H : Hp} {N : Addr → Prop} {μ : List Addr} {v : V} {i : Int} (h : RW K mg H N μ v (.d (.int i))) : v = .int i := by
  cases h with | d h => cases h; rfl
theorem rw_bl {K : PySem.W.Frag} {mg : Str → Option Value} {H : Hp} {N : Addr → Prop} {μ : List Addr} {v : V} {i : Bool} (h : RW K mg H N μ v (.d (.bool i))) : v = .bl i := by
  cases h with | d h => cases h; rfl
theorem rw_str {K : PySem.W.Frag} {mg : Str → Option Value} {H : Hp} {N : Addr → Prop} {μ : List Addr} {v : V} {i : Str} (h : RW K mg H N μ v (.d (.str i))) : v = .str i := by
  cases h with | d h => cases h; rfl
theorem lim_line : LIM = sizeLine := sizeLine_eq.symm
end
end Q

namespace Q
open PySem PySem.Spec PyProof.Rows L2
section
variable {X : Cx} {cf : CF} {EX : WX} {F : Addr → Prop} {K : PySem.W.Frag} {mg : Str → Option Value} {H : Hp} {N : Addr → Prop} {μ : List Addr} {v : V}
theorem rw_tup {xs : List D} (h : RW K mg H N μ v (.d (.tuple xs))) : ∃ a vs, v = .ref a ∧ RdT K H N a vs ∧ DnAll K H N vs xs := by
  cases h with | d h => cases h with | tup h t => exact ⟨_, _, rfl, h, t⟩
theorem rw_lst {xs : List D} (h : RW K mg H N μ v (.d (.list xs))) : ∃ a vs, v = .ref a ∧ ¬ N a ∧ H a = some (.lst vs) ∧ DnAll K H N vs xs := by
  cases h with | d h => cases h with | lst h t => exact ⟨_, _, rfl, h.1, h.2, t⟩
/-- a new tuple, a new list -/
theorem post_tup {α : Type} {σ : L2.St} {env : EnvQ} {S : Sto} {xs : List D} {vs : List V} {P : V → Hp → Prop} (s : Sim K mg F σ H env S μ) (t : DnAll K H (NN F μ σ env) vs xs)
    (q : Post K mg EX F σ env H μ (.ok (.d (.tuple xs)) S) (fun w _ H' μ' => ∀ v, RW K mg H' (NN F μ' σ env) μ' v w → P v H')) {p : Addr} (n : H p = none) : P (.ref p) (upd H p (.tup vs)) :=
  q _ μ (s.new n) (ext_new n) _ (.d (.tup (.inl ⟨s.fresh n, .inl upd_same⟩) (t.keep (Keep.upd_new n))))
theorem post_lst {σ : L2.St} {env : EnvQ} {S : Sto} {xs : List D} {vs : List V} {P : V → Hp → Prop} (s : Sim K mg F σ H env S μ) (t : DnAll K H (NN F μ σ env) vs xs)
    (q : Post K mg EX F σ env H μ (.ok (.d (.list xs)) S) (fun w _ H' μ' => ∀ v, RW K mg H' (NN F μ' σ env) μ' v w → P v H')) {p : Addr} (n : H p = none) : P (.ref p) (upd H p (.lst vs)) :=
  q _ μ (s.new n) (ext_new n) _ (.d (.lst ⟨s.fresh n, upd_same⟩ (t.keep (Keep.upd_new n))))
theorem post_here {σ : L2.St} {env : EnvQ} {S : Sto} {w : W} {P : V → Hp → Prop} (s : Sim K mg F σ H env S μ) (r : RW K mg H (NN F μ σ env) μ v w)
    (q : Post K mg EX F σ env H μ (.ok w S) (fun w _ H' μ' => ∀ v, RW K mg H' (NN F μ' σ env) μ' v w → P v H')) : P v H := q H μ s (Ext.refl _ _ _ _) v r

theorem o_add : Op X EX (fun x y H Q => (rI0 fun i j => .int (i + j)) x y H Q ∨ (∃ i j, x = .str i ∧ y = .str j ∧ i.length + j.length ≤ sizeLine ∧ Q (.str (i ++ j)) H) ∨ rCatA X.K x y H Q ∨ rCat x y H Q) gAdd := by
  intro F σ env S H μ x y w u Q s rx pw ry pu q
  unfold gAdd at q
  split at q
  · rw [rw_int rx, rw_int ry]
    exact .inl ⟨_, _, rfl, rfl, post_here s (.d (.int _)) q⟩
  · rw [rw_str rx, rw_str ry]
    split at q
    · rename_i h
      exact .inr (.inl ⟨_, _, rfl, rfl, by rw [← lim_line]; exact h, post_here s (.d (.str _)) q⟩)
    · exact q.elim
  · obtain ⟨a, vs, rfl, ha, ta⟩ := rw_tup rx
    obtain ⟨b, us, rfl, hb, tb⟩ := rw_tup ry
    split at q
    · rename_i h
      refine .inr (.inr (.inl ⟨a, b, vs, us, rfl, rfl, ha.sq, hb.sq, by rw [← lim_line, ta.length, tb.length]; exact h, fun e => ?_, fun e1 e2 => ?_, fun _ _ p n => post_tup (α := Unit) s (ta.append tb) q n⟩))
      · subst e
        cases ta
        exact post_here s ry q
      · subst e2
        cases tb
        rw [List.append_nil] at q
        exact post_here s rx q
    · exact q.elim
  · obtain ⟨a, vs, rfl, na, ha, ta⟩ := rw_lst rx
    obtain ⟨b, us, rfl, nb, hb, tb⟩ := rw_lst ry
    split at q
    · rename_i h
      exact .inr (.inr (.inr ⟨a, b, vs, us, rfl, rfl, ha, hb, by rw [← lim_line, ta.length, tb.length]; exact h, fun p n => post_lst s (ta.append tb) q n⟩))
    · exact q.elim
  · exact q.elim
theorem g_plain (g : G2) (h : ∀ w u S, g w u S ≠ .stuck → w.plain = true ∧ u.plain = true) : ∀ w u S, w.plain = false ∨ u.plain = false → g w u S = .stuck := by
  intro w u S e
  by_cases k : g w u S = .stuck
  · exact k
  · obtain ⟨h1, h2⟩ := h w u S k
    rcases e with e | e
    · rw [h1] at e; cases e
    · rw [h2] at e; cases e
theorem gp_add : ∀ w u S, w.plain = false ∨ u.plain = false → gAdd w u S = .stuck := g_plain _ fun w u S k => by
  unfold gAdd at k
  split at k <;> first | exact ⟨rfl, rfl⟩ | exact absurd rfl k
theorem me_add {a b : Expr} {fa fb : SE} {pos : Pos} (h1 : ME X cf EX a fa) (h2 : ME X cf EX b fb) : ME X cf EX (.BinOp a .Add b pos) (fBin gAdd fa fb) :=
  me_bin (OpR.or op_add (OpR.or op_add_str (OpR.or op_catA op_cat))) o_add gp_add h1 h2
/-- ints -/
theorem o_int {C : Int → Int → Prop} {g : Int → Int → V} {gg : G2} (h : ∀ w u S, (∃ i j, w = .d (.int i) ∧ u = .d (.int j) ∧ C i j ∧ ∃ x, (∀ H N, Dn X.K H N (g i j) x) ∧ gg w u S = .ok (.d x) S) ∨ gg w u S = .stuck) : Op X EX (rI C g) gg := by
  intro F σ env S H μ x y w u Q s rx pw ry pu q
  rcases h w u S with ⟨i, j, rfl, rfl, c, z, r, e⟩ | e
  · rw [e] at q
    rw [rw_int rx, rw_int ry]
    exact ⟨i, j, rfl, rfl, c, post_here s (.d (r _ _)) q⟩
  · rw [e] at q
    exact q.elim
theorem o_int0 {g : Int → Int → V} {gg : G2} (h : ∀ w u S, (∃ i j, w = .d (.int i) ∧ u = .d (.int j) ∧ ∃ x, (∀ H N, Dn X.K H N (g i j) x) ∧ gg w u S = .ok (.d x) S) ∨ gg w u S = .stuck) : Op X EX (rI0 g) gg := by
  intro F σ env S H μ x y w u Q s rx pw ry pu q
  rcases h w u S with ⟨i, j, rfl, rfl, z, r, e⟩ | e
  · rw [e] at q
    rw [rw_int rx, rw_int ry]
    exact ⟨i, j, rfl, rfl, post_here s (.d (r _ _)) q⟩
  · rw [e] at q
    exact q.elim
theorem gp_int {gg : G2} (h : ∀ w u S, gg w u S ≠ .stuck → ∃ i j, w = .d (.int i) ∧ u = .d (.int j)) : ∀ w u S, w.plain = false ∨ u.plain = false → gg w u S = .stuck := g_plain _ fun w u S k => by
  obtain ⟨i, j, rfl, rfl⟩ := h w u S k
  exact ⟨rfl, rfl⟩
section
variable {a b : Expr} {fa fb : SE} {pos : Pos}
theorem me_sub (h1 : ME X cf EX a fa) (h2 : ME X cf EX b fb) : ME X cf EX (.BinOp a .Sub b pos) (fBin gSub fa fb) := by
  refine me_bin op_sub (o_int0 fun w u S => ?_) (gp_int fun w u S k => ?_) h1 h2
  · unfold gSub
    split
    · exact .inl ⟨_, _, rfl, rfl, _, fun _ _ => .int _, rfl⟩
    · exact .inr rfl
  · unfold gSub at k
    split at k
    · exact ⟨_, _, rfl, rfl⟩
    · exact absurd rfl k
theorem sm_ok {i j : Int} (h : (sm i || sm j) = true) : CMul i j := by
  rw [Bool.or_eq_true] at h
  exact h.elim (fun h => .inl (sm_iff h)) fun h => .inr (sm_iff h)
theorem me_mod (h1 : ME X cf EX a fa) (h2 : ME X cf EX b fb) : ME X cf EX (.BinOp a .Mod b pos) (fBin gMod fa fb) := by
  refine me_bin op_mod (o_int fun w u S => ?_) (gp_int fun w u S k => ?_) h1 h2
  · unfold gMod
    split
    · split
      · rename_i h
        exact .inl ⟨_, _, rfl, rfl, h, _, fun _ _ => .int _, rfl⟩
      · exact .inr rfl
    · exact .inr rfl
  · unfold gMod at k
    split at k
    · exact ⟨_, _, rfl, rfl⟩
    · exact absurd rfl k
theorem noPyl {x y : Int} (h : y.natAbs < 18446744073709551616) : Builtin.divisionGoesByPylong x y = false := by
  have k : ¬ (if (y == 0) = true then 0 else y.natAbs.log2 / 30 + 1) > 300 := by
    split
    · omega
    · rename_i z
      have hz : y.natAbs ≠ 0 := by
        intro q
        exact z (by simp; omega)
      have : y.natAbs.log2 < 64 := (Nat.log2_lt hz).mpr h
      omega
  unfold Builtin.divisionGoesByPylong
  show (decide ((if (y == 0) = true then 0 else y.natAbs.log2 / 30 + 1) > 300) && _) = false
  rw [decide_eq_false k, Bool.false_and]
def CDivW (i j : Int) : Prop := 0 < j ∧ j < 18446744073709551616
theorem op_fdivW : OpR X (binaryOp .FloorDiv) (rI CDivW fun i j => .int (i / j)) := opI fun i j _ _ _ _ _ hc q => by
  have h1 : (0 : Int) < j := hc.1
  have h2 : j < 18446744073709551616 := hc.2
  exact floordiv_int (by omega) (by rw [Int.fdiv_eq_ediv_of_nonneg i (by omega)]; exact q) (.inl (noPyl (by omega)))
theorem me_div (h1 : ME X cf EX a fa) (h2 : ME X cf EX b fb) : ME X cf EX (.BinOp a .FloorDiv b pos) (fBin gDiv fa fb) := by
  refine me_bin op_fdivW (o_int fun w u S => ?_) (gp_int fun w u S k => ?_) h1 h2
  · unfold gDiv
    split
    · split
      · rename_i h
        exact .inl ⟨_, _, rfl, rfl, ⟨h.1, by have := Nat.le_of_ble_eq_true h.2; omega⟩, _, fun _ _ => .int _, rfl⟩
      · exact .inr rfl
    · exact .inr rfl
  · unfold gDiv at k
    split at k
    · exact ⟨_, _, rfl, rfl⟩
    · exact absurd rfl k
theorem me_pow (h1 : ME X cf EX a fa) (h2 : ME X cf EX b fb) : ME X cf EX (.BinOp a .Pow b pos) (fBin gPow fa fb) := by
  refine me_bin op_pow (o_int fun w u S => ?_) (gp_int fun w u S k => ?_) h1 h2
  · unfold gPow
    split
    · split
      · rename_i h
        exact .inl ⟨_, _, rfl, rfl, h, _, fun _ _ => .int _, rfl⟩
      · exact .inr rfl
    · exact .inr rfl
  · unfold gPow at k
    split at k
    · exact ⟨_, _, rfl, rfl⟩
    · exact absurd rfl k
/-- products: of ints, a list so often, a tuple so often -/
def gMul2 : G2
  | .d (.int i), .d (.int j), S => if sm i || sm j then .ok (.d (.int (i * j))) S else .stuck
  | .d (.list xs), .d (.int k), S => if (Nat.ble k.natAbs 9223372036854775807 && Nat.ble (xs.length * k.toNat) LIM) = true then .ok (.d (.list (List.replicate k.toNat xs).flatten)) S else .stuck
  | .d (.tuple xs), .d (.int k), S => if xs ≠ [] ∧ 2 ≤ k ∧ k ≤ 1000 ∧ xs.length ≤ 1000 then .ok (.d (.tuple (List.replicate k.toNat xs).flatten)) S else .stuck
  | _, _, _ => .stuck
theorem DnAll.rep {vs : List V} {xs : List D} (t : DnAll K H N vs xs) : ∀ n : Nat, DnAll K H N (List.replicate n vs).flatten (List.replicate n xs).flatten
  | 0 => by simpa using DnAll.nil
  | n + 1 => by
    rw [List.replicate_succ, List.replicate_succ, List.flatten_cons, List.flatten_cons]
    exact t.append (DnAll.rep t n)
theorem o_mul : Op X EX (fun x y H Q => (rI CMul fun i j => .int (i * j)) x y H Q ∨ rRep x y H Q ∨ rRepT X.K x y H Q) gMul2 := by
  intro F σ env S H μ x y w u Q s rx pw ry pu q
  unfold gMul2 at q
  split at q
  · rw [rw_int rx, rw_int ry]
    split at q
    · rename_i h
      exact .inl ⟨_, _, rfl, rfl, sm_ok h, post_here s (.d (.int _)) q⟩
    · exact q.elim
  · obtain ⟨a, vs, rfl, na, ha, ta⟩ := rw_lst rx
    rw [rw_int ry]
    split at q
    · rename_i h
      rw [Bool.and_eq_true] at h
      have h1 := Nat.le_of_ble_eq_true h.1
      have h2 := Nat.le_of_ble_eq_true h.2
      exact .inr (.inl ⟨a, _, vs, rfl, rfl, ha, by omega, by omega, by rw [← lim_line, ta.length]; exact h2, fun p n => post_lst s (ta.rep _) q n⟩)
    · exact q.elim
  · obtain ⟨a, vs, rfl, ha, ta⟩ := rw_tup rx
    rw [rw_int ry]
    split at q
    · rename_i h
      refine .inr (.inr ⟨a, _, vs, rfl, rfl, ha.sq, fun e => h.1 ?_, h.2.1, h.2.2.1, by rw [ta.length]; exact h.2.2.2, fun p n => post_tup (α := Unit) s (ta.rep _) q n⟩)
      subst e
      cases ta
      rfl
    · exact q.elim
  · exact q.elim
theorem gp_mul : ∀ w u S, w.plain = false ∨ u.plain = false → gMul2 w u S = .stuck := g_plain _ fun w u S k => by
  unfold gMul2 at k
  split at k <;> first | exact ⟨rfl, rfl⟩ | exact absurd rfl k
theorem me_mul (h1 : ME X cf EX a fa) (h2 : ME X cf EX b fb) : ME X cf EX (.BinOp a .Mult b pos) (fBin gMul2 fa fb) :=
  me_bin (OpR.or op_mul (OpR.or op_rep op_repT)) o_mul gp_mul h1 h2
/-- order -/
theorem o_cmp {p : Int → Int → Bool} : Op X EX (rI0 fun i j => .bl (p i j)) (gCmp p) := o_int0 fun w u S => by
  unfold gCmp
  split
  · exact .inl ⟨_, _, rfl, rfl, _, fun _ _ => .bl _, rfl⟩
  · exact .inr rfl
theorem gp_cmp {p : Int → Int → Bool} : ∀ w u S, w.plain = false ∨ u.plain = false → gCmp p w u S = .stuck := gp_int fun w u S k => by
  unfold gCmp at k
  split at k
  · exact ⟨_, _, rfl, rfl⟩
  · exact absurd rfl k
/-- == of data -/
theorem noDict_of {d : D} (h : d.canLay0 = true) : d.hasDict = false := PyData.hasDict_of_canLay d h
theorem dn_dp {x : V} {d : D} (h : Dn K H N x d) (e : okEq d = true) : Dp K H x d ∧ SeqAt.shaped d = true := by
  have e' : (d.canLay0 && decide (d.depth ≤ 64)) = true := e
  refine ⟨Dn.dp h (fun kvs q => ?_) (noDict_of (by rw [Bool.and_eq_true] at e'; exact e'.1)), e'⟩
  subst q
  simp [PyData.canLay0] at e'
theorem o_eq : Op X EX (fun x y H Q => rEqD X.K x y H Q ∨ rEq x y H Q) gEq := by
  intro F σ env S H μ x y w u Q s rx pw ry pu q
  unfold gEq at q
  split at q
  · rename_i a b S
    cases rx with
    | d hx =>
      cases ry with
      | d hy =>
        cases hx
        cases hy
        refine .inr ⟨rfl, post_here (EX := EX) s (.d (.bl _)) ?_⟩
        simpa [V.str.injEq] using q
  · split at q
    · rename_i h
      rw [Bool.and_eq_true] at h
      cases rx with
      | d hx =>
        cases ry with
        | d hy =>
          obtain ⟨p1, s1⟩ := dn_dp hx h.1
          obtain ⟨p2, s2⟩ := dn_dp hy h.2
          exact .inl ⟨_, _, p1, p2, s1, s2, post_here s (.d (.bl _)) q⟩
    · exact q.elim
  · exact q.elim
theorem o_ne : Op X EX (fun x y H Q => rNeD X.K x y H Q ∨ rNe x y H Q) gNe := by
  intro F σ env S H μ x y w u Q s rx pw ry pu q
  unfold gNe at q
  split at q
  · rename_i a b S
    cases rx with
    | d hx =>
      cases ry with
      | d hy =>
        cases hx
        cases hy
        refine .inr ⟨rfl, post_here (EX := EX) s (.d (.bl _)) ?_⟩
        simpa [V.str.injEq] using q
  · split at q
    · rename_i h
      rw [Bool.and_eq_true] at h
      cases rx with
      | d hx =>
        cases ry with
        | d hy =>
          obtain ⟨p1, s1⟩ := dn_dp hx h.1
          obtain ⟨p2, s2⟩ := dn_dp hy h.2
          exact .inl ⟨_, _, p1, p2, s1, s2, post_here s (.d (.bl _)) q⟩
    · exact q.elim
  · exact q.elim
theorem gp_eq : ∀ w u S, w.plain = false ∨ u.plain = false → gEq w u S = .stuck := g_plain _ fun w u S k => by
  unfold gEq at k
  split at k <;> first | exact ⟨rfl, rfl⟩ | exact absurd rfl k
theorem gp_ne : ∀ w u S, w.plain = false ∨ u.plain = false → gNe w u S = .stuck := g_plain _ fun w u S k => by
  unfold gNe at k
  split at k <;> first | exact ⟨rfl, rfl⟩ | exact absurd rfl k
theorem op_eqU {k : Nat} (hr : Room k X.A) : OpR X (compareOp .Eq) (fun x y H Q => rEqD X.K x y H Q ∨ rEq x y H Q) := fun pins s σ H x y v u Q I rx ry h => h.elim (op_eqD hr.units pins s σ H x y v u Q I rx ry) (op_eq pins s σ H x y v u Q I rx ry)
theorem op_neU {k : Nat} (hr : Room k X.A) : OpR X (compareOp .NotEq) (fun x y H Q => rNeD X.K x y H Q ∨ rNe x y H Q) := fun pins s σ H x y v u Q I rx ry h => h.elim (op_neD hr.units pins s σ H x y v u Q I rx ry) (op_ne pins s σ H x y v u Q I rx ry)
end
end
end Q

namespace Q
open PySem PySem.Spec PyProof.Rows L2
section
variable {X : Cx} {cf : CF} {EX : WX} {F : Addr → Prop} {e a b c : Expr} {es : List Expr} {fa fb fc : SE} {ga gb gc : ST} {ha hb : SA} {pos p : Pos} {x : Str}

theorem mt_val (h : ME X cf EX e fa) (he : ∀ whole, isTrue e X.env whole = (do let v ← whole; standAt e.pos; holding [v] (truthy v)) := by intro _; rfl) : MT X cf EX e (cVal fa) :=
  PT.weak (pt_val h he) fun σ H Q ⟨env, S, μ, F, s, q⟩ => ⟨env, S, μ, F, s, (Post.bind q).mono fun w S1 H1 μ1 s1 x1 q1 v rv => by
    split at q1
    · exact ⟨_, rw_bl rv, q1 H1 μ1 s1 (Ext.refl _ _ _ _)⟩
    · exact q1.elim⟩
/-- a comparison as a test -/
theorem mt_cmp {op : CmpOp} {r : R2} {g : G2} (ho : OpR X (compareOp op) r) (o : Op X EX r g) (hp : ∀ w u S, w.plain = false ∨ u.plain = false → g w u S = .stuck) (h1 : ME X cf EX a fa) (h2 : ME X cf EX b fb) (hm : behindInMarks op b = false) : MT X cf EX (.Compare a [op] [b] pos) (cVal (fBin g fa fb)) :=
  PT.weak (pt_cmpR ho h1 h2 hm) fun σ H Q ⟨env, S, μ, F, s, q⟩ => tE_bin o hp σ H _ ⟨env, S, μ, F, s, (Post.bind q).mono fun w S1 H1 μ1 s1 x1 q1 v rv => by
    split at q1
    · exact ⟨_, rw_bl rv, q1 H1 μ1 s1 (Ext.refl _ _ _ _)⟩
    · exact q1.elim⟩
/-- comparisons, by one fact each -/
structure Cm (X : Cx) (EX : WX) (op : CmpOp) (g : G2) : Prop where
  ex : ∃ r, OpR X (compareOp op) r ∧ Op X EX r g
  pl : ∀ w u S, w.plain = false ∨ u.plain = false → g w u S = .stuck
theorem cm_lt : Cm X EX .Lt gLt := ⟨⟨_, op_lt, o_cmp⟩, gp_cmp⟩
theorem cm_le : Cm X EX .LtE gLe := ⟨⟨_, op_le, o_cmp⟩, gp_cmp⟩
theorem cm_gt : Cm X EX .Gt gGt := ⟨⟨_, op_gt, o_cmp⟩, gp_cmp⟩
theorem cm_eq {k : Nat} (hr : Room k X.A) : Cm X EX .Eq gEq := ⟨⟨_, op_eqU hr, o_eq⟩, gp_eq⟩
theorem cm_ne {k : Nat} (hr : Room k X.A) : Cm X EX .NotEq gNe := ⟨⟨_, op_neU hr, o_ne⟩, gp_ne⟩
theorem me_c {op : CmpOp} {g : G2} (h : Cm X EX op g) (h1 : ME X cf EX a fa) (h2 : ME X cf EX b fb) (hm : behindInMarks op b = false) : ME X cf EX (.Compare a [op] [b] pos) (fBin g fa fb) :=
  let ⟨_, ho, o⟩ := h.ex; me_cmp ho o h.pl h1 h2 hm
theorem mt_c {op : CmpOp} {g : G2} (h : Cm X EX op g) (h1 : ME X cf EX a fa) (h2 : ME X cf EX b fb) (hm : behindInMarks op b = false) : MT X cf EX (.Compare a [op] [b] pos) (cVal (fBin g fa fb)) :=
  let ⟨_, ho, o⟩ := h.ex; mt_cmp ho o h.pl h1 h2 hm
/-- a < b < c -/
def fChain (g g' : G2) (a b c : SE) : SE := fun cf env S => (a cf env S).bind fun x S1 => (b cf env S1).bind fun y S2 => (g x y S2).bind fun z S3 => match z with
  | .d (.bool k) => if k = true then (c cf env S3).bind fun w S4 => g' y w S4 else .ok (.d (.bool false)) S3
  | _ => .stuck
theorem tE_chain {r r' : R2} {g g' : G2} (o : Op X EX r g) (o' : Op X EX r' g') (hp : ∀ w u S, w.plain = false ∨ u.plain = false → g w u S = .stuck) (hp' : ∀ w u S, w.plain = false ∨ u.plain = false → g' w u S = .stuck)
    (σ : L2.St) (H : Hp) (Q : VK) (q : tE X.K X.mg cf EX (fChain g g' fa fb fc) σ H Q) : tChain r r' (tE X.K X.mg cf EX fa) (tE X.K X.mg cf EX fb) (tE X.K X.mg cf EX fc) σ H Q := by
  obtain ⟨env, S, μ, F, s, q⟩ := q
  refine ⟨env, S, μ, F, s, (Post.bind q).mono fun w S1 H1 μ1 s1 x1 q1 v rv => ?_⟩
  refine ⟨env, S1, μ1, F, s1, (Post.bind q1).mono fun u S2 H2 μ2 s2 x2 q2 v2 rv2 => ?_⟩
  have pl : w.plain = true ∧ u.plain = true := by
    by_cases pw : w.plain = true
    · by_cases pu : u.plain = true
      · exact ⟨pw, pu⟩
      · rw [hp w u S2 (.inr (by simpa using pu))] at q2
        exact q2.elim
    · rw [hp w u S2 (.inl (by simpa using pw))] at q2
      exact q2.elim
  refine o F σ env S2 H2 μ2 v v2 w u _ s2 (RW.keep (x2.nn F) x2.pre rv pl.1) pl.1 rv2 pl.2 ((Post.bind q2).mono fun z S3 H3 μ3 s3 x3 q3 v3 rv3 => ?_)
  split at q3
  · rename_i k
    refine ⟨k, rw_bl rv3, ?_⟩
    cases k with
    | false =>
      rw [if_neg Bool.false_ne_true] at q3 ⊢
      exact post_here s3 (.d (.bl false)) q3
    | true =>
      rw [if_pos rfl] at q3 ⊢
      refine ⟨env, S3, μ3, F, s3, (Post.bind q3).mono fun t S4 H4 μ4 s4 x4 q4 v4 rv4 => ?_⟩
      by_cases pt : t.plain = true
      · exact o' F σ env S4 H4 μ4 v2 v4 u t Q s4 (RW.keep ((x3.nn F).trans (x4.nn F)) (List.IsPrefix.trans x3.pre x4.pre) rv2 pl.2) pl.2 rv4 pt q4
      · rw [hp' u t S4 (.inr (by simpa using pt))] at q4
        exact q4.elim
  · exact q3.elim
theorem me_chain {op op' : CmpOp} {g g' : G2} (h : Cm X EX op g) (h' : Cm X EX op' g') (h1 : ME X cf EX a fa) (h2 : ME X cf EX b fb) (h3 : ME X cf EX c fc) (hm : lastMarks [op, op'] [b, c] = false := by rfl) :
    ME X cf EX (.Compare a [op, op'] [b, c] pos) (fChain g g' fa fb fc) := by
  obtain ⟨_, ho, o⟩ := h.ex
  obtain ⟨_, ho', o'⟩ := h'.ex
  exact PE.weak (pe_chain ho ho' h1 h2 h3 hm) (tE_chain o o' h.pl h'.pl)
theorem mt_chain {op op' : CmpOp} {g g' : G2} (h : Cm X EX op g) (h' : Cm X EX op' g') (h1 : ME X cf EX a fa) (h2 : ME X cf EX b fb) (h3 : ME X cf EX c fc) (hm : lastMarks [op, op'] [b, c] = false := by rfl) :
    MT X cf EX (.Compare a [op, op'] [b, c] pos) (cVal (fChain g g' fa fb fc)) := by
  obtain ⟨_, ho, o⟩ := h.ex
  obtain ⟨_, ho', o'⟩ := h'.ex
  exact PT.weak (pt_chain ho ho' h1 h2 h3 hm) fun σ H Q ⟨env, S, μ, F, s, q⟩ => tE_chain o o' h.pl h'.pl σ H _ ⟨env, S, μ, F, s, (Post.bind q).mono fun w S1 H1 μ1 s1 x1 q1 v rv => by
    split at q1
    · exact ⟨_, rw_bl rv, q1 H1 μ1 s1 (Ext.refl _ _ _ _)⟩
    · exact q1.elim⟩
theorem mt_not (h : MT X cf EX a ga) : MT X cf EX (.UnaryOp .Not a pos) (cNot ga) :=
  PT.weak (pt_not h) fun σ H Q ⟨env, S, μ, F, s, q⟩ => ⟨env, S, μ, F, s, (Post.bind q).mono fun w S1 H1 μ1 s1 x1 q1 => q1 H1 μ1 s1 (Ext.refl _ _ _ _)⟩
theorem mw_and1 (h : MT X cf EX a ga) : MW X cf EX (.BoolOp .And [a] pos) ga := pw_and1 h
theorem mw_or1 (h : MT X cf EX a ga) : MW X cf EX (.BoolOp .Or [a] pos) ga := pw_or1 h
theorem mw_and {rest : List Expr} (h1 : MT X cf EX a ga) (h2 : MW X cf EX (.BoolOp .And (b :: rest) pos) gb) : MW X cf EX (.BoolOp .And (a :: b :: rest) pos) (cAnd ga gb) :=
  PW.weak (pw_and h1 h2) fun σ H Q ⟨env, S, μ, F, s, q⟩ => ⟨env, S, μ, F, s, (Post.bind q).mono fun w S1 H1 μ1 s1 x1 q1 => by
    cases w with
    | true => rw [if_pos rfl] at q1 ⊢; exact ⟨env, S1, μ1, F, s1, q1⟩
    | false => rw [if_neg Bool.false_ne_true] at q1 ⊢; exact q1 H1 μ1 s1 (Ext.refl _ _ _ _)⟩
theorem mw_or {rest : List Expr} (h1 : MT X cf EX a ga) (h2 : MW X cf EX (.BoolOp .Or (b :: rest) pos) gb) : MW X cf EX (.BoolOp .Or (a :: b :: rest) pos) (cOr ga gb) :=
  PW.weak (pw_or h1 h2) fun σ H Q ⟨env, S, μ, F, s, q⟩ => ⟨env, S, μ, F, s, (Post.bind q).mono fun w S1 H1 μ1 s1 x1 q1 => by
    cases w with
    | false => rw [if_neg Bool.false_ne_true] at q1 ⊢; exact ⟨env, S1, μ1, F, s1, q1⟩
    | true => rw [if_pos rfl] at q1 ⊢; exact q1 H1 μ1 s1 (Ext.refl _ _ _ _)⟩
theorem mt_w (h : MW X cf EX a ga) : MT X cf EX a ga := PW.pt h
theorem me_one {op} (h : ME X cf EX a fa) : ME X cf EX (.BoolOp op [a] pos) fa := pe_one h
theorem me_and {rest : List Expr} (h1 : ME X cf EX a fa) (h2 : ME X cf EX (.BoolOp .And (b :: rest) pos) fb) : ME X cf EX (.BoolOp .And (a :: b :: rest) pos) (fAnd fa fb) :=
  PE.weak (pe_and h1 h2) fun σ H Q ⟨env, S, μ, F, s, q⟩ => ⟨env, S, μ, F, s, (Post.bind q).mono fun w S1 H1 μ1 s1 x1 q1 v rv => by
    split at q1
    · rename_i k
      refine ⟨k, rw_bl rv, ?_⟩
      cases k with
      | true => rw [if_pos rfl] at q1 ⊢; exact ⟨env, S1, μ1, F, s1, q1⟩
      | false => rw [if_neg Bool.false_ne_true] at q1 ⊢; exact post_here s1 (.d (.bl false)) q1
    · exact q1.elim⟩
theorem me_or {rest : List Expr} (h1 : ME X cf EX a fa) (h2 : ME X cf EX (.BoolOp .Or (b :: rest) pos) fb) : ME X cf EX (.BoolOp .Or (a :: b :: rest) pos) (fOr fa fb) :=
  PE.weak (pe_or h1 h2) fun σ H Q ⟨env, S, μ, F, s, q⟩ => ⟨env, S, μ, F, s, (Post.bind q).mono fun w S1 H1 μ1 s1 x1 q1 v rv => by
    split at q1
    · rename_i k
      refine ⟨k, rw_bl rv, ?_⟩
      cases k with
      | false => rw [if_neg Bool.false_ne_true] at q1 ⊢; exact ⟨env, S1, μ1, F, s1, q1⟩
      | true => rw [if_pos rfl] at q1 ⊢; exact post_here s1 (.d (.bl true)) q1
    · exact q1.elim⟩
theorem me_not (h : ME X cf EX a fa) : ME X cf EX (.UnaryOp .Not a pos) (fNot fa) :=
  PE.weak (pe_not h) fun σ H Q ⟨env, S, μ, F, s, q⟩ => ⟨env, S, μ, F, s, (Post.bind q).mono fun w S1 H1 μ1 s1 x1 q1 v rv => by
    split at q1
    · exact ⟨_, rw_bl rv, post_here s1 (.d (.bl _)) q1⟩
    · exact q1.elim⟩
theorem me_if (h : MT X cf EX c gc) (h1 : ME X cf EX a fa) (h2 : ME X cf EX b fb) : ME X cf EX (.IfExp c a b pos) (fIf gc fa fb) :=
  PE.weak (pe_ifExp h h1 h2) fun σ H Q ⟨env, S, μ, F, s, q⟩ => ⟨env, S, μ, F, s, (Post.bind q).mono fun w S1 H1 μ1 s1 x1 q1 => by
    cases w with
    | true => rw [if_pos rfl] at q1 ⊢; exact ⟨env, S1, μ1, F, s1, q1⟩
    | false => rw [if_neg Bool.false_ne_true] at q1 ⊢; exact ⟨env, S1, μ1, F, s1, q1⟩⟩
theorem rw_none {K : PySem.W.Frag} {mg : Str → Option Value} {H : Hp} {N : Addr → Prop} {μ : List Addr} {v : V} {w : W} (h : RW K mg H N μ v w) : decide (v = .non) = w.isNone := by
  cases h with
  | d h => cases h <;> simp [W.isNone]
  | _ => simp [W.isNone]
theorem me_isN {j pos'} (h : ME X cf EX a fa) : ME X cf EX (.Compare a [.Is] [.Constant .none j pos'] pos) (fIsNone fa) :=
  PE.weak (pe_cmp (pc_isN h) rfl) fun σ H Q ⟨env, S, μ, F, s, q⟩ => ⟨env, S, μ, F, s, (Post.bind q).mono fun w S1 H1 μ1 s1 x1 q1 v rv => by
    have e := rw_none rv
    simp only [e]
    exact post_here s1 (.d (.bl _)) q1⟩
theorem me_neg (h : ME X cf EX a fa) : ME X cf EX (.UnaryOp .USub a pos) (fNeg fa) :=
  PE.weak (pe_un un_neg h) fun σ H Q ⟨env, S, μ, F, s, q⟩ => ⟨env, S, μ, F, s, (Post.bind q).mono fun w S1 H1 μ1 s1 x1 q1 v rv => by
    split at q1
    · exact ⟨_, rw_int rv, post_here s1 (.d (.int _)) q1⟩
    · exact q1.elim⟩

theorem ma_nil : MA X cf EX [] aNil := PA.weak pa_nil fun σ H Q ⟨env, S, μ, F, s, q⟩ => q H μ s (Ext.refl _ _ _ _) [] .nil
theorem ma_cons (h1 : ME X cf EX e fa) (h2 : MA X cf EX es ha) (hs : starEach (e :: es) X.env = (false, eval e X.env) :: starEach es X.env := by rfl) : MA X cf EX (e :: es) (aCons fa ha) :=
  PA.weak (pa_cons h1 h2 hs) fun σ H Q ⟨env, S, μ, F, s, q⟩ => ⟨env, S, μ, F, s, (Post.bind q).mono fun w S1 H1 μ1 s1 x1 q1 v rv => ⟨env, S1, μ1, F, s1, (Post.bind q1).mono fun ws S2 H2 μ2 s2 x2 q2 vs rvs => by
    split at q2
    · rename_i pw
      exact q2 H2 μ2 s2 (Ext.refl _ _ _ _) _ (.cons (RW.keep (x2.nn F) x2.pre rv pw) rvs)
    · exact q2.elim⟩⟩
theorem datas_dn {K : PySem.W.Frag} {mg : Str → Option Value} {H : Hp} {N : Addr → Prop} {μ : List Addr} : ∀ {vs : List V} {ws : List W} {ds : List D}, RWs K mg H N μ vs ws → datas ws = some ds → DnAll K H N vs ds
  | _, _, _, .nil, e => by
    simp only [datas, Option.some.injEq] at e
    subst e
    exact .nil
  | _, _, _, .cons (ws := ws) (.d h) t, e => by
    cases q : datas ws with
    | none => simp [datas, q] at e
    | some r =>
      simp only [datas, q, Option.map_some, Option.some.injEq] at e
      subst e
      exact .cons h (datas_dn t q)
  | _, _, _, .cons (.ref _) _, e => by simp [datas] at e
  | _, _, _, .cons (.own _ _) _, e => by simp [datas] at e
  | _, _, _, .cons (.tw _ _ _) _, e => by simp [datas] at e
  | _, _, _, .cons (.fn _) _, e => by simp [datas] at e
  | _, _, _, .cons (.scr _) _, e => by simp [datas] at e
theorem me_tup {k} (h : MA X cf EX es ha) : ME X cf EX (.Tuple es k pos) (fTup ha) :=
  PE.weak (pe_tup h) fun σ H Q ⟨env, S, μ, F, s, q⟩ => ⟨env, S, μ, F, s, (Post.bind q).mono fun ws S1 H1 μ1 s1 x1 q1 vs rvs => by
    split at q1
    · rename_i hl
      refine ⟨by rw [← lim_line, rvs.length]; exact hl, fun p n => ?_⟩
      split at q1
      · rename_i ds e
        exact post_tup (α := Unit) s1 (datas_dn rvs e) q1 n
      · exact q1 _ μ1 (s1.new n) (ext_new n) _ (.tw (s1.fresh n) upd_same (RWs.same (Same.upd_new n) rvs))
    · exact q1.elim⟩
theorem me_lst (h : MA X cf EX es ha) : ME X cf EX (.List es pos) (fLst ha) :=
  PE.weak (pe_lst h) fun σ H Q ⟨env, S, μ, F, s, q⟩ => ⟨env, S, μ, F, s, (Post.bind q).mono fun ws S1 H1 μ1 s1 x1 q1 vs rvs => by
    split at q1
    · rename_i hl
      refine ⟨by rw [← lim_line, rvs.length]; exact hl, fun p n => ?_⟩
      split at q1
      · rename_i ds e
        exact post_lst s1 (datas_dn rvs e) q1 n
      · exact q1.elim
    · exact q1.elim⟩

abbrev GN := List W → Sto → R W
def CallOp (X : Cx) (EX : WX) (r : List V → Hp → VK → Prop) (g : GN) : Prop := ∀ (F : Addr → Prop) (σ : L2.St) (env : EnvQ) (S : Sto) (H : Hp) (μ : List Addr) (vs : List V) (ws : List W) (Q : VK), Sim X.K X.mg F σ H env S μ → RWs X.K X.mg H (NN F μ σ env) μ vs ws →
  Post X.K X.mg EX F σ env H μ (g ws S) (fun w _ H' μ' => ∀ v, RW X.K X.mg H' (NN F μ' σ env) μ' v w → Q v H') → r vs H Q
def fB (g : GN) (a : SA) : SE := fun cf env S => (a cf env S).bind fun ws S1 => g ws S1
theorem me_callB {id : String} {r : List V → Hp → VK → Prop} {g : GN} (hc : CallR X (.builtin id) r) (o : CallOp X EX r g) (hg : Gl X x) (hm : X.mg x = none) (hv : bootBuiltins x = some (.builtin id)) (h : MA X cf EX (e :: es) ha) (hn : x ≠ "__name__" := by decide) (hdb : (x == ("__debug__" : Str)) = false := by decide)
    (he : starEach (e :: es) X.env = (false, eval e X.env) :: starEach es X.env := by rfl) (hpl : (backTo pos (starEach es X.env)).any (·.1) = false := by rfl) : ME X cf EX (.Call (.Name x p) (e :: es) [] pos) (fB g ha) :=
  PE.weak (pe_callB hc hg hm hv h hn hdb he hpl) fun σ H Q ⟨env, S, μ, F, s, q⟩ => ⟨env, S, μ, F, s, (Post.bind q).mono fun ws S1 H1 μ1 s1 x1 q1 vs rvs => o F σ env S1 H1 μ1 vs ws Q s1 rvs q1⟩
theorem me_callTy {T : String} {r : List V → Hp → VK → Prop} {g : GN} (hc : CallR X (.type T) r) (o : CallOp X EX r g) (hg : Gl X x) (hm : X.mg x = none) (hv : bootBuiltins x = some (.type T)) (h : MA X cf EX (e :: es) ha) (hn : x ≠ "__name__" := by decide) (hdb : (x == ("__debug__" : Str)) = false := by decide)
    (he : starEach (e :: es) X.env = (false, eval e X.env) :: starEach es X.env := by rfl) (hpl : (backTo pos (starEach es X.env)).any (·.1) = false := by rfl) : ME X cf EX (.Call (.Name x p) (e :: es) [] pos) (fB g ha) :=
  PE.weak (pe_callTy hc hg hm hv h hn hdb he hpl) fun σ H Q ⟨env, S, μ, F, s, q⟩ => ⟨env, S, μ, F, s, (Post.bind q).mono fun ws S1 H1 μ1 s1 x1 q1 vs rvs => o F σ env S1 H1 μ1 vs ws Q s1 rvs q1⟩
theorem rws1 {K : PySem.W.Frag} {mg : Str → Option Value} {H : Hp} {N : Addr → Prop} {μ : List Addr} {vs : List V} {w : W} (h : RWs K mg H N μ vs [w]) : ∃ v, vs = [v] ∧ RW K mg H N μ v w := by
  cases h with | cons h t => cases t; exact ⟨_, rfl, h⟩
theorem rws2 {K : PySem.W.Frag} {mg : Str → Option Value} {H : Hp} {N : Addr → Prop} {μ : List Addr} {vs : List V} {w u : W} (h : RWs K mg H N μ vs [w, u]) : ∃ v v', vs = [v, v'] ∧ RW K mg H N μ v w ∧ RW K mg H N μ v' u := by
  cases h with | cons h t => cases t with | cons h' t => cases t; exact ⟨_, _, rfl, h, h'⟩
/-- len -/
def gLen : GN
  | [.d (.tuple xs)], S => .ok (.d (.int xs.length)) S
  | [.d (.list xs)], S => .ok (.d (.int xs.length)) S
  | [.d (.str x)], S => if x.length ≤ LIM then .ok (.d (.int x.length)) S else .stuck
  | [.own xs], S => .ok (.d (.int xs.length)) S
  | [.scr xs], S => .ok (.d (.int xs.length)) S
  | _, _ => .stuck
theorem co_len : CallOp X EX (fun xs H Q => ∃ x n, xs = [x] ∧ LenV X.K x H n ∧ Q (.int n) H) gLen := by
  intro F σ env S H μ vs ws Q s rvs q
  unfold gLen at q
  split at q
  · obtain ⟨v, rfl, rv⟩ := rws1 rvs
    obtain ⟨a, us, rfl, ha, ta⟩ := rw_tup rv
    refine ⟨_, us.length, rfl, .inr ⟨_, ha.sq, rfl⟩, ?_⟩
    rw [ta.length]
    exact post_here s (.d (.int _)) q
  · obtain ⟨v, rfl, rv⟩ := rws1 rvs
    obtain ⟨a, us, rfl, na, ha, ta⟩ := rw_lst rv
    refine ⟨_, us.length, rfl, .inl ⟨_, SqL.of ha, rfl⟩, ?_⟩
    rw [ta.length]
    exact post_here s (.d (.int _)) q
  · obtain ⟨v, rfl, rv⟩ := rws1 rvs
    rw [rw_str rv]
    split at q
    · exact ⟨_, _, rfl, ⟨by rw [← lim_line]; assumption, rfl⟩, post_here s (.d (.int _)) q⟩
    · exact q.elim
  · obtain ⟨v, rfl, rv⟩ := rws1 rvs
    cases rv with
    | @own _ us _ ha ta =>
      refine ⟨_, us.length, rfl, .inl ⟨_, SqL.of ha, rfl⟩, ?_⟩
      rw [ta.length]
      exact post_here s (.d (.int _)) q
  · obtain ⟨v, rfl, rv⟩ := rws1 rvs
    cases rv with
    | scr ha =>
      refine ⟨_, _, rfl, .inl ⟨_, ha.sq, rfl⟩, ?_⟩
      rw [List.length_map]
      exact post_here s (.d (.int _)) q
  · exact q.elim
theorem me_len (hg : Gl X "len") (hm : X.mg "len" = none) (h : MA X cf EX [e] ha) (he : starEach [e] X.env = (false, eval e X.env) :: starEach [] X.env := by rfl) (hpl : (backTo pos (starEach [] X.env)).any (·.1) = false := by rfl) :
    ME X cf EX (.Call (.Name "len" p) [e] [] pos) (fB gLen ha) := me_callB call_len co_len hg hm boot_len h (he := he) (hpl := hpl)
/-- tuple(x), list(x) -/
def gTuple : GN
  | [.d (.tuple xs)], S => .ok (.d (.tuple xs)) S
  | [.d (.list xs)], S => .ok (.d (.tuple xs)) S
  | [.own xs], S => .ok (.d (.tuple xs)) S
  | _, _ => .stuck
theorem co_tuple : CallOp X EX (fun xs H Q => ∃ p ys, xs = [.ref p] ∧ ((SqL X.K H p ys ∧ ∀ l, H l = none → Q (.ref l) (upd H l (.tup ys))) ∨ (SqT X.K H p ys ∧ Q (.ref p) H))) gTuple := by
  intro F σ env S H μ vs ws Q s rvs q
  unfold gTuple at q
  split at q
  · obtain ⟨v, rfl, rv⟩ := rws1 rvs
    obtain ⟨a, us, rfl, ha, ta⟩ := rw_tup rv
    exact ⟨a, us, rfl, .inr ⟨ha.sq, post_here s rv q⟩⟩
  · obtain ⟨v, rfl, rv⟩ := rws1 rvs
    obtain ⟨a, us, rfl, na, ha, ta⟩ := rw_lst rv
    exact ⟨a, us, rfl, .inl ⟨SqL.of ha, fun l n => post_tup (α := Unit) s ta q n⟩⟩
  · obtain ⟨v, rfl, rv⟩ := rws1 rvs
    cases rv with
    | own ha ta => exact ⟨_, _, rfl, .inl ⟨SqL.of ha, fun l n => post_tup (α := Unit) s ta q n⟩⟩
  · exact q.elim
theorem me_tuple (hg : Gl X "tuple") (hm : X.mg "tuple" = none) (h : MA X cf EX [e] ha) (he : starEach [e] X.env = (false, eval e X.env) :: starEach [] X.env := by rfl) (hpl : (backTo pos (starEach [] X.env)).any (·.1) = false := by rfl) :
    ME X cf EX (.Call (.Name "tuple" p) [e] [] pos) (fB gTuple ha) := me_callTy call_tuple_of co_tuple hg hm (by decide +kernel) h (he := he) (hpl := hpl)
/-- a list of truths, of whole numbers -/
def bools : List D → Option (List Bool)
  | [] => some []
  | .bool b :: ds => (bools ds).map (b :: ·)
  | _ => none
def intsOf : List D → Option (List Int)
  | [] => some []
  | .int b :: ds => (intsOf ds).map (b :: ·)
  | _ => none
theorem bools_dn {K : PySem.W.Frag} {H : Hp} {N : Addr → Prop} : ∀ {vs : List V} {ds : List D} {bs : List Bool}, DnAll K H N vs ds → bools ds = some bs → vs = bs.map V.bl
  | _, _, _, .nil, e => by
    simp only [bools, Option.some.injEq] at e
    subst e
    rfl
  | _, _, _, .cons (ds := ds) (.bl b) t, e => by
    cases q : bools ds with
    | none => simp [bools, q] at e
    | some r =>
      simp only [bools, q, Option.map_some, Option.some.injEq] at e
      subst e
      rw [List.map_cons, ← bools_dn t q]
  | _, _, _, .cons .non _, e => by simp [bools] at e
  | _, _, _, .cons (.int _) _, e => by simp [bools] at e
  | _, _, _, .cons (.str _) _, e => by simp [bools] at e
  | _, _, _, .cons (.lst _ _) _, e => by simp [bools] at e
  | _, _, _, .cons (.tup _ _) _, e => by simp [bools] at e
  | _, _, _, .cons (.dic _ _ _) _, e => by simp [bools] at e
theorem ints_dn {K : PySem.W.Frag} {H : Hp} {N : Addr → Prop} : ∀ {vs : List V} {ds : List D} {bs : List Int}, DnAll K H N vs ds → intsOf ds = some bs → vs = bs.map V.int
  | _, _, _, .nil, e => by
    simp only [intsOf, Option.some.injEq] at e
    subst e
    rfl
  | _, _, _, .cons (ds := ds) (.int b) t, e => by
    cases q : intsOf ds with
    | none => simp [intsOf, q] at e
    | some r =>
      simp only [intsOf, q, Option.map_some, Option.some.injEq] at e
      subst e
      rw [List.map_cons, ← ints_dn t q]
  | _, _, _, .cons .non _, e => by simp [intsOf] at e
  | _, _, _, .cons (.bl _) _, e => by simp [intsOf] at e
  | _, _, _, .cons (.str _) _, e => by simp [intsOf] at e
  | _, _, _, .cons (.lst _ _) _, e => by simp [intsOf] at e
  | _, _, _, .cons (.tup _ _) _, e => by simp [intsOf] at e
  | _, _, _, .cons (.dic _ _ _) _, e => by simp [intsOf] at e
theorem ints_all {K : PySem.W.Frag} {H : Hp} {N : Addr → Prop} : ∀ (is : List Int), DnAll K H N (is.map V.int) (is.map PyData.int)
  | [] => .nil
  | i :: is => .cons (.int i) (ints_all is)
def gAll : GN
  | [.d (.list xs)], S => match bools xs with | some bs => .ok (.d (.bool (bs.all id))) S | none => .stuck
  | _, _ => .stuck
def gAny : GN
  | [.d (.list xs)], S => match bools xs with | some bs => .ok (.d (.bool (bs.any id))) S | none => .stuck
  | _, _ => .stuck
theorem co_all : CallOp X EX (rAll X.K) gAll := by
  intro F σ env S H μ vs ws Q s rvs q
  unfold gAll at q
  split at q
  · obtain ⟨v, rfl, rv⟩ := rws1 rvs
    obtain ⟨a, us, rfl, na, ha, ta⟩ := rw_lst rv
    split at q
    · rename_i bs e
      have h := bools_dn ta e
      subst h
      exact ⟨a, bs, rfl, SqL.of ha, post_here s (.d (.bl _)) q⟩
    · exact q.elim
  · exact q.elim
theorem co_any : CallOp X EX (rAny X.K) gAny := by
  intro F σ env S H μ vs ws Q s rvs q
  unfold gAny at q
  split at q
  · obtain ⟨v, rfl, rv⟩ := rws1 rvs
    obtain ⟨a, us, rfl, na, ha, ta⟩ := rw_lst rv
    split at q
    · rename_i bs e
      have h := bools_dn ta e
      subst h
      exact ⟨a, bs, rfl, SqL.of ha, post_here s (.d (.bl _)) q⟩
    · exact q.elim
  · exact q.elim
theorem me_all (hc : X.calm = true) (hg : Gl X "all") (hm : X.mg "all" = none) (h : MA X cf EX [e] ha) (he : starEach [e] X.env = (false, eval e X.env) :: starEach [] X.env := by rfl) (hpl : (backTo pos (starEach [] X.env)).any (·.1) = false := by rfl) :
    ME X cf EX (.Call (.Name "all" p) [e] [] pos) (fB gAll ha) := me_callB (cr_all hc) co_all hg hm (by decide +kernel) h (he := he) (hpl := hpl)
theorem me_any (hc : X.calm = true) (hg : Gl X "any") (hm : X.mg "any" = none) (h : MA X cf EX [e] ha) (he : starEach [e] X.env = (false, eval e X.env) :: starEach [] X.env := by rfl) (hpl : (backTo pos (starEach [] X.env)).any (·.1) = false := by rfl) :
    ME X cf EX (.Call (.Name "any" p) [e] [] pos) (fB gAny ha) := me_callB (cr_any hc) co_any hg hm (by decide +kernel) h (he := he) (hpl := hpl)
/-- max, min of two numbers; abs; int of a truth or a number -/
def gMax2 : GN
  | [.d (.int i), .d (.int j)], S => .ok (.d (.int (if j > i then j else i))) S
  | _, _ => .stuck
def gMin2 : GN
  | [.d (.int i), .d (.int j)], S => .ok (.d (.int (if j < i then j else i))) S
  | _, _ => .stuck
def gAbs : GN
  | [.d (.int i)], S => .ok (.d (.int (if i < 0 then -i else i))) S
  | _, _ => .stuck
theorem co_max2 : CallOp X EX (fun xs H Q => ∃ i j, xs = [.int i, .int j] ∧ Q (.int (if j > i then j else i)) H) gMax2 := by
  intro F σ env S H μ vs ws Q s rvs q
  unfold gMax2 at q
  split at q
  · obtain ⟨v, v', rfl, r1, r2⟩ := rws2 rvs
    rw [rw_int r1, rw_int r2]
    exact ⟨_, _, rfl, post_here s (.d (.int _)) q⟩
  · exact q.elim
theorem co_min2 : CallOp X EX (fun xs H Q => ∃ i j, xs = [.int i, .int j] ∧ Q (.int (if j < i then j else i)) H) gMin2 := by
  intro F σ env S H μ vs ws Q s rvs q
  unfold gMin2 at q
  split at q
  · obtain ⟨v, v', rfl, r1, r2⟩ := rws2 rvs
    rw [rw_int r1, rw_int r2]
    exact ⟨_, _, rfl, post_here s (.d (.int _)) q⟩
  · exact q.elim
theorem co_abs : CallOp X EX (fun xs H Q => ∃ i, xs = [.int i] ∧ Q (.int (if i < 0 then -i else i)) H) gAbs := by
  intro F σ env S H μ vs ws Q s rvs q
  unfold gAbs at q
  split at q
  · obtain ⟨v, rfl, r1⟩ := rws1 rvs
    rw [rw_int r1]
    exact ⟨_, rfl, post_here s (.d (.int _)) q⟩
  · exact q.elim
theorem me_max2 (hc : X.calm = true) (hg : Gl X "max") (hm : X.mg "max" = none) (h : MA X cf EX (e :: es) ha) (he : starEach (e :: es) X.env = (false, eval e X.env) :: starEach es X.env := by rfl) (hpl : (backTo pos (starEach es X.env)).any (·.1) = false := by rfl) :
    ME X cf EX (.Call (.Name "max" p) (e :: es) [] pos) (fB gMax2 ha) := me_callB (call_max2 hc) co_max2 hg hm (by decide +kernel) h (he := he) (hpl := hpl)
theorem me_min2 (hc : X.calm = true) (hg : Gl X "min") (hm : X.mg "min" = none) (h : MA X cf EX (e :: es) ha) (he : starEach (e :: es) X.env = (false, eval e X.env) :: starEach es X.env := by rfl) (hpl : (backTo pos (starEach es X.env)).any (·.1) = false := by rfl) :
    ME X cf EX (.Call (.Name "min" p) (e :: es) [] pos) (fB gMin2 ha) := me_callB (call_min2 hc) co_min2 hg hm (by decide +kernel) h (he := he) (hpl := hpl)
theorem me_abs (hg : Gl X "abs") (hm : X.mg "abs" = none) (h : MA X cf EX [e] ha) (he : starEach [e] X.env = (false, eval e X.env) :: starEach [] X.env := by rfl) (hpl : (backTo pos (starEach [] X.env)).any (·.1) = false := by rfl) :
    ME X cf EX (.Call (.Name "abs" p) [e] [] pos) (fB gAbs ha) := me_callB call_abs co_abs hg hm (by decide +kernel) h (he := he) (hpl := hpl)
end
end Q

namespace Q
open PySem PySem.Spec PyProof.Rows L2

section
variable {K : PySem.W.Frag} {mg : Str → Option Value} {H : Hp} {N N' : Addr → Prop} {μ : List Addr}
end

structure ExR (H : Hp) (μ : List Addr) (H' : Hp) (μ' : List Addr) : Prop where
  keep : Keep (· ∈ μ) H (· ∈ μ') H'
  pre : μ <+: μ'
def PostR (K : PySem.W.Frag) (mg : Str → Option Value) (F : Addr → Prop) (H : Hp) (μ : List Addr) (r : R W) (Q : VK) (E : XK) : Prop :=
  match r with
  | .ok w S' => ∀ v H' μ', SimR K mg F H' S' μ' → ExR H μ H' μ' → RW K mg H' (NR F μ') μ' v w → Q v H'
  | .exc c S' => ∀ C H' μ', mg (Str.ofString c) = some (.ref C) → SimR K mg F H' S' μ' → ExR H μ H' μ' → E (.ref C) none H'
  | .stuck => False
def SpQ (K : PySem.W.Frag) (mg : Str → Option Value) (cf : CF) (x : String) (n : Nat) : Sp := fun vs H Q E => vs.length = n ∧ ∃ ws S μ F, SimR K mg F H S μ ∧ RWs K mg H (NR F μ) μ vs ws ∧ W.plains ws = true ∧ PostR K mg F H μ (cf x ws S) Q E
/-- a def of the text -/
structure FnQ (P : Program) (w : World) (K : PySem.W.Frag) (mg : Str → Option Value) (base : Heap) (cf : CF) (k : Nat) (x : String) (n : Nat) : Prop where
  ex : ∃ f fd ps, FnG P w K mg base (L2.CX P w) k f fd ps (SpQ K mg cf x n) ∧ mg (Str.ofString x) = some (.ref f) ∧ PySem.W.keepIn K (.ref f) = true ∧ Binds K fd ps [] ∧ ps.length = n
section
variable {X : Cx} {cf : CF} {EX : WX} {F : Addr → Prop} {σ : L2.St} {env : EnvQ} {S S' : Sto} {H H' : Hp} {μ μ' : List Addr} {K : PySem.W.Frag} {mg : Str → Option Value}
/-- to a callee: its F is what this def may change, and what its callers may -/
theorem Sim.toR (s : Sim K mg F σ H env S μ) : SimR K mg (fun a => (∃ i, OwnAt σ env i a) ∨ F a) H S μ where
  st := s.st.sub fun a h => h.elim (fun h => .inl (.inl h)) fun h => h.elim (fun h => .inl (.inr h)) .inr
  ftr := fun a h => h.elim (fun h => s.tracked (.inl (.inr h))) fun h => s.ftr a h
  fdis := fun a h m => h.elim (fun ⟨i, h⟩ => s.apart i a h m) fun h => s.fdis a h (.inl m)
theorem nr_sub : ∀ a, NR (fun a => (∃ i, OwnAt σ env i a) ∨ F a) μ a → NN F μ σ env a := fun a h => h.elim (fun h => .inl (.inl h)) fun h => h.elim (fun h => .inl (.inr h)) .inr
theorem nr_sup : ∀ a, NN F μ σ env a → NR (fun a => (∃ i, OwnAt σ env i a) ∨ F a) μ a := fun a h => h.elim (fun h => h.elim .inl fun h => .inr (.inl h)) fun h => .inr (.inr h)
/-- back from a callee -/
theorem Sim.back (s : Sim K mg F σ H env S μ) (r : SimR K mg (fun a => (∃ i, OwnAt σ env i a) ∨ F a) H' S' μ') (x : ExR H μ H' μ') : Sim K mg F σ H' env S' μ' ∧ Ext σ env H μ H' μ' := by
  have ow : ∀ i a, OwnAt σ env i a → a ∉ μ' := fun i a h => r.fdis a (.inl ⟨i, h⟩)
  have kp : Keep (MM μ σ env) H (MM μ' σ env) H' := fun a o n e => by
    obtain ⟨e', n'⟩ := x.keep a o (fun m => n (.inl m)) e
    exact ⟨e', fun h => h.elim n' fun h => n (.inr h)⟩
  have ex : Ext σ env H μ H' μ' := ⟨kp, x.pre⟩
  refine ⟨⟨s.len, fun i w e => ?_, s.fin, s.inj, ow, r.st.sub nr_sup, fun a f => r.ftr a (.inr f), fun a f h => h.elim (r.fdis a (.inr f)) fun h => s.fdis a f (.inr h)⟩, ex⟩
  obtain ⟨v, hv, rw'⟩ := s.slot i w e
  refine ⟨v, hv, ?_⟩
  have fi := s.fin i w e
  by_cases po : w.isOwn = true
  · obtain ⟨a, o, rfl, ha, ta⟩ := own_or_plain rw' po
    have o1 : OwnAt σ env i a := ⟨hv, _, e, po⟩
    exact (ta.keep (ex.nn F)).rw (x.keep a _ (s.apart i a o1) ha).1
  · have pl : w.plain = true := by
      unfold W.fine at fi
      simpa [po] using fi
    exact RW.keep (ex.nn F) x.pre rw' pl
end
section
variable {X : Cx} {cf : CF} {EX : WX} {e a b c : Expr} {es : List Expr} {fa fb fc : SE} {ha hb : SA} {pos p : Pos} {x : String} {k n : Nat}
theorem post_R {F : Addr → Prop} {σ : L2.St} {env : EnvQ} {S : Sto} {H : Hp} {μ : List Addr} {r : R W} {Q : VK} (s : Sim X.K X.mg F σ H env S μ)
    (q : Post X.K X.mg EX F σ env H μ r fun w _ H' μ' => ∀ v, RW X.K X.mg H' (NN F μ' σ env) μ' v w → Q v H') : PostR X.K X.mg (fun a => (∃ i, OwnAt σ env i a) ∨ F a) H μ r Q (WE EX σ) := by
  cases r with
  | ok w S' =>
    intro v H' μ' r x rv
    obtain ⟨s', x'⟩ := s.back r x
    exact q H' μ' s' x' v (RW.sub nr_sup rv)
  | exc c S' =>
    intro C H' μ' g r x
    obtain ⟨s', x'⟩ := s.back r x
    exact q C H' μ' g s' x'
  | stuck => exact q
def arity (n : Nat) (ws : List W) (r : R W) : R W := if ws.length = n ∧ W.plains ws = true then r else .stuck
def fCallN (x : String) (n : Nat) (a : SA) : SE := fun cf env S => (a cf env S).bind fun ws S1 => arity n ws (cf x ws S1)
theorem me_call (G : FnQ X.prog X.w X.K X.mg X.base cf k x n) (hA : X.A.guards = some []) (hr : Room k X.A) (tk : Takes X EX) (hg : Gl X (Str.ofString x)) (h : MA X cf EX (e :: es) ha) (hdb : (Str.ofString x == ("__debug__" : Str)) = false := by decide)
    (he : starEach (e :: es) X.env = (false, eval e X.env) :: starEach es X.env := by rfl) (hpl : (backTo pos (starEach es X.env)).any (·.1) = false := by rfl) : ME X cf EX (.Call (.Name (Str.ofString x) p) (e :: es) [] pos) (fCallN x n ha) := by
  obtain ⟨f, fd, ps, G1, G2, G3, G4, G5⟩ := G.ex
  refine PE.weak (pe_callG G1 hA hr hg G2 G3 G4 tk h hdb he hpl) fun σ H Q ⟨env, S, μ, F, s, q⟩ => ⟨env, S, μ, F, s, (Post.bind q).mono fun ws S1 H1 μ1 s1 x1 q1 vs rvs => ?_⟩
  unfold arity at q1
  split at q1
  · rename_i c
    exact ⟨by rw [rvs.length]; exact c.1, ws, S1, μ1, _, s1.toR, RWs.sub nr_sub rvs, c.2, post_R s1 q1⟩
  · exact q1.elim
def fCall0 (x : String) : SE := fun cf env S => cf x [] S
theorem IxR.or {r r' : R2} (h : IxR X r) (h' : IxR X r') : IxR X (fun x y H Q => r x y H Q ∨ r' x y H Q) := by
  intro value slice pins s σ H x y v u Q I rx ry q hs
  rcases q with q | q
  · exact h value slice pins s σ H x y v u Q I rx ry q hs
  · exact h' value slice pins s σ H x y v u Q I rx ry q hs
def gAt : G2
  | .d (.tuple xs), .d (.int i), S => match atI xs i with | some x => .ok (.d x) S | none => .stuck
  | .d (.list xs), .d (.int i), S => match atI xs i with | some x => .ok (.d x) S | none => .stuck
  | .d (.str x), .d (.int i), S => if x.length ≤ LIM then (match atI x.cps.toList i with | some c => .ok (.d (.str ⟨#[c]⟩)) S | none => .stuck) else .stuck
  | .tw xs, .d (.int i), S => if W.plains xs then (match atI xs i with | some x => .ok x S | none => .stuck) else .stuck
  | .ref n, .d (.int i), S => match S[n]? with
    | some (.lst xs) => (match atI xs i with | some x => .ok (.d x) S | none => .stuck)
    | _ => .stuck
  | .scr xs, .d (.int i), S => match atI xs i with | some x => .ok (.d (.int x)) S | none => .stuck
  | .own xs, .d (.int i), S => match atI xs i with | some x => .ok (.d x) S | none => .stuck
  | _, _, _ => .stuck
theorem qat_get {α β : Type} {xs : List α} {ys : List β} {i : Int} {y : β} (hl : xs.length = ys.length) (h : atI ys i = some y) : ∃ j : Nat, ys[j]? = some y ∧ ∀ x, xs[j]? = some x → atI xs i = some x := by
  unfold atI at h ⊢
  rw [hl]
  cases e : ixN ys.length i with
  | none => rw [e] at h; cases h
  | some j =>
    rw [e] at h
    exact ⟨j, h, fun x hx => hx⟩
theorem atI_dn {K : PySem.W.Frag} {H : Hp} {N : Addr → Prop} {vs : List V} {ds : List D} {i : Int} {d : D} (t : DnAll K H N vs ds) (h : atI ds i = some d) : ∃ v, atI vs i = some v ∧ Dn K H N v d := by
  obtain ⟨j, hj, f⟩ := qat_get t.length h
  obtain ⟨v, hv, r⟩ := t.get hj
  exact ⟨v, f v hv, r⟩
theorem RWs.get {K : PySem.W.Frag} {mg : Str → Option Value} {H : Hp} {N : Addr → Prop} {μ : List Addr} : ∀ {vs : List V} {ws : List W} {i : Nat} {w : W}, RWs K mg H N μ vs ws → ws[i]? = some w → ∃ v, vs[i]? = some v ∧ RW K mg H N μ v w
  | _, _, _, _, .nil, e => by simp at e
  | _, _, 0, _, .cons h _, e => by simp at e; subst e; exact ⟨_, rfl, h⟩
  | _, _, i + 1, w, .cons _ t, e => by
    obtain ⟨v, h1, h2⟩ := RWs.get (i := i) (w := w) t (by simpa using e)
    exact ⟨v, by simpa using h1, h2⟩
theorem o_at : ∀ (F : Addr → Prop) (σ : L2.St) (env : EnvQ) (S : Sto) (H : Hp) (μ : List Addr) (x y : V) (w u : W) (Q : VK), Sim X.K X.mg F σ H env S μ → RW X.K X.mg H (NN F μ σ env) μ x w → RW X.K X.mg H (NN F μ σ env) μ y u →
    Post X.K X.mg EX F σ env H μ (gAt w u S) (fun w _ H' μ' => ∀ v, RW X.K X.mg H' (NN F μ' σ env) μ' v w → Q v H') → rIxL X.K x y H Q ∨ rIxT X.K x y H Q ∨ rIxS x y H Q := by
  intro F σ env S H μ x y w u Q s rx ry q
  unfold gAt at q
  split at q
  · obtain ⟨a, vs, rfl, ha, ta⟩ := rw_tup rx
    rw [rw_int ry]
    split at q
    · rename_i e
      obtain ⟨v, hv, r⟩ := atI_dn ta e
      exact .inr (.inl ⟨a, vs, _, v, rfl, rfl, ha.sq, hv, post_here s (.d r) q⟩)
    · exact q.elim
  · obtain ⟨a, vs, rfl, na, ha, ta⟩ := rw_lst rx
    rw [rw_int ry]
    split at q
    · rename_i e
      obtain ⟨v, hv, r⟩ := atI_dn ta e
      exact .inl ⟨a, vs, _, v, rfl, rfl, SqL.of ha, hv, post_here s (.d r) q⟩
    · exact q.elim
  · rw [rw_str rx, rw_int ry]
    split at q
    · split at q
      · rename_i e
        exact .inr (.inr ⟨_, _, _, rfl, rfl, by rw [← lim_line]; assumption, e, post_here s (.d (.str _)) q⟩)
      · exact q.elim
    · exact q.elim
  · rw [rw_int ry]
    split at q
    · split at q
      · rename_i e
        cases rx with
        | tw n e1 t =>
          obtain ⟨j, hj, f⟩ := qat_get t.length e
          obtain ⟨v, hv, r⟩ := t.get hj
          exact .inr (.inl ⟨_, _, _, v, rfl, rfl, SqT.of e1, f v hv, post_here s r q⟩)
      · exact q.elim
    · exact q.elim
  · rw [rw_int ry]
    split at q
    · rename_i hS
      split at q
      · rename_i e
        cases rx with
        | ref hn =>
          obtain ⟨a, ha, ro⟩ := s.st.obj _ _ hS
          rw [hn] at ha
          cases ha
          cases ro with
          | lst h t =>
            obtain ⟨v, hv, r⟩ := atI_dn t e
            exact .inl ⟨_, _, _, v, rfl, rfl, SqL.of h, hv, post_here s (.d r) q⟩
      · exact q.elim
    · exact q.elim
  · rw [rw_int ry]
    split at q
    · rename_i xs i S' z e
      cases rx with
      | scr h =>
        obtain ⟨j, hj, f⟩ := qat_get (xs := xs.map V.int) (by simp) e
        exact .inl ⟨_, _, _, _, rfl, rfl, h.sq, f (.int z) (by simp [hj]), post_here s (.d (.int z)) q⟩
    · exact q.elim
  · rw [rw_int ry]
    split at q
    · rename_i e
      cases rx with
      | own h t =>
        obtain ⟨v, hv, r⟩ := atI_dn t e
        exact .inl ⟨_, _, _, v, rfl, rfl, SqL.of h, hv, post_here s (.d r) q⟩
    · exact q.elim
  · exact q.elim
/-- o[i], i by itself without one's own -/
def fAt (a b : SE) : SE := fun cf env S => (a cf env S).bind fun x S1 => if x.plain then (b cf env S1).bind fun y S2 => gAt x y S2 else .stuck
theorem me_at (h1 : ME X cf EX a fa) (h2 : ME X cf EX b fb) (hs : PlainIx b := by exact fun _ _ => rfl) : ME X cf EX (.Subscript a b pos) (fAt fa fb) := by
  refine PE.weak (pe_ix (IxR.or ix_list (IxR.or ix_tup ix_str)) h1 h2 hs) fun σ H Q ⟨env, S, μ, F, s, q⟩ => ⟨env, S, μ, F, s, (Post.bind q).mono fun w S1 H1 μ1 s1 x1 q1 v rv => ?_⟩
  split at q1
  · rename_i pw
    exact ⟨env, S1, μ1, F, s1, (Post.bind q1).mono fun u S2 H2 μ2 s2 x2 q2 v2 rv2 => o_at F σ env S2 H2 μ2 v v2 w u Q s2 (RW.keep (x2.nn F) x2.pre rv pw) rv2 q2⟩
  · exact q1.elim
/-- one's own list, told -/
def fOwn (i : Nat) : SE := fun _ env S => match env[i]? with
  | some (some (.own xs)) => .ok (.own xs) S
  | some (some (.ownd xs)) => .ok (.ownd xs) S
  | _ => .stuck
theorem me_own {i : Nat} {x : Str} (h : PE X (.Name x pos) (tVar i)) : ME X cf EX (.Name x pos) (fOwn i) :=
  PE.weak h fun σ H Q ⟨env, S, μ, F, s, q⟩ => by
    unfold fOwn at q
    split at q
    · rename_i e
      obtain ⟨v, hv, r⟩ := s.slot i _ e
      exact ⟨v, hv, q H μ s (Ext.refl _ _ _ _) v r⟩
    · rename_i e
      obtain ⟨v, hv, r⟩ := s.slot i _ e
      exact ⟨v, hv, q H μ s (Ext.refl _ _ _ _) v r⟩
    · exact q.elim
/-- found[i] of one's own list, i a constant or a variable (so that nothing comes between) -/
def fAtOwn (i : Nat) (b : SE) : SE := fun cf env S => match env[i]? with
  | some (some (.own xs)) => (b cf env S).bind fun y S2 => gAt (.own xs) y S2
  | _ => .stuck
/-- one argument, one's own too -/
def aOne (a : SE) : SA := fun cf env S => (a cf env S).bind fun x S1 => .ok [x] S1
theorem ma_one (h1 : ME X cf EX e fa) (hs : starEach (e :: []) X.env = (false, eval e X.env) :: starEach [] X.env := by rfl) : MA X cf EX [e] (aOne fa) :=
  PA.weak (pa_cons h1 pa_nil hs) fun σ H Q ⟨env, S, μ, F, s, q⟩ => ⟨env, S, μ, F, s, (Post.bind q).mono fun w S1 H1 μ1 s1 x1 q1 v rv => q1 H1 μ1 s1 (Ext.refl _ _ _ _) _ (.cons rv .nil)⟩
/-- slices -/
def cutD {α : Type} (xs : List α) (lo hi : Option Int) : List α := (xs.drop (HT.sIx xs.length 0 lo)).take (HT.sIx xs.length xs.length hi - HT.sIx xs.length 0 lo)
theorem cut_dn {K : PySem.W.Frag} {H : Hp} {N : Addr → Prop} {vs : List V} {ds : List D} {lo hi : Option Int} (t : DnAll K H N vs ds) : DnAll K H N (cutV vs lo hi) (cutD ds lo hi) := by
  unfold cutV cutD
  rw [t.length]
  exact (t.drop _).take _
def gSlice (w : W) (lo hi : Option Int) (S : Sto) : R W := match w with
  | .d (.tuple xs) => .ok (.d (.tuple (cutD xs lo hi))) S
  | .d (.list xs) => .ok (.d (.list (cutD xs lo hi))) S
  | .d (.str x) => if x.length ≤ LIM then .ok (.d (.str (cutS x lo hi))) S else .stuck
  | .scr xs => .ok (.d (.list ((cutD xs lo hi).map PyData.int))) S
  | _ => .stuck
abbrev SO := CF → EnvQ → Sto → R (Option Int)
def oNone : SO := fun _ _ S => .ok none S
def oSome (a : SE) : SO := fun cf env S => (a cf env S).bind fun x S1 => match x with
  | .d (.int i) => .ok (some i) S1
  | _ => .stuck
def fSl (a : SE) (lo hi : SO) : SE := fun cf env S => (a cf env S).bind fun x S1 => if x.plain then (lo cf env S1).bind fun l S2 => (hi cf env S2).bind fun u S3 => gSlice x l u S3 else .stuck
def tO (K : PySem.W.Frag) (mg : Str → Option Value) (cf : CF) (EX : WX) (f : SO) : TO := fun σ H Q => ∃ env S μ F, Sim K mg F σ H env S μ ∧ Post K mg EX F σ env H μ (f cf env S) fun b _ H' _ => Q b H'
def MO (X : Cx) (cf : CF) (EX : WX) (e : Option Expr) (f : SO) : Prop := PO X e (tO X.K X.mg cf EX f)
theorem PO.weak {X : Cx} {e : Option Expr} {t t' : TO} (h : PO X e t) (w : ∀ σ H Q, t' σ H Q → t σ H Q) : PO X e t' := ⟨fun pins s σ H Q I q => h.run pins s σ H Q I (w σ H Q q)⟩
theorem mo_none : MO X cf EX none oNone := PO.weak po_none fun σ H Q ⟨env, S, μ, F, s, q⟩ => q H μ s (Ext.refl _ _ _ _)
theorem mo_some (h : ME X cf EX e fa) : MO X cf EX (some e) (oSome fa) := PO.weak (po_some h) fun σ H Q ⟨env, S, μ, F, s, q⟩ => ⟨env, S, μ, F, s, (Post.bind q).mono fun w S1 H1 μ1 s1 x1 q1 v rv => by
  split at q1
  · exact ⟨_, rw_int rv, q1 H1 μ1 s1 (Ext.refl _ _ _ _)⟩
  · exact q1.elim⟩
theorem cut_map {xs : List Int} {lo hi : Option Int} : cutV (xs.map V.int) lo hi = (cutD xs lo hi).map V.int := by
  unfold cutV cutD
  rw [List.length_map, List.map_take, List.map_drop]
theorem whole_cut {α : Type} {xs : List α} {lo hi : Option Int} (h : HT.sIx xs.length 0 lo = 0 ∧ HT.sIx xs.length xs.length hi = xs.length) : cutD xs lo hi = xs := by
  unfold cutD
  rw [h.1, h.2]
  simp
theorem me_slice {l u : Option Expr} {fl fu : SO} {p2 : Pos} (h : ME X cf EX a fa) (hl : MO X cf EX l fl) (hu : MO X cf EX u fu) : ME X cf EX (.Subscript a (.Slice l u none p2) pos) (fSl fa fl fu) := by
  refine PE.weak (pe_slice (SlR.or sl_list (SlR.or sl_tupA sl_str)) h hl hu) fun σ H Q ⟨env, S, μ, F, s, q⟩ => ⟨env, S, μ, F, s, (Post.bind q).mono fun w S1 H1 μ1 s1 x1 q1 v rv => ?_⟩
  split at q1
  · rename_i pw
    refine ⟨env, S1, μ1, F, s1, (Post.bind q1).mono fun lo S2 H2 μ2 s2 x2 q2 => ⟨env, S2, μ2, F, s2, (Post.bind q2).mono fun hi S3 H3 μ3 s3 x3 q3 => ?_⟩⟩
    have rv' : RW X.K X.mg H3 (NN F μ3 σ env) μ3 v w := RW.keep ((x2.nn F).trans (x3.nn F)) (List.IsPrefix.trans x2.pre x3.pre) rv pw
    unfold gSlice at q3
    split at q3
    · obtain ⟨t, vs, rfl, ht, tt⟩ := rw_tup rv'
      refine .inr (.inl ⟨t, vs, rfl, ht.sq, fun z => ?_, fun _ p n => post_tup (α := Unit) s3 (cut_dn tt) q3 n⟩)
      rw [tt.length] at z
      rw [whole_cut z] at q3
      exact post_here s3 rv' q3
    · obtain ⟨t, vs, rfl, nt, ht, tt⟩ := rw_lst rv'
      exact .inl ⟨t, vs, rfl, SqL.of ht, fun p n => post_lst s3 (cut_dn tt) q3 n⟩
    · rw [rw_str rv']
      split at q3
      · rename_i h
        exact .inr (.inr ⟨_, rfl, by rw [← lim_line]; exact h, post_here s3 (.d (.str _)) q3⟩)
      · exact q3.elim
    · cases rv' with
      | scr h =>
        refine .inl ⟨_, _, rfl, h.sq, fun p n => ?_⟩
        rw [cut_map]
        exact post_lst s3 (ints_all _) q3 n
    · exact q3.elim
  · exact q1.elim

theorem dn_ty {K : PySem.W.Frag} {H : Hp} {N : Addr → Prop} {v : V} {d : D} (h : Dn K H N v d) : TyX K H v (.type (tyName d)) := by
  cases h with
  | non => exact .base .non
  | bl b => exact .base (.bl b)
  | int i => exact .base (.int i)
  | str x => exact .base (.str x)
  | lst h t => exact .base (.lst h.2)
  | tup h t =>
    rcases h with ⟨_, h | ⟨o, h⟩⟩ | h
    · exact .base (.tup h)
    · exact .fTuple h
    · rcases h with (h | ⟨_, h⟩) | ⟨o, its, n, ho, hc, _⟩
      · cases h
      · cases h
      · exact .kTuple ho hc
  | dic n h f => exact .fDict h
theorem kit_all : ∀ a ∈ ["NoneType", "bool", "int", "str", "list", "tuple", "dict"], ∀ T ∈ ["int", "bool", "str", "tuple", "list", "dict"], kitB a T = some (a == T || (a == "bool" && T == "int")) := by decide +kernel
theorem kit_isTy {T : String} (hT : T ∈ ["int", "bool", "str", "tuple", "list", "dict"]) (d : D) : kitB (tyName d) T = some (isTy T d) := kit_all _ (by cases d <;> simp [tyName]) T hT
theorem me_isi {T : String} {q : Pos} (hT : T ∈ ["int", "bool", "str", "tuple", "list", "dict"] := by decide) (hg : Gl X "isinstance") (hm : X.mg "isinstance" = none) (h1 : ME X cf EX e fa) (h2 : PE X (.Name (Str.ofString T) q) (tC (.ty T)))
    (he : starEach [e, .Name (Str.ofString T) q] X.env = (false, eval e X.env) :: starEach [.Name (Str.ofString T) q] X.env := by rfl) (he2 : starEach [.Name (Str.ofString T) q] X.env = (false, eval (.Name (Str.ofString T) q) X.env) :: starEach [] X.env := by rfl)
    (hpl : (backTo pos (starEach [.Name (Str.ofString T) q] X.env)).any (·.1) = false := by rfl) : ME X cf EX (.Call (.Name "isinstance" p) [e, .Name (Str.ofString T) q] [] pos) (fIsI T fa) :=
  PE.weak (pe_callB call_isi hg hm (by decide +kernel) (pa_cons h1 (pa_cons h2 pa_nil he2) he) (he := he) (hpl := hpl)) fun σ H Q ⟨env, S, μ, F, s, q⟩ => ⟨env, S, μ, F, s, (Post.bind q).mono fun w S1 H1 μ1 s1 x1 q1 v rv => by
    split at q1
    · cases rv with
      | d h => exact ⟨v, .ty T, _, _, _, rfl, .ty T, dn_ty h, kit_ty (kit_isTy hT _), post_here s1 (.d (.bl _)) q1⟩
    · exact q1.elim⟩
end
end Q

namespace Q
open PySem PySem.Spec PyProof.Rows L2

@[simp] theorem R.then_ok {α : Type} (a : α) (S : Sto) (env : EnvQ) (f : α → Sto → RS) : (R.ok a S).then env f = f a S := rfl
@[simp] theorem R.then_exc {α : Type} (c : String) (S : Sto) (env : EnvQ) (f : α → Sto → RS) : (R.exc c S : R α).then env f = .exc c env S := rfl
@[simp] theorem R.then_stuck {α : Type} (env : EnvQ) (f : α → Sto → RS) : (R.stuck : R α).then env f = .stuck := rfl
@[simp] theorem RS.seq_next (env : EnvQ) (S : Sto) (f : EnvQ → Sto → RS) : (RS.next env S).seq f = f env S := rfl
@[simp] theorem RS.seq_ret (w : W) (S : Sto) (f : EnvQ → Sto → RS) : (RS.ret w S).seq f = .ret w S := rfl
@[simp] theorem RS.seq_brk (env : EnvQ) (S : Sto) (f : EnvQ → Sto → RS) : (RS.brk env S).seq f = .brk env S := rfl
@[simp] theorem RS.seq_cont (env : EnvQ) (S : Sto) (f : EnvQ → Sto → RS) : (RS.cont env S).seq f = .cont env S := rfl
@[simp] theorem RS.seq_exc (c : String) (env : EnvQ) (S : Sto) (f : EnvQ → Sto → RS) : (RS.exc c env S).seq f = .exc c env S := rfl
@[simp] theorem RS.seq_stuck (f : EnvQ → Sto → RS) : RS.stuck.seq f = .stuck := rfl

theorem ExS.refl (σ : L2.St) (env : EnvQ) (H : Hp) (μ : List Addr) : ExS σ env H μ σ env H μ := ⟨Keep.refl _ _, List.prefix_refl _⟩
section
variable (K : PySem.W.Frag) (mg : Str → Option Value) (EX : WX)
end
section
variable {K : PySem.W.Frag} {mg : Str → Option Value} {EX : WX} {F : Addr → Prop} {σ σ' : L2.St} {env env' : EnvQ} {H H' : Hp} {S : Sto} {μ μ' : List Addr} {D D' : Ends}
/-- an expression, then a statement's rest -/
theorem PostS.expr {α : Type} {r : R α} {f : α → Sto → RS} (h : PostS K mg EX F σ env H μ (r.then env f) D) : Post K mg EX F σ env H μ r fun a S' H' μ' => PostS K mg EX F σ env H' μ' (f a S') D := by
  cases r with
  | ok a S' => exact fun H2 μ2 s2 x2 => PostS.ext h x2.s
  | exc c S' => exact fun C H2 μ2 g s2 x2 => h C σ H2 μ2 g s2 x2.s
  | stuck => exact h
end
def tS (K : PySem.W.Frag) (mg : Str → Option Value) (cf : CF) (EX : WX) (f : SS) : TS := fun D σ H => ∃ env S μ F, Sim K mg F σ H env S μ ∧ PostS K mg EX F σ env H μ (f cf env S) D
def MS (X : Cx) (cf : CF) (EX : WX) (st : Stmt) (f : SS) : Prop := PS X st (tS X.K X.mg cf EX f)
def MSs (X : Cx) (cf : CF) (EX : WX) (sts : List Stmt) (f : SS) : Prop := PSs X sts (tS X.K X.mg cf EX f)

def sNext : SS := fun _ env S => .next env S
def sSeq (a b : SS) : SS := fun cf env S => (a cf env S).seq fun env' S' => b cf env' S'
def sSet (i : Nat) (f : SE) : SS := fun cf env S => (f cf env S).then env fun w S' => if w.plain then .next (env.set i (some w)) S' else .stuck
/-- a new list of one's own -/
def sNew (i : Nat) (a : SA) : SS := fun cf env S => (a cf env S).then env fun ws S' => if ws.length ≤ LIM then (match datas ws with
  | some ds => .next (env.set i (some (.own ds))) S'
  | none => .stuck) else .stuck
def sApp (i : Nat) (f : SE) : SS := fun cf env S => match env[i]? with
  | some (some (.own xs)) => (f cf env S).then env fun w S' => match w with
    | .d x => if xs.length < LIM then .next (env.set i (some (.own (xs ++ [x])))) S' else .stuck
    | _ => .stuck
  | _ => .stuck
/-- what is one's own stands from here on -/
def sFreeze (i : Nat) : SS := fun _ env S => match env[i]? with
  | some (some (.own xs)) => .next (env.set i (some (.d (.list xs)))) S
  | _ => .stuck
def W.told : W → W
  | .own xs => .d (.list xs)
  | w => w
def sRetN : SS := fun _ _ S => .ret (.d .none) S
def sExpr (f : SE) : SS := fun cf env S => (f cf env S).then env fun _ S' => .next env S'
def sIf (c : ST) (a b : SS) : SS := fun cf env S => (c cf env S).then env fun k S' => if k = true then a cf env S' else b cf env S'
def sBreak : SS := fun _ env S => .brk env S
def sCont : SS := fun _ env S => .cont env S
def sNever : SS := fun _ _ _ => .stuck
def sRaise (c : String) : SS := fun _ env S => .exc c env S
/-- a, b = e -/
def sUnp (is : List Nat) (f : SE) : SS := fun cf env S => (f cf env S).then env fun w S' => match w with
  | .d (.tuple ds) => (match setAll is ds env with | some env' => .next env' S' | none => .stuck)
  | _ => .stuck
abbrev SI := CF → EnvQ → Sto → R (List D)
def forL (t : Tg) (body : EnvQ → Sto → RS) : List D → EnvQ → Sto → RS
  | [], env, S => .next env S
  | d :: ds, env, S => match t.set d env with
    | none => .stuck
    | some env1 => match body env1 S with
      | .next env2 S2 => forL t body ds env2 S2
      | .cont env2 S2 => forL t body ds env2 S2
      | .brk env2 S2 => .next env2 S2
      | r => r
def sFor (t : Tg) (it : SI) (body : SS) : SS := fun cf env S => (it cf env S).then env fun ds S' => forL t (body cf) ds env S'
def whileL (c : EnvQ → Sto → R Bool) (body : EnvQ → Sto → RS) : Nat → EnvQ → Sto → RS
  | 0, _, _ => .stuck
  | n + 1, env, S => (c env S).then env fun k S1 => if k = true then (match body env S1 with
      | .next env2 S2 => whileL c body n env2 S2
      | .cont env2 S2 => whileL c body n env2 S2
      | .brk env2 S2 => .next env2 S2
      | r => r) else .next env S1
/-- n: more turns than there are -/
def sWhile (n : Nat) (c : ST) (body : SS) : SS := fun cf env S => whileL (c cf) (body cf) n env S

section
variable {X : Cx} {cf : CF} {EX : WX} {F : Addr → Prop} {σ : L2.St} {env : EnvQ} {S S' : Sto} {H H' : Hp} {μ μ' : List Addr} {K : PySem.W.Frag} {mg : Str → Option Value} {st : Stmt} {sts body : List Stmt} {e c : Expr} {fa fb : SE} {gc : ST} {ha : SA} {f g : SS} {pos p : Pos} {x : Str}
theorem mss_nil : MSs X cf EX [] sNext := PSs.weak pss_nil fun D σ H ⟨env, S, μ, F, s, q⟩ => q σ H μ s (ExS.refl _ _ _ _)
theorem mss_cons (h1 : MS X cf EX st f) (h2 : MSs X cf EX sts g) : MSs X cf EX (st :: sts) (sSeq f g) := PSs.weak (pss_cons h1 h2) fun D σ H ⟨env, S, μ, F, s, q⟩ => ⟨env, S, μ, F, s, by
  have z := PostS.seq q
  generalize hr : f cf env S = r at z
  cases r with
  | next e S' => exact fun σ2 H2 μ2 s2 x2 => let ⟨e2, S2, μ3, s3, q3⟩ := z σ2 H2 μ2 s2 x2; ⟨e2, S2, μ3, F, s3, q3⟩
  | brk e S' => exact z
  | cont e S' => exact z
  | ret w S' => exact z
  | exc c e S' => exact z
  | stuck => exact z⟩
theorem mss_one (h1 : MS X cf EX st f) : MSs X cf EX [st] f := pss_one h1
/-- a word without a text -/
theorem mss_pre {f0 : SS} (h0 : ∀ cf D σ H, tS X.K X.mg cf EX f0 D σ H → D.nx σ H) (h : MSs X cf EX sts g) : MSs X cf EX sts (sSeq f0 g) := PSs.weak h fun D σ H ⟨env, S, μ, F, s, q⟩ => by
  have z := PostS.seq q
  have w := h0 cf { D with nx := fun σ' H' => ∃ env' S' μ', Sim X.K X.mg F σ' H' env' S' μ' ∧ PostS X.K X.mg EX F σ' env' H' μ' (g cf env' S') D } σ H ⟨env, S, μ, F, s, z⟩
  obtain ⟨e2, S2, μ3, s3, q3⟩ := w
  exact ⟨e2, S2, μ3, F, s3, q3⟩
theorem ms_if {a b : List Stmt} (hc : MT X cf EX c gc) (h1 : MSs X cf EX a f) (h2 : MSs X cf EX b g) : MS X cf EX (.If c a b pos) (sIf gc f g) :=
  PS.weak (ps_if hc h1 h2) fun D σ H ⟨env, S, μ, F, s, q⟩ => ⟨env, S, μ, F, s, (PostS.expr q).mono fun k S1 H1 μ1 s1 x1 q1 => by
    cases k with
    | true => rw [if_pos rfl] at q1 ⊢; exact ⟨env, S1, μ1, F, s1, q1⟩
    | false => rw [if_neg Bool.false_ne_true] at q1 ⊢; exact ⟨env, S1, μ1, F, s1, q1⟩⟩
theorem ms_expr (h : ME X cf EX e fa) (hs : swapsWith e none pos.line X.env = pure false := by rfl) : MS X cf EX (.Expr e pos) (sExpr fa) :=
  PS.weak (ps_expr h hs) fun D σ H ⟨env, S, μ, F, s, q⟩ => ⟨env, S, μ, F, s, (PostS.expr q).mono fun w S1 H1 μ1 s1 x1 q1 v rv => q1 σ H1 μ1 s1 (ExS.refl _ _ _ _)⟩
/-- the slots of one's own are no more -/
theorem Sim.leave (s : Sim K mg F σ H env S μ) : SimR K mg F H S μ ∧ Keep (MM μ σ env) H (· ∈ μ) H := ⟨⟨s.st.sub fun a h => h.elim (fun h => .inl (.inl h)) .inr, s.ftr, fun a f m => s.fdis a f (.inl m)⟩, Keep.sub fun a h => .inl h⟩
theorem rw_told {v : V} {w : W} (s : Sim K mg F σ H env S μ) (fi : w.fine = true) (ow : w.isOwn = true → ∀ a, v = .ref a → a ∉ μ ∧ ¬ F a) (r : RW K mg H (NN F μ σ env) μ v w) : RW K mg H (NR F μ) μ v w.told := by
  have sub : ∀ a, NR F μ a → NN F μ σ env a := fun a h => h.elim (fun h => .inl (.inl h)) .inr
  cases r with
  | own e t =>
    obtain ⟨n1, n2⟩ := ow rfl _ rfl
    exact .d (.lst ⟨fun h => h.elim n1 n2, e⟩ (t.keep (Keep.sub sub)))
  | ownd e t => exact .ownd e (t.keep (Keep.sub sub))
  | d t => exact RW.sub sub (.d t)
  | ref t => exact RW.sub sub (.ref t)
  | dn n e t => exact RW.sub sub (.dn n e t)
  | tw n e t => exact RW.sub sub (.tw n e t)
  | fn t => exact RW.sub sub (.fn t)
  | scr t => exact RW.sub sub (.scr t)
  | clo n e t => exact RW.sub sub (.clo n e t)
  | err => exact .err
def sRetP (f : SE) : SS := fun cf env S => (f cf env S).then env fun w S' => if w.plain then .ret w S' else .stuck
theorem ms_ret (h : ME X cf EX e fa) : MS X cf EX (.Return (some e) pos) (sRetP fa) :=
  PS.weak (ps_ret h) fun D σ H ⟨env, S, μ, F, s, q⟩ => ⟨env, S, μ, F, s, (PostS.expr q).mono fun w S1 H1 μ1 s1 x1 q1 v rv => by
    split at q1
    · obtain ⟨r, k⟩ := s1.leave
      exact q1 v H1 μ1 r k (List.prefix_refl _) (RW.sub (fun a h => h.elim (fun h => .inl (.inl h)) .inr) rv)
    · exact q1.elim⟩
def sRetO (i : Nat) : SS := fun _ env S => match env[i]? with
  | some (some (.own xs)) => .ret (.d (.list xs)) S
  | _ => .stuck
theorem ms_retO {i : Nat} {pp : Pos} (h : PE X (.Name x pp) (tVar i)) : MS X cf EX (.Return (some (.Name x pp)) pos) (sRetO i) :=
  PS.weak (ps_ret h) fun D σ H ⟨env, S, μ, F, s, q⟩ => by
    unfold sRetO at q
    split at q
    · rename_i e
      obtain ⟨v, hv, r⟩ := s.slot i _ e
      refine ⟨v, hv, ?_⟩
      obtain ⟨sr, k⟩ := s.leave
      refine q v H μ sr k (List.prefix_refl _) ?_
      refine rw_told s rfl (fun _ a ea => ?_) r
      subst ea
      have o : OwnAt σ env i a := ⟨hv, _, e, rfl⟩
      exact ⟨s.apart i a o, fun f => s.fdis a f (.inr ⟨i, o⟩)⟩
    · exact q.elim
theorem ms_set {i : Nat} {pp : Pos} (hN : X.N.Nodup) (hi : X.N[i]? = some x) (hx : Loc X.env.scope x) (h : ME X cf EX e fa) (hs : swapsWith e (some (.Name x pp)) pos.line X.env = pure false := by rfl) (hf : X.fn x = true ∨ X.env.scope.names.lookup x = some .local := by first | exact .inl rfl | exact .inr rfl | assumption) :
    MS X cf EX (.Assign [.Name x pp] e pos) (sSet i fa) :=
  PS.weak (ps_set hN hi hx h hs hf) fun D σ H ⟨env, S, μ, F, s, q⟩ => ⟨env, S, μ, F, s, (PostS.expr q).mono fun w S1 H1 μ1 s1 x1 q1 v rv => by
    split at q1
    · rename_i pw
      obtain ⟨s2, x2⟩ := s1.set pw rv
      exact q1 _ H1 μ1 s2 x2
    · exact q1.elim⟩
/-- a new list of one's own at p -/
theorem Sim.newOwnG (s : Sim K mg F σ H env S μ) {i : Nat} {p : Addr} {ob0 : HO} {w0 : W} (n : H p = none) (t : OwnR K H (NN F μ σ env) ob0 w0) (io : w0.isOwn = true) :
    Sim K mg F (σ.set i (some (.ref p))) (upd H p ob0) (env.set i (some w0)) S μ ∧ ExS σ env H μ (σ.set i (some (.ref p))) (env.set i (some w0)) (upd H p ob0) μ := by
  have ow : ∀ j a, OwnAt (σ.set i (some (.ref p))) (env.set i (some w0)) j a → (j = i ∧ a = p) ∨ (j ≠ i ∧ OwnAt σ env j a) := fun j a ⟨h1, u, h2, h3⟩ => by
    rcases set_get h2 with ⟨e, z⟩ | ⟨n, z⟩
    · rcases set_get h1 with ⟨_, y⟩ | ⟨ne, _⟩
      · cases y
        exact .inl ⟨e, rfl⟩
      · exact absurd e ne
    · rcases set_get h1 with ⟨e, _⟩ | ⟨_, y⟩
      · exact absurd e n
      · exact .inr ⟨n, y, u, z, h3⟩
  have sub : ∀ a, MM μ (σ.set i (some (.ref p))) (env.set i (some w0)) a → a = p ∨ MM μ σ env a := fun a h => h.elim (fun h => .inr (.inl h)) fun ⟨j, h⟩ => (ow j a h).elim (fun h => .inl h.2) fun h => .inr (.inr ⟨j, h.2⟩)
  have np : ∀ a, NN F μ σ env a → a ≠ p := fun a h e => by
    subst e
    exact s.fresh n h
  have kp : Keep (MM μ σ env) H (MM μ (σ.set i (some (.ref p))) (env.set i (some w0))) (upd H p ob0) := fun a o na e => by
    have ne : a ≠ p := ne_of_none e n
    exact ⟨by rw [upd_ne ne]; exact e, fun h => (sub a h).elim ne na⟩
  have ex : ExS σ env H μ (σ.set i (some (.ref p))) (env.set i (some w0)) (upd H p ob0) μ := ⟨kp, List.prefix_refl _⟩
  have kn := ex.nn F
  refine ⟨⟨by simpa using s.len, fun j u e => ?_, fun j u e => ?_, fun j k a h1 h2 => ?_, fun j a h m => ?_, ⟨s.st.len, s.st.nd, fun k o e => ?_⟩, fun a f => ?_, fun a f h => ?_⟩, ex⟩
  · rcases set_get e with ⟨z, y⟩ | ⟨nj, z⟩
    · subst z
      cases y
      have hl : j < σ.length := by
        rw [s.len]
        have q := (List.getElem?_eq_some_iff.mp e).1
        simpa using q
      exact ⟨_, List.getElem?_set_self hl, (t.keep kn).rw upd_same⟩
    · obtain ⟨v', h1, h2⟩ := s.slot j u z
      refine ⟨v', by rw [List.getElem?_set_ne (Ne.symm nj)]; exact h1, ?_⟩
      by_cases po : u.isOwn = true
      · obtain ⟨a, ob, rfl, ha, ta⟩ := own_or_plain h2 po
        exact (ta.keep kn).rw (by rw [upd_ne (ne_of_none ha n)]; exact ha)
      · have pl : u.plain = true := by
          have fi := s.fin j u z
          unfold W.fine at fi
          simpa [po] using fi
        exact RW.keep kn (List.prefix_refl _) h2 pl
  · rcases set_get e with ⟨z, y⟩ | ⟨n, z⟩
    · cases y
      unfold W.fine
      rw [io, Bool.or_true]
    · exact s.fin j u z
  · rcases ow j a h1 with ⟨e1, e2⟩ | ⟨e1, e2⟩
    · rcases ow k a h2 with ⟨e3, _⟩ | ⟨_, e4⟩
      · rw [e1, e3]
      · exact absurd e2 (np a (.inl (.inr ⟨k, e4⟩)))
    · rcases ow k a h2 with ⟨_, e4⟩ | ⟨_, e4⟩
      · exact absurd e4 (np a (.inl (.inr ⟨j, e2⟩)))
      · exact s.inj j k a e2 e4
  · rcases ow j a h with ⟨_, e2⟩ | ⟨_, e2⟩
    · subst e2
      obtain ⟨u, hu⟩ := s.st.tracked m
      rw [n] at hu
      cases hu
    · exact s.apart j a e2 m
  · obtain ⟨a, ha, r⟩ := s.st.obj k o e
    refine ⟨a, ha, ?_⟩
    cases r with
    | lst h t' => exact .lst (by rw [upd_ne (ne_of_none h n)]; exact h) (t'.keep kn)
    | ins g h m t' pl => exact .ins g (by rw [upd_ne (ne_of_none h n)]; exact h) m (RWs.keep kn (List.prefix_refl _) t' pl) pl
    | dct h t' => exact .dct (by rw [upd_ne (ne_of_none h n)]; exact h) fun e he => (t' e he).keep kn
    | dcm h t' => exact .dcm (by rw [upd_ne (ne_of_none h n)]; exact h) (t'.keep kn)
    | tab h0 t' => exact .tab h0 (t'.keep (fun h => by rw [upd_ne (ne_of_none h n)]; exact h) kn)
  · obtain ⟨u, hu⟩ := s.ftr a f
    exact ⟨u, by rw [upd_ne (ne_of_none hu n)]; exact hu⟩
  · rcases sub a h with e | h
    · exact np a (.inr f) e
    · exact s.fdis a f h
theorem Sim.newOwn (s : Sim K mg F σ H env S μ) {i : Nat} {p : Addr} {vs : List V} {xs : List D} (n : H p = none) (t : DnAll K H (NN F μ σ env) vs xs) :
    Sim K mg F (σ.set i (some (.ref p))) (upd H p (.lst vs)) (env.set i (some (.own xs))) S μ ∧ ExS σ env H μ (σ.set i (some (.ref p))) (env.set i (some (.own xs))) (upd H p (.lst vs)) μ := s.newOwnG n (.lst t) rfl
theorem ms_new {i : Nat} {pp lp : Pos} {es : List Expr} (hN : X.N.Nodup) (hi : X.N[i]? = some x) (hx : Loc X.env.scope x) (h : MA X cf EX es ha) (hs : swapsWith (.List es lp) (some (.Name x pp)) pos.line X.env = pure false := by rfl) (hf : X.fn x = true ∨ X.env.scope.names.lookup x = some .local := by first | exact .inl rfl | exact .inr rfl | assumption) :
    MS X cf EX (.Assign [.Name x pp] (.List es lp) pos) (sNew i ha) :=
  PS.weak (ps_set hN hi hx (pe_lst h) hs hf) fun D σ H ⟨env, S, μ, F, s, q⟩ => ⟨env, S, μ, F, s, (PostS.expr q).mono fun ws S1 H1 μ1 s1 x1 q1 vs rvs => by
    split at q1
    · rename_i hl
      refine ⟨by rw [← lim_line, rvs.length]; exact hl, fun p n => ?_⟩
      split at q1
      · rename_i ds e
        obtain ⟨s2, x2⟩ := s1.newOwn (i := i) n (datas_dn rvs e)
        exact q1 _ _ μ1 s2 x2
      · exact q1.elim
    · exact q1.elim⟩
/-- one's own list at slot i becomes another -/
theorem Sim.chOwnG (s : Sim K mg F σ H env S μ) {i : Nat} {a : Addr} {ob0 : HO} {w0 w : W} (e : env[i]? = some (some w)) (ho : w.isOwn = true) (hv : σ[i]? = some (some (.ref a))) (t : OwnR K H (NN F μ σ env) ob0 w0) (io : w0.isOwn = true) :
    Sim K mg F σ (upd H a ob0) (env.set i (some w0)) S μ ∧ ExS σ env H μ σ (env.set i (some w0)) (upd H a ob0) μ := by
  have oa : OwnAt σ env i a := ⟨hv, w, e, ho⟩
  have hl : i < env.length := (List.getElem?_eq_some_iff.mp e).1
  have ow : ∀ j b, OwnAt σ (env.set i (some w0)) j b ↔ OwnAt σ env j b := fun j b => by
    refine ⟨fun ⟨h1, u, h2, h3⟩ => ?_, fun ⟨h1, u, h2, h3⟩ => ?_⟩
    · rcases set_get h2 with ⟨z, _⟩ | ⟨_, z⟩
      · subst z
        exact ⟨h1, w, e, ho⟩
      · exact ⟨h1, u, z, h3⟩
    · by_cases z : j = i
      · subst z
        exact ⟨h1, _, List.getElem?_set_self hl, io⟩
      · exact ⟨h1, u, by rw [List.getElem?_set_ne (Ne.symm z)]; exact h2, h3⟩
  have mm : ∀ b, MM μ σ (env.set i (some w0)) b ↔ MM μ σ env b := fun b => ⟨fun h => h.elim .inl fun ⟨j, h⟩ => .inr ⟨j, (ow j b).mp h⟩, fun h => h.elim .inl fun ⟨j, h⟩ => .inr ⟨j, (ow j b).mpr h⟩⟩
  have ma : MM μ σ env a := .inr ⟨i, oa⟩
  have kp : Keep (MM μ σ env) H (MM μ σ (env.set i (some w0))) (upd H a ob0) := fun b o nb q => by
    have ne : b ≠ a := fun z => nb (z ▸ ma)
    exact ⟨by rw [upd_ne ne]; exact q, fun h => nb ((mm b).mp h)⟩
  have ex : ExS σ env H μ σ (env.set i (some w0)) (upd H a ob0) μ := ⟨kp, List.prefix_refl _⟩
  have kn := ex.nn F
  refine ⟨⟨by simpa using s.len, fun j u q => ?_, fun j u q => ?_, fun j k b h1 h2 => s.inj j k b ((ow j b).mp h1) ((ow k b).mp h2), fun j b h => s.apart j b ((ow j b).mp h), ⟨s.st.len, s.st.nd, fun k o q => ?_⟩, fun b f => ?_, fun b f h => s.fdis b f ((mm b).mp h)⟩, ex⟩
  · rcases set_get q with ⟨z, y⟩ | ⟨nj, z⟩
    · subst z
      cases y
      exact ⟨_, hv, (t.keep kn).rw upd_same⟩
    · obtain ⟨v', h1, h2⟩ := s.slot j u z
      refine ⟨v', h1, ?_⟩
      by_cases po : u.isOwn = true
      · obtain ⟨b, ob, rfl, hb, tb⟩ := own_or_plain h2 po
        have ob' : OwnAt σ env j b := ⟨h1, _, z, po⟩
        have ne : b ≠ a := fun y => nj (s.inj j i a (y ▸ ob') oa)
        exact (tb.keep kn).rw (by rw [upd_ne ne]; exact hb)
      · have pl : u.plain = true := by
          have fi := s.fin j u z
          unfold W.fine at fi
          simpa [po] using fi
        exact RW.keep kn (List.prefix_refl _) h2 pl
  · rcases set_get q with ⟨z, y⟩ | ⟨n, z⟩
    · cases y
      unfold W.fine
      rw [io, Bool.or_true]
    · exact s.fin j u z
  · obtain ⟨b, hb, r⟩ := s.st.obj k o q
    refine ⟨b, hb, ?_⟩
    have ne : b ≠ a := fun z => s.apart i a oa (z ▸ List.mem_of_getElem? hb)
    cases r with
    | lst h t' => exact .lst (by rw [upd_ne ne]; exact h) (t'.keep kn)
    | ins g h m t' pl => exact .ins g (by rw [upd_ne ne]; exact h) m (RWs.keep kn (List.prefix_refl _) t' pl) pl
    | dct h t' => exact .dct (by rw [upd_ne ne]; exact h) fun e he => (t' e he).keep kn
    | dcm h t' => exact .dcm (by rw [upd_ne ne]; exact h) (t'.keep kn)
    | tab h0 t' => exact .tab h0 (t'.keep (fun h => by rw [upd_ne ne]; exact h) kn)
  · obtain ⟨u, hu⟩ := s.ftr b f
    have ne : b ≠ a := fun z => s.fdis b f (z ▸ ma)
    exact ⟨u, by rw [upd_ne ne]; exact hu⟩
theorem Sim.chOwn (s : Sim K mg F σ H env S μ) {i : Nat} {a : Addr} {vs : List V} {xs : List D} {w : W} (e : env[i]? = some (some w)) (ho : w.isOwn = true) (hv : σ[i]? = some (some (.ref a))) (t : DnAll K H (NN F μ σ env) vs xs) :
    Sim K mg F σ (upd H a (.lst vs)) (env.set i (some (.own xs))) S μ ∧ ExS σ env H μ σ (env.set i (some (.own xs))) (upd H a (.lst vs)) μ := s.chOwnG e ho hv (.lst t) rfl
theorem ms_app {i : Nat} {p1 p2 : Pos} (hv : PE X (.Name x p1) (tVar i)) (h : ME X cf EX e fa)
    (hbase : attributeBase (.Name x p1) "append" X.env (eval (.Name x p1) X.env) = eval (.Name x p1) X.env := by rfl)
    (hfew : ((backTo p (starEach (e :: []) X.env)).all (fun x => !x.1) && (backToKw p (keywordEach [] X.env)).all (fun x => x.1.isSome) && decide ((e :: []).length + ([] : List Keyword).length + (if ([] : List Keyword).isEmpty then 0 else 1) < 30)) = true := by rfl)
    (hline : (p2.endLine == p.line) = true := by rfl) (hst : starEach (e :: []) X.env = (false, eval e X.env) :: starEach [] X.env := by rfl) (hplain : (backTo p (starEach [] X.env)).any (·.1) = false := by rfl)
    (hs : swapsWith (.Call (.Attribute (.Name x p1) "append" p2) [e] [] p) none pos.line X.env = pure false := by rfl) :
    MS X cf EX (.Expr (.Call (.Attribute (.Name x p1) "append" p2) [e] [] p) pos) (sApp i fa) := by
  refine PS.weak (ps_expr (pe_bm PySem.F.plainAttrs_list PySem.F.slot_list_append PySem.F.type_list_append mt_append hv (pa_cons h pa_nil hst) hbase hfew hline hst hplain) hs) fun D σ H ⟨env, S, μ, F, s, q⟩ => ?_
  unfold sApp at q
  split at q
  · rename_i xs e0
    obtain ⟨v, hv0, r⟩ := s.slot i _ e0
    cases r with
    | own ha ta =>
      refine ⟨_, hv0, .inl ⟨rfl, _, SqL.of ha⟩, env, S, μ, F, s, (PostS.expr q).mono fun w S1 H1 μ1 s1 x1 q1 v rv => ?_⟩
      split at q1
      · split at q1
        · rename_i hz
          obtain ⟨v', hv1, r1⟩ := s1.slot i _ e0
          rw [hv0] at hv1
          cases hv1
          cases r1 with
          | own ha1 ta1 =>
            cases rv with
            | d rd =>
              refine ⟨_, _, v, rfl, rfl, ha1, by rw [← lim_line, ta1.length]; exact hz, ?_⟩
              obtain ⟨s2, x2⟩ := s1.chOwn (i := i) e0 rfl hv0 (ta1.append (.cons rd .nil))
              exact q1 _ _ μ1 s2 x2
        · exact q1.elim
      · exact q1.elim
  · exact q.elim
theorem Sim.freeze (s : Sim K mg F σ H env S μ) {i : Nat} {xs : List D} (e : env[i]? = some (some (.own xs))) : Sim K mg F σ H (env.set i (some (.d (.list xs)))) S μ ∧ ExS σ env H μ σ (env.set i (some (.d (.list xs)))) H μ := by
  have hl : i < env.length := (List.getElem?_eq_some_iff.mp e).1
  have ow : ∀ j a, OwnAt σ (env.set i (some (.d (.list xs)))) j a → j ≠ i ∧ OwnAt σ env j a := fun j a ⟨h1, u, h2, h3⟩ => by
    rcases set_get h2 with ⟨z, y⟩ | ⟨n, z⟩
    · cases y
      simp [W.isOwn] at h3
    · exact ⟨n, h1, u, z, h3⟩
  have sub : ∀ a, MM μ σ (env.set i (some (.d (.list xs)))) a → MM μ σ env a := fun a h => h.elim .inl fun ⟨j, h⟩ => .inr ⟨j, (ow j a h).2⟩
  have subN : ∀ a, NN F μ σ (env.set i (some (.d (.list xs)))) a → NN F μ σ env a := fun a h => h.elim (fun h => .inl (sub a h)) .inr
  refine ⟨⟨by simpa using s.len, fun j u q => ?_, fun j u q => ?_, fun j k a h1 h2 => s.inj j k a (ow j a h1).2 (ow k a h2).2, fun j a h => s.apart j a (ow j a h).2, s.st.sub subN, s.ftr, fun a f h => s.fdis a f (sub a h)⟩, Keep.sub sub, List.prefix_refl _⟩
  · rcases set_get q with ⟨z, y⟩ | ⟨n, z⟩
    · subst z
      cases y
      obtain ⟨v, hv, r⟩ := s.slot j _ e
      refine ⟨v, hv, ?_⟩
      cases r with
      | @own a _ _ ha ta =>
        have oa : OwnAt σ env j a := ⟨hv, _, e, rfl⟩
        refine .d (.lst ⟨fun h => ?_, ha⟩ (ta.keep (Keep.sub subN)))
        rcases h with (h | ⟨k, h⟩) | h
        · exact s.apart j a oa h
        · exact (ow k a h).1 (s.inj k j a (ow k a h).2 oa)
        · exact s.fdis a h (.inr ⟨j, oa⟩)
    · obtain ⟨v', h1, h2⟩ := s.slot j u z
      exact ⟨v', h1, RW.sub subN h2⟩
  · rcases set_get q with ⟨z, y⟩ | ⟨n, z⟩
    · cases y
      rfl
    · exact s.fin j u z
theorem mss_freeze {i : Nat} (h : MSs X cf EX sts g) : MSs X cf EX sts (sSeq (sFreeze i) g) := mss_pre (fun cf D σ H ⟨env, S, μ, F, s, q⟩ => by
  unfold sFreeze at q
  split at q
  · rename_i e
    obtain ⟨s2, x2⟩ := s.freeze e
    exact q σ H μ s2 x2
  · exact q.elim) h
end
end Q

namespace Q
open PySem PySem.Spec PyProof.Rows L2
section
variable {X : Cx} {cf : CF} {EX : WX} {F : Addr → Prop} {σ : L2.St} {env : EnvQ} {S S' : Sto} {H H' : Hp} {μ μ' : List Addr} {K : PySem.W.Frag} {mg : Str → Option Value} {st : Stmt} {sts body : List Stmt} {e c tg : Expr} {es : List Expr} {fa fb : SE} {gc : ST} {ha : SA} {f g : SS} {pos p : Pos} {x : Str}

/-- which slots an assignment touches -/
def Tg.slots : Tg → List Nat
  | .name i => [i]
  | .names is => is
/-- the slots but these are as they were -/
def Only1 (is : List Nat) (σ σ' : L2.St) : Prop := σ'.length = σ.length ∧ ∀ j, j ∉ is → σ'[j]? = σ[j]?
/-- a target: where a datum goes -/
def tG (K : PySem.W.Frag) (mg : Str → Option Value) (t : Tg) : TG := fun v σ H Q => ∃ F env S μ d env', Sim K mg F σ H env S μ ∧ Dn K H (NN F μ σ env) v d ∧ t.set d env = some env' ∧ ∀ σ', Sim K mg F σ' H env' S μ → ExS σ env H μ σ' env' H μ → Only1 t.slots σ σ' → Q σ' H
def tGs (K : PySem.W.Frag) (mg : Str → Option Value) (is : List Nat) : TGs := fun vs σ H Q => ∃ F env S μ ds env', Sim K mg F σ H env S μ ∧ DnAll K H (NN F μ σ env) vs ds ∧ setAll is ds env = some env' ∧ ∀ σ', Sim K mg F σ' H env' S μ → ExS σ env H μ σ' env' H μ → Only1 is σ σ' → Q σ' H
def MG (X : Cx) (tg : Expr) (t : Tg) : Prop := PG X tg (tG X.K X.mg t)
def MGs (X : Cx) (tgs : List Expr) (is : List Nat) : Prop := PGs X tgs (tGs X.K X.mg is)
theorem PG.weak {X : Cx} {tg : Expr} {t t' : TG} (h : PG X tg t) (w : ∀ v σ H Q, t' v σ H Q → t v σ H Q) : PG X tg t' := ⟨fun pins s σ H v u Q I r q => h.run pins s σ H v u Q I r (w v σ H Q q)⟩
theorem PGs.weak {X : Cx} {tgs : List Expr} {t t' : TGs} (h : PGs X tgs t) (w : ∀ vs σ H Q, t' vs σ H Q → t vs σ H Q) : PGs X tgs t' := ⟨fun pins s σ H vs us Q I r q => h.run pins s σ H vs us Q I r (w vs σ H Q q)⟩
theorem mg_name {i : Nat} (hN : X.N.Nodup) (hi : X.N[i]? = some x) (hx : Loc X.env.scope x) (hf : X.fn x = true ∨ X.env.scope.names.lookup x = some .local := by first | exact .inl rfl | exact .inr rfl | assumption) : MG X (.Name x pos) (.name i) :=
  PG.weak (pg_name hN hi hx hf) fun v σ H Q ⟨F, env, S, μ, d, env', s, r, e, q⟩ => by
    simp only [Tg.set, Option.some.injEq] at e
    subst e
    obtain ⟨s2, x2⟩ := s.set (i := i) (w := .d d) rfl (.d r)
    exact q _ s2 x2 ⟨by simp, fun j hj => by rw [List.getElem?_set_ne (fun z => hj (by simp [Tg.slots, z]))]⟩
theorem mgs_nil : MGs X [] [] := PGs.weak pgs_nil fun vs σ H Q ⟨F, env, S, μ, ds, env', s, r, e, q⟩ => by
  cases r with
  | nil =>
    simp only [setAll, Option.some.injEq] at e
    subst e
    exact ⟨rfl, q σ s (ExS.refl _ _ _ _) ⟨rfl, fun _ _ => rfl⟩⟩
  | cons _ _ => simp [setAll] at e
theorem mgs_cons {i : Nat} {is : List Nat} (h1 : MG X e (.name i)) (h2 : MGs X es is) (hs : (assignEach (e :: es) X.env).map (·.2) = assign e X.env :: (assignEach es X.env).map (·.2) := by rfl) : MGs X (e :: es) (i :: is) :=
  PGs.weak (pgs_cons h1 h2 hs) fun vs σ H Q ⟨F, env, S, μ, ds, env', s, r, e, q⟩ => by
    cases r with
    | nil => simp [setAll] at e
    | cons rv rr =>
      simp only [setAll] at e
      refine ⟨_, _, rfl, F, env, S, μ, _, _, s, rv, rfl, fun σ' s' x' o' => ?_⟩
      exact ⟨F, _, S, μ, _, env', s', rr.keep (x'.nn F), e, fun σ2 s2 x2 o2 => q σ2 s2 (x'.trans x2) ⟨o2.1.trans o'.1, fun j hj => by
        simp only [List.mem_cons, not_or] at hj
        rw [o2.2 j hj.2, o'.2 j (by simpa [Tg.slots] using hj.1)]⟩⟩
theorem setAll_len : ∀ {is : List Nat} {ds : List D} {env env' : EnvQ}, setAll is ds env = some env' → ds.length = is.length
  | [], [], _, _, _ => rfl
  | [], _ :: _, _, _, e => by simp [setAll] at e
  | _ :: _, [], _, _, e => by simp [setAll] at e
  | _ :: _, _ :: _, _, _, e => congrArg (· + 1) (setAll_len (by simpa [setAll] using e))
theorem mg_names {is : List Nat} {k : Nat} (hc : X.calm = true) (h : MGs X es is) (hn : (assignEach es X.env).length = is.length := by rfl) (hst : (assignEach es X.env).findIdx? (·.1) = none := by rfl) : MG X (.Tuple es k pos) (.names is) :=
  PG.weak (pg_tup hc h hn hst) fun v σ H Q ⟨F, env, S, μ, d, env', s, rv, e, q⟩ => by
    cases rv with
    | tup ht tt => exact ⟨_, _, rfl, ht.sq, by rw [tt.length]; exact setAll_len e, F, env, S, μ, _, env', s, tt, e, q⟩
    | _ => simp [Tg.set] at e
theorem ms_unp {is : List Nat} {k : Nat} (h1 : ME X cf EX e fa) (h2 : MG X (.Tuple es k p) (.names is)) (hs : swapsWithSole [.Tuple es k p] e pos.line X.env = pure false := by rfl) (hw : swappedStores [.Tuple es k p] e X.env = pure none := by rfl)
    (h3 : (assignEach [.Tuple es k p] X.env).map (·.2) = [assign (.Tuple es k p) X.env] := by rfl) : MS X cf EX (.Assign [.Tuple es k p] e pos) (sUnp is fa) := by
  refine PS.weak (ps_asg h1 h2 hs hw h3) fun D σ H ⟨env, S, μ, F, s, q⟩ => ⟨env, S, μ, F, s, (PostS.expr q).mono fun w S1 H1 μ1 s1 x1 q1 v rv => ?_⟩
  split at q1
  · cases rv with
    | d rd =>
      split at q1
      · rename_i env' e
        exact ⟨F, env, S1, μ1, _, env', s1, rd, by simpa [Tg.set] using e, fun σ' s' x' _ => q1 σ' H1 μ1 s' x'⟩
      · exact q1.elim
  · exact q1.elim

/-- J yields the items ds, as long as what stood stands -/
def IterOf (K : PySem.W.Frag) (J : It) (ds : List D) (N : Addr → Prop) (H : Hp) : Prop := ∀ N2 H2, Keep N H N2 H2 → (∀ a, N2 a → ∃ u, H2 a = some u) → ∀ i : Nat,
  (i = ds.length → J.stop i H2) ∧ ∀ d, ds[i]? = some d → J.go i H2 ∧ ∀ v H3, J.yld i H2 v H3 → Same H2 H3 ∧ Dn K H3 N2 v d
def tI (K : PySem.W.Frag) (mg : Str → Option Value) (cf : CF) (EX : WX) (f : SI) : TI := fun σ H R => ∃ env S μ F, Sim K mg F σ H env S μ ∧ Post K mg EX F σ env H μ (f cf env S) fun ds _ H' μ' => ∀ J, IterOf K J ds (NN F μ' σ env) H' → R J H'
def MI (X : Cx) (cf : CF) (EX : WX) (tg e : Expr) (f : SI) : Prop := PI X tg e (tI X.K X.mg cf EX f)
theorem PI.weak {X : Cx} {tg e : Expr} {t t' : TI} (h : PI X tg e t) (w : ∀ σ H R, t' σ H R → t σ H R) : PI X tg e t' := ⟨fun pins s σ H R I q => h.run pins s σ H R I (w σ H R q)⟩
/-- a list or a tuple -/
def iSeq (f : SE) : SI := fun cf env S => (f cf env S).bind fun w S1 => match w with
  | .d (.list xs) => .ok xs S1
  | .d (.tuple xs) => .ok xs S1
  | .scr xs => .ok (xs.map PyData.int) S1
  | _ => .stuck
theorem iter_list {a : Addr} {vs : List V} {ds : List D} {N : Addr → Prop} (hq : ∀ N2 H2, Keep N H N2 H2 → SqL K H2 a vs) (t : DnAll K H N vs ds) (inj : ∀ H2 xs, SqL K H2 a xs → SqL K H2 a vs → True) : IterOf K (Itl K a) ds N H := fun N2 H2 k tr i => by
  have t2 := t.keep k
  have q2 := hq N2 H2 k
  refine ⟨fun e => ⟨vs, q2, by rw [t.length]; exact Nat.le_of_eq e.symm⟩, fun d hd => ?_⟩
  obtain ⟨v, hv, r⟩ := t2.get hd
  refine ⟨⟨vs, v, q2, hv⟩, fun w H3 y => ?_⟩
  obtain ⟨e3, y⟩ := y
  subst e3
  have := y vs q2
  rw [hv] at this
  cases this
  exact ⟨Same.refl _, r⟩
theorem iter_tup {a : Addr} {vs : List V} {ds : List D} {N : Addr → Prop} (ht : RdT K H N a vs) (t : DnAll K H N vs ds) : IterOf K (Itt K a) ds N H := fun N2 H2 k tr i => by
  have t2 := t.keep k
  have q2 := (ht.keep k).sq
  refine ⟨fun e => ⟨vs, q2, by rw [t.length]; exact Nat.le_of_eq e.symm⟩, fun d hd => ?_⟩
  obtain ⟨v, hv, r⟩ := t2.get hd
  refine ⟨⟨vs, v, q2, hv⟩, fun w H3 y => ?_⟩
  obtain ⟨e3, y⟩ := y
  subst e3
  have := y vs q2
  rw [hv] at this
  cases this
  exact ⟨Same.refl _, r⟩
/-- either kind, told only when the value is there -/
theorem pi_seq {l : Expr} {tl : TE} (hl : PE X l tl) : PI X tg l (fun σ H R => tl σ H fun x H1 => ∃ a, x = .ref a ∧ (((∃ xs, SqL X.K H1 a xs) ∧ R (Itl X.K a) H1) ∨ ((∃ xs, SqT X.K H1 a xs) ∧ R (Itt X.K a) H1))) := by
  constructor
  intro pins s σ H R I h
  apply thn (hl.run pins s σ H _ I h)
  rintro v s1 ⟨x, H1, I1, r1, a, rfl, q⟩
  cases r1
  have fr : ∀ b, b ∈ [s1.heap.objs.size] → FpOk X pins H1 b := fun b hb => by
    rw [List.mem_singleton] at hb
    rw [hb]
    exact I1.fpOk (Nat.le_refl _) (I1.hok.fresh (Nat.le_refl _))
  rcases q with ⟨⟨xs, hq⟩, q⟩ | ⟨⟨xs, hq⟩, q⟩
  · obtain ⟨its, rv, p, hz⟩ := I1.list hq
    apply wpAny_pyIter_list p.isList
    exact ⟨_, _, _, _, H1, rfl, I1.kept (t' := s1.toks) fun b o e => Heap.get?_push_of_some _ e, turn_list a _, ⟨_, Heap.get?_push_size _ rfl, rfl, rfl⟩, fr, q⟩
  · obtain ⟨its, rv, p, hz⟩ := I1.tuple hq
    apply wpAny_pyIter_tuple (show s1.heap.IsTuple a its.toArray from p)
    exact ⟨_, _, _, _, H1, rfl, I1.kept (t' := s1.toks) fun b o e => Heap.get?_push_of_some _ e, turn_tuple a _, ⟨_, Heap.get?_push_size _ rfl, rfl, rfl⟩, fr, q⟩
theorem mi_seq (h : ME X cf EX e fa) : MI X cf EX tg e (iSeq fa) :=
  PI.weak (pi_seq h) fun σ H R ⟨env, S, μ, F, s, q⟩ => ⟨env, S, μ, F, s, (Post.bind q).mono fun w S1 H1 μ1 s1 x1 q1 v rv => by
    split at q1
    · obtain ⟨a, vs, rfl, na, h1, t1⟩ := rw_lst rv
      exact ⟨a, rfl, .inl ⟨⟨vs, SqL.of h1⟩, q1 H1 μ1 s1 (Ext.refl _ _ _ _) _ (iter_list (fun N2 H2 k => SqL.of (k a _ na h1).1) t1 fun _ _ _ _ => True.intro)⟩⟩
    · obtain ⟨a, vs, rfl, h1, t1⟩ := rw_tup rv
      exact ⟨a, rfl, .inr ⟨⟨vs, h1.sq⟩, q1 H1 μ1 s1 (Ext.refl _ _ _ _) _ (iter_tup h1 t1)⟩⟩
    · cases rv with
      | scr h1 => exact ⟨_, rfl, .inl ⟨⟨_, h1.sq⟩, q1 H1 μ1 s1 (Ext.refl _ _ _ _) _ (iter_list (fun N2 H2 k => (h1.keep k).sq) (ints_all _) fun _ _ _ _ => True.intro)⟩⟩
    · exact q1.elim⟩
/-- ranges -/
def rangeD (lo : Int) (n : Nat) : List D := (List.range n).map fun k : Nat => PyData.int (lo + k)
def inR (i : Int) : Bool := Nat.ble i.natAbs 4611686018427387903
theorem inR_iff {i : Int} (h : inR i = true) : -(2 ^ 62) ≤ i ∧ i < 2 ^ 62 := by
  have := Nat.le_of_ble_eq_true h
  omega
def iRange1 (a : SA) : SI := fun cf env S => (a cf env S).bind fun ws S1 => match ws with
  | [.d (.int j)] => if inR j then .ok (rangeD 0 j.toNat) S1 else .stuck
  | _ => .stuck
def iRange2 (a : SA) : SI := fun cf env S => (a cf env S).bind fun ws S1 => match ws with
  | [.d (.int i), .d (.int j)] => if inR i && inR j then .ok (rangeD i (j - i).toNat) S1 else .stuck
  | _ => .stuck
theorem rangeD_len (lo : Int) (n : Nat) : (rangeD lo n).length = n := by simp [rangeD]
theorem rangeD_get {lo : Int} {n i : Nat} {d : D} (h : (rangeD lo n)[i]? = some d) : i < n ∧ d = .int (lo + i) := by
  unfold rangeD at h
  rw [List.getElem?_map] at h
  cases e : (List.range n)[i]? with
  | none => rw [e] at h; cases h
  | some k =>
    rw [e] at h
    obtain ⟨h1, h2⟩ := List.getElem?_eq_some_iff.mp e
    rw [List.length_range] at h1
    rw [List.getElem_range] at h2
    subst h2
    exact ⟨h1, (Option.some.inj h).symm⟩
theorem iter_range {lo : Int} {n : Nat} {N : Addr → Prop} : IterOf K (Itr lo n) (rangeD lo n) N H := fun N2 H2 k tr i => by
  refine ⟨fun e => by rw [rangeD_len] at e; exact Nat.le_of_eq e.symm, fun d hd => ?_⟩
  obtain ⟨h1, rfl⟩ := rangeD_get hd
  refine ⟨h1, fun v H3 y => ?_⟩
  obtain ⟨e3, rfl⟩ := y
  subst e3
  exact ⟨Same.refl _, .int _⟩
theorem mi_range1 {a : Expr} {q : Pos} (hg : Gl X "range") (hm : X.mg "range" = none) (h : MA X cf EX [a] ha) (hs : starEach [a] X.env = [(false, eval a X.env)] := by rfl) : MI X cf EX tg (.Call (.Name "range" q) [a] [] pos) (iRange1 ha) :=
  PI.weak (pi_range1 hg hm h hs) fun σ H R ⟨env, S, μ, F, s, q⟩ => ⟨env, S, μ, F, s, (Post.bind q).mono fun w S1 H1 μ1 s1 x1 q1 v rv => by
    split at q1
    · obtain ⟨v1, rfl, r1⟩ := rws1 rv
      rw [rw_int r1]
      split at q1
      · rename_i hr
        have hr := inR_iff hr
        exact ⟨_, rfl, hr.1, hr.2, q1 H1 μ1 s1 (Ext.refl _ _ _ _) _ iter_range⟩
      · exact q1.elim
    · exact q1.elim⟩
theorem mi_range2 {a b : Expr} {q : Pos} (hg : Gl X "range") (hm : X.mg "range" = none) (h : MA X cf EX [a, b] ha) (hs : starEach [a, b] X.env = [(false, eval a X.env), (false, eval b X.env)] := by rfl) (hs2 : starEach [b] X.env = [(false, eval b X.env)] := by rfl) :
    MI X cf EX tg (.Call (.Name "range" q) [a, b] [] pos) (iRange2 ha) :=
  PI.weak (pi_range2 hg hm h hs hs2) fun σ H R ⟨env, S, μ, F, s, q⟩ => ⟨env, S, μ, F, s, (Post.bind q).mono fun w S1 H1 μ1 s1 x1 q1 v rv => by
    split at q1
    · obtain ⟨v1, v2, rfl, r1, r2⟩ := rws2 rv
      rw [rw_int r1, rw_int r2]
      split at q1
      · rename_i hr
        rw [Bool.and_eq_true] at hr
        have h1 := inR_iff hr.1
        have h2 := inR_iff hr.2
        exact ⟨_, _, rfl, ⟨h1.1, h1.2, h2.1, h2.2⟩, q1 H1 μ1 s1 (Ext.refl _ _ _ _) _ iter_range⟩
      · exact q1.elim
    · exact q1.elim⟩

theorem Sim.trk (s : Sim K mg F σ H env S μ) : ∀ a, NN F μ σ env a → ∃ u, H a = some u := fun _ n => s.tracked n
theorem ms_for {t : Tg} {it : SI} (hp : PassesOwn (model X.prog X.w) X.A X.env X.xe) (hc : X.calm = true) (hi : MI X cf EX tg e it) (hg : MG X tg t) (hb : MSs X cf EX body f) (hs : ∀ x, foldedSetIterable e X.env x = pure x := by intro _; rfl) :
    MS X cf EX (.For tg e body [] pos) (sFor t it f) := by
  refine PS.weak (ps_for hp hc hi hg hb hs) fun D σ H ⟨env, S, μ, F, s, q⟩ => ⟨env, S, μ, F, s, (PostS.expr q).mono fun ds S1 H1 μ1 s1 x1 q1 J hJ => ?_⟩
  refine ⟨fun i m σ' H' => i + m = ds.length ∧ ∃ env' S' μ', Sim X.K X.mg F σ' H' env' S' μ' ∧ ExS σ env H1 μ1 σ' env' H' μ' ∧ PostS X.K X.mg EX F σ' env' H' μ' (forL t (f cf) (ds.drop i) env' S') D, ⟨ds.length, by omega, env, S1, μ1, s1, ExS.refl _ _ _ _, by simpa using q1⟩, ?_⟩
  rintro i m σ' H' ⟨hm, env', S', μ', s', x', q'⟩
  obtain ⟨hstop, hgo⟩ := hJ _ H' (x'.nn F) s'.trk i
  by_cases hi : i = ds.length
  · refine .inl ⟨hstop hi, ?_⟩
    rw [hi, List.drop_length] at q'
    exact q' σ' H' μ' s' (ExS.refl _ _ _ _)
  · have hlt : i < ds.length := by omega
    have e : ds[i]? = some ds[i] := by simp [hlt]
    obtain ⟨go, y⟩ := hgo _ e
    refine .inr ⟨go, fun σ2 H2 => (i + 1) + (m - 1) = ds.length ∧ ∃ env' S' μ', Sim X.K X.mg F σ2 H2 env' S' μ' ∧ ExS σ env H1 μ1 σ2 env' H2 μ' ∧ PostS X.K X.mg EX F σ2 env' H2 μ' (forL t (f cf) (ds.drop (i + 1)) env' S') D, fun σ2 H2 h => ⟨m - 1, by omega, h⟩, fun v H3 yv => ?_⟩
    obtain ⟨sm, rv⟩ := y v H3 yv
    have s3 := s'.same sm
    have x3 : ExS σ' env' H' μ' σ' env' H3 μ' := (Ext.same sm).s
    rw [List.drop_eq_getElem_cons hlt] at q'
    unfold forL at q'
    split at q'
    · exact q'.elim
    · rename_i env1 e1
      refine ⟨F, env', S', μ', _, env1, s3, rv, e1, fun σ4 s4 x4 _ => ⟨env1, S', μ', F, s4, ?_⟩⟩
      have xx := x3.trans x4
      have q2 := PostS.ext q' xx
      cases r : f cf env1 S' with
      | next e2 S2 =>
        simp only [r] at q2
        exact fun σ5 H5 μ5 s5 x5 => ⟨by omega, e2, S2, μ5, s5, x'.trans (xx.trans x5), PostS.ext q2 x5⟩
      | cont e2 S2 =>
        simp only [r] at q2
        exact fun σ5 H5 μ5 s5 x5 => ⟨by omega, e2, S2, μ5, s5, x'.trans (xx.trans x5), PostS.ext q2 x5⟩
      | brk e2 S2 =>
        simp only [r] at q2
        exact fun σ5 H5 μ5 s5 x5 => q2 σ5 H5 μ5 s5 x5
      | ret w S2 =>
        simp only [r] at q2
        exact q2
      | exc cc e2 S2 =>
        simp only [r] at q2
        exact q2
      | stuck =>
        simp only [r] at q2
        exact q2
theorem ms_while {n : Nat} (hp : PassesOwn (model X.prog X.w) X.A X.env X.xe) (hc : MT X cf EX c gc) (hb : MSs X cf EX body f) : MS X cf EX (.While c body [] pos) (sWhile n gc f) := by
  refine PS.weak (ps_while hp hc hb) fun D σ H ⟨env, S, μ, F, s, q⟩ => ?_
  refine ⟨fun m σ' H' => ∃ env' S' μ', Sim X.K X.mg F σ' H' env' S' μ' ∧ PostS X.K X.mg EX F σ' env' H' μ' (whileL (gc cf) (f cf) m env' S') D, ⟨n, env, S, μ, s, q⟩, ?_⟩
  rintro m σ' H' ⟨env', S', μ', s', q'⟩
  cases m with
  | zero => exact q'.elim
  | succ m =>
    unfold whileL at q'
    refine ⟨env', S', μ', F, s', (PostS.expr q').mono fun k S1 H1 μ1 s1 x1 q1 => ?_⟩
    cases k with
    | false =>
      simp only [Bool.false_eq_true, if_false] at q1 ⊢
      exact q1 σ' H1 μ1 s1 (ExS.refl _ _ _ _)
    | true =>
      simp only [if_true] at q1 ⊢
      refine ⟨fun σ2 H2 => ∃ env' S' μ', Sim X.K X.mg F σ2 H2 env' S' μ' ∧ PostS X.K X.mg EX F σ2 env' H2 μ' (whileL (gc cf) (f cf) m env' S') D, fun σ2 H2 h => ⟨m, Nat.lt_succ_self _, h⟩, env', S1, μ1, F, s1, ?_⟩
      cases r : f cf env' S1 with
      | next e2 S2 =>
        simp only [r] at q1
        exact fun σ5 H5 μ5 s5 x5 => ⟨e2, S2, μ5, s5, PostS.ext q1 x5⟩
      | cont e2 S2 =>
        simp only [r] at q1
        exact fun σ5 H5 μ5 s5 x5 => ⟨e2, S2, μ5, s5, PostS.ext q1 x5⟩
      | brk e2 S2 =>
        simp only [r] at q1
        exact fun σ5 H5 μ5 s5 x5 => q1 σ5 H5 μ5 s5 x5
      | ret w S2 =>
        simp only [r] at q1
        exact q1
      | exc cc e2 S2 =>
        simp only [r] at q1
        exact q1
      | stuck =>
        simp only [r] at q1
        exact q1

def wipeE (env : EnvQ) : List Nat → EnvQ
  | [] => env
  | v :: vs => (wipeE env vs).set v none
def notOwn (env : EnvQ) (i : Nat) : Bool := match env[i]? with
  | some (some w) => w.plain
  | _ => true
def R.calm {α : Type} : R α → R α
  | .exc _ _ => .stuck
  | r => r
def compL (t : Tg) (c : EnvQ → Sto → R Bool) (f : EnvQ → Sto → R W) (env : EnvQ) : List D → Sto → R (List D)
  | [], S => .ok [] S
  | d :: ds, S => match t.set d env with
    | none => .stuck
    | some env1 => (c env1 S).calm.bind fun b S1 => if b = true then (f env1 S1).calm.bind fun w S2 => (match w with
        | .d x => (compL t c f env ds S2).bind fun xs S3 => .ok (x :: xs) S3
        | _ => .stuck) else compL t c f env ds S1
def fComp (vs : List Nat) (t : Tg) (it : SI) (c : ST) (f : SE) : SE := fun cf env S => if vs.all (notOwn env) then (it cf env S).bind fun ds S1 => (compL t (c cf) (f cf) (wipeE env vs) ds S1).bind fun xs S2 => if xs.length ≤ LIM then .ok (.d (.list xs)) S2 else .stuck else .stuck
theorem wipeE_get {env : EnvQ} {i : Nat} {w : W} : ∀ {vs : List Nat}, (wipeE env vs)[i]? = some (some w) → i ∉ vs ∧ env[i]? = some (some w)
  | [], h => ⟨by simp, h⟩
  | v :: vs, h => by
    rcases set_get (show ((wipeE env vs).set v none)[i]? = some (some w) from h) with ⟨_, e⟩ | ⟨n, e⟩
    · cases e
    · obtain ⟨h1, h2⟩ := wipeE_get e
      exact ⟨by simp only [List.mem_cons, not_or]; exact ⟨n, h1⟩, h2⟩
theorem wipeE_out {env : EnvQ} {i : Nat} : ∀ {vs : List Nat}, i ∉ vs → (wipeE env vs)[i]? = env[i]?
  | [], _ => rfl
  | v :: vs, h => by
    simp only [List.mem_cons, not_or] at h
    show ((wipeE env vs).set v none)[i]? = _
    rw [List.getElem?_set_ne (Ne.symm h.1)]
    exact wipeE_out h.2
theorem wipeE_len (env : EnvQ) : ∀ vs : List Nat, (wipeE env vs).length = env.length
  | [] => rfl
  | v :: vs => by
    show ((wipeE env vs).set v none).length = _
    rw [List.length_set]
    exact wipeE_len env vs
theorem wipe_out' {σ : L2.St} {i : Nat} {vs : List Nat} (h : i ∉ vs) : (wipe σ vs)[i]? = σ[i]? := wipe_out h
theorem wipe_own {vs : List Nat} (no : ∀ i ∈ vs, notOwn env i = true) (i : Nat) (a : Addr) : OwnAt (wipe σ vs) (wipeE env vs) i a ↔ OwnAt σ env i a := by
  constructor
  · rintro ⟨h1, w, h2, h3⟩
    obtain ⟨n, e⟩ := wipeE_get h2
    rw [wipe_out' n] at h1
    exact ⟨h1, w, e, h3⟩
  · rintro ⟨h1, w, h2, h3⟩
    have n : i ∉ vs := fun m => by
      have z := no i m
      unfold notOwn at z
      rw [h2] at z
      simp only at z
      rw [fine_own h3] at z
      cases z
    exact ⟨by rw [wipe_out' n]; exact h1, w, by rw [wipeE_out n]; exact h2, h3⟩
theorem wipe_mm {vs : List Nat} (no : ∀ i ∈ vs, notOwn env i = true) (μ : List Addr) : MM μ (wipe σ vs) (wipeE env vs) = MM μ σ env := by
  funext a
  apply propext
  exact ⟨fun h => h.elim .inl fun ⟨i, h⟩ => .inr ⟨i, (wipe_own no i a).mp h⟩, fun h => h.elim .inl fun ⟨i, h⟩ => .inr ⟨i, (wipe_own no i a).mpr h⟩⟩
theorem wipe_nn {vs : List Nat} (no : ∀ i ∈ vs, notOwn env i = true) (F : Addr → Prop) (μ : List Addr) : NN F μ (wipe σ vs) (wipeE env vs) = NN F μ σ env := by
  unfold NN
  rw [wipe_mm no]
/-- into the block: the new list at p is nobody's -/
theorem Sim.block (s : Sim K mg F σ H env S μ) {vs : List Nat} (no : ∀ i ∈ vs, notOwn env i = true) {p : Addr} {o : HO} (n : H p = none) : Sim K mg (fun a => a = p ∨ F a) (wipe σ vs) (upd H p o) (wipeE env vs) S μ := by
  have kp : Keep (NN F μ σ env) H (NN (fun a => a = p ∨ F a) μ σ env) (upd H p o) := fun a u na e => by
    have ne : a ≠ p := ne_of_none e n
    exact ⟨by rw [upd_ne ne]; exact e, fun h => h.elim (fun h => na (.inl h)) fun h => h.elim ne fun h => na (.inr h)⟩
  have nn : NN (fun a => a = p ∨ F a) μ (wipe σ vs) (wipeE env vs) = NN (fun a => a = p ∨ F a) μ σ env := wipe_nn no _ _
  refine ⟨by rw [wipe_length, wipeE_len]; exact s.len, fun i w e => ?_, fun i w e => ?_, fun i j a h1 h2 => s.inj i j a ((wipe_own no i a).mp h1) ((wipe_own no j a).mp h2), fun i a h => s.apart i a ((wipe_own no i a).mp h), ⟨s.st.len, s.st.nd, fun k ob e => ?_⟩, fun a f => ?_, fun a f h => ?_⟩
  · obtain ⟨ni, e⟩ := wipeE_get e
    obtain ⟨v, hv, r⟩ := s.slot i w e
    refine ⟨v, by rw [wipe_out' ni]; exact hv, ?_⟩
    rw [nn]
    by_cases po : w.isOwn = true
    · obtain ⟨a, ob, rfl, hb, tb⟩ := own_or_plain r po
      exact (tb.keep kp).rw (by rw [upd_ne (ne_of_none hb n)]; exact hb)
    · have pl : w.plain = true := by
        have fi := s.fin i w e
        unfold W.fine at fi
        simpa [po] using fi
      exact RW.keep kp (List.prefix_refl _) r pl
  · exact s.fin i w (wipeE_get e).2
  · obtain ⟨b, hb, r⟩ := s.st.obj k ob e
    refine ⟨b, hb, ?_⟩
    rw [nn]
    cases r with
    | lst h t' => exact .lst (by rw [upd_ne (ne_of_none h n)]; exact h) (t'.keep kp)
    | ins g h m t' pl => exact .ins g (by rw [upd_ne (ne_of_none h n)]; exact h) m (RWs.keep kp (List.prefix_refl _) t' pl) pl
    | dct h t' => exact .dct (by rw [upd_ne (ne_of_none h n)]; exact h) fun e he => (t' e he).keep kp
    | dcm h t' => exact .dcm (by rw [upd_ne (ne_of_none h n)]; exact h) (t'.keep kp)
    | tab h0 t' => exact .tab h0 (t'.keep (fun h => by rw [upd_ne (ne_of_none h n)]; exact h) kp)
  · rcases f with rfl | f
    · exact ⟨_, upd_same⟩
    · obtain ⟨u, hu⟩ := s.ftr a f
      exact ⟨u, by rw [upd_ne (ne_of_none hu n)]; exact hu⟩
  · rw [wipe_mm no] at h
    rcases f with rfl | f
    · exact s.fresh n (.inl h)
    · exact s.fdis a f h
/-- out of the block -/
theorem Sim.unblock (s : Sim K mg F σ H env S μ) {vs : List Nat} (no : ∀ i ∈ vs, notOwn env i = true) {p : Addr} (s' : Sim K mg (fun a => a = p ∨ F a) (wipe σ vs) H' (wipeE env vs) S' μ') (ex : Ext σ env H μ H' μ') : Sim K mg F σ H' env S' μ' := by
  have nn : NN (fun a => a = p ∨ F a) μ' (wipe σ vs) (wipeE env vs) = NN (fun a => a = p ∨ F a) μ' σ env := wipe_nn no _ _
  have sub : ∀ a, NN F μ' σ env a → NN (fun a => a = p ∨ F a) μ' (wipe σ vs) (wipeE env vs) a := fun a h => by
    rw [nn]
    exact h.elim .inl fun h => .inr (.inr h)
  refine ⟨s.len, fun i w e => ?_, s.fin, s.inj, fun i a h => s'.apart i a ((wipe_own no i a).mpr h), s'.st.sub sub, fun a f => s'.ftr a (.inr f), fun a f h => s'.fdis a (.inr f) (by rw [wipe_mm no]; exact h)⟩
  by_cases m : i ∈ vs
  · obtain ⟨v, hv, r⟩ := s.slot i w e
    have z := no i m
    unfold notOwn at z
    rw [e] at z
    exact ⟨v, hv, RW.keep (ex.nn F) ex.pre r z⟩
  · obtain ⟨v, hv, r⟩ := s'.slot i w (by rw [wipeE_out m]; exact e)
    rw [wipe_out' m] at hv
    exact ⟨v, hv, RW.sub sub r⟩
/-- what is the callers' may turn -/
theorem Sim.updF (s : Sim K mg F σ H env S μ) {p : Addr} {o : HO} (f : F p) : Sim K mg F σ (upd H p o) env S μ ∧ Keep (NN F μ σ env) H (NN F μ σ env) (upd H p o) := by
  have np : ¬ MM μ σ env p := s.fdis p f
  have kp : Keep (NN F μ σ env) H (NN F μ σ env) (upd H p o) := fun a u na e => by
    have ne : a ≠ p := fun z => na (z ▸ .inr f)
    exact ⟨by rw [upd_ne ne]; exact e, na⟩
  refine ⟨⟨s.len, fun i w e => ?_, s.fin, s.inj, s.apart, ⟨s.st.len, s.st.nd, fun k ob e => ?_⟩, fun a h => ?_, s.fdis⟩, kp⟩
  · obtain ⟨v, hv, r⟩ := s.slot i w e
    refine ⟨v, hv, ?_⟩
    by_cases po : w.isOwn = true
    · obtain ⟨a, ob, rfl, hb, tb⟩ := own_or_plain r po
      have ne : a ≠ p := fun z => np (z ▸ .inr ⟨i, hv, _, e, po⟩)
      exact (tb.keep kp).rw (by rw [upd_ne ne]; exact hb)
    · have pl : w.plain = true := by
        have fi := s.fin i w e
        unfold W.fine at fi
        simpa [po] using fi
      exact RW.keep kp (List.prefix_refl _) r pl
  · obtain ⟨b, hb, r⟩ := s.st.obj k ob e
    have ne : b ≠ p := fun z => np (z ▸ .inl (List.mem_of_getElem? hb))
    refine ⟨b, hb, ?_⟩
    cases r with
    | lst h t' => exact .lst (by rw [upd_ne ne]; exact h) (t'.keep kp)
    | ins g h m t' pl => exact .ins g (by rw [upd_ne ne]; exact h) m (RWs.keep kp (List.prefix_refl _) t' pl) pl
    | dct h t' => exact .dct (by rw [upd_ne ne]; exact h) fun e he => (t' e he).keep kp
    | dcm h t' => exact .dcm (by rw [upd_ne ne]; exact h) (t'.keep kp)
    | tab h0 t' => exact .tab h0 (t'.keep (fun h => by rw [upd_ne ne]; exact h) kp)
  · by_cases z : a = p
    · subst z
      exact ⟨_, upd_same⟩
    · obtain ⟨u, hu⟩ := s.ftr a h
      exact ⟨u, by rw [upd_ne z]; exact hu⟩
theorem Post.calm {α : Type} {r : R α} {P : α → Sto → Hp → List Addr → Prop} {EX EX' : WX} (h : Post K mg EX F σ env H μ r.calm P) : Post K mg EX' F σ env H μ r P := by
  cases r with
  | ok a S' => exact h
  | exc c S' => exact h.elim
  | stuck => exact h
theorem setAll_wipe : ∀ {is : List Nat} {ds : List D} {env env' : EnvQ}, setAll is ds env = some env' → env'.length = env.length ∧ ∀ j, j ∉ is → env'[j]? = env[j]?
  | [], [], env, env', e => by
    simp only [setAll, Option.some.injEq] at e
    subst e
    exact ⟨rfl, fun _ _ => rfl⟩
  | [], _ :: _, _, _, e => by simp [setAll] at e
  | _ :: _, [], _, _, e => by simp [setAll] at e
  | i :: is, d :: ds, env, env', e => by
    simp only [setAll] at e
    obtain ⟨h1, h2⟩ := setAll_wipe e
    refine ⟨by simpa using h1, fun j hj => ?_⟩
    simp only [List.mem_cons, not_or] at hj
    rw [h2 j hj.2, List.getElem?_set_ne (Ne.symm hj.1)]
theorem wipe_get (σ : L2.St) (j : Nat) : ∀ vs : List Nat, (wipe σ vs)[j]? = if j ∈ vs ∧ j < σ.length then some none else σ[j]?
  | [] => by simp [wipe]
  | v :: vs => by
    have ih := wipe_get σ j vs
    have hl : (wipe σ vs).length = σ.length := wipe_length σ vs
    show ((wipe σ vs).set v none)[j]? = _
    by_cases e : j = v
    · subst e
      by_cases h : j < σ.length
      · rw [List.getElem?_set_self (by rw [hl]; exact h), if_pos ⟨by simp, h⟩]
      · rw [List.getElem?_eq_none (by simpa [hl] using h), if_neg (fun z => h z.2), List.getElem?_eq_none (by simpa using h)]
    · rw [List.getElem?_set_ne (Ne.symm e), ih]
      simp [e]
theorem wipe_only {σ σ2 : L2.St} {is vs : List Nat} (hs : ∀ i ∈ is, i ∈ vs) (o : Only1 is (wipe σ vs) σ2) : wipe σ2 vs = wipe σ vs := by
  apply List.ext_getElem?
  intro j
  have hl : σ2.length = σ.length := by rw [o.1, wipe_length]
  rw [wipe_get σ2, wipe_get σ, hl]
  by_cases h : j ∈ vs ∧ j < σ.length
  · rw [if_pos h, if_pos h]
  · rw [if_neg h, if_neg h]
    by_cases m : j ∈ vs
    · have hj : ¬ j < σ.length := fun z => h ⟨m, z⟩
      rw [List.getElem?_eq_none (by omega), List.getElem?_eq_none (by omega)]
    · rw [o.2 j (fun z => m (hs j z)), wipe_get σ, if_neg (fun z => m z.1)]
/-- tests of a comprehension: none, one -/
def MTs (X : Cx) (cf : CF) (EX : WX) (es : List Expr) (f : ST) : Prop := PTs X es (tT X.K X.mg cf EX f)
def cYes : ST := fun _ _ S => .ok true S
theorem PTs.weak {X : Cx} {es : List Expr} {t t' : TT} (h : PTs X es t) (w : ∀ σ H Q, t' σ H Q → t σ H Q) : PTs X es t' := ⟨fun pins s σ H Q I q => h.run pins s σ H Q I (w σ H Q q)⟩
theorem mts_nil : MTs X cf EX [] cYes := PTs.weak pts_nil fun σ H Q ⟨env, S, μ, F, s, q⟩ => q H μ s (Ext.refl _ _ _ _)
theorem mts_one (h : MT X cf EX c gc) : MTs X cf EX [c] gc := pts_one h
abbrev EX0 : WX := fun _ _ _ _ => False
theorem compL_calm (t : Tg) (c : EnvQ → Sto → R Bool) (f : EnvQ → Sto → R W) (env : EnvQ) : ∀ (ds : List D) (S : Sto), (∃ xs S', compL t c f env ds S = .ok xs S') ∨ compL t c f env ds S = .stuck
  | [], S => .inl ⟨[], S, rfl⟩
  | d :: ds, S => by
    unfold compL
    split
    · exact .inr rfl
    · rename_i env1 e1
      cases c env1 S with
      | exc _ _ => exact .inr rfl
      | stuck => exact .inr rfl
      | ok b S1 =>
        cases b with
        | false =>
          simp only [R.calm, R.bind_ok, Bool.false_eq_true, if_false]
          exact compL_calm t c f env ds S1
        | true =>
          simp only [R.calm, R.bind_ok, if_true]
          cases f env1 S1 with
          | exc _ _ => exact .inr rfl
          | stuck => exact .inr rfl
          | ok w S2 =>
            simp only [R.bind_ok]
            split
            · rcases compL_calm t c f env ds S2 with ⟨xs, S', e⟩ | e
              · rw [e]
                exact .inl ⟨_, _, rfl⟩
              · rw [e]
                exact .inr rfl
            · exact .inr rfl
/-- the target's names are forgotten -/
theorem set_eq {t : Tg} {d : D} {env0 env1 : EnvQ} (e : t.set d env0 = some env1) : env1.length = env0.length ∧ (∀ j, j ∉ t.slots → env1[j]? = env0[j]?) ∧ ∀ j w, j ∈ t.slots → env1[j]? = some (some w) → w.isOwn = false := by
  have aux : ∀ (is : List Nat) (ds : List D) (env env' : EnvQ), setAll is ds env = some env' → ∀ j w, j ∈ is → env'[j]? = some (some w) → w.isOwn = false := by
    intro is
    induction is with
    | nil => intro ds env env' _ j w hj; cases hj
    | cons i is ih =>
      intro ds env env' e j w hj hw
      cases ds with
      | nil => simp [setAll] at e
      | cons d ds =>
        simp only [setAll] at e
        by_cases m : j ∈ is
        · exact ih ds _ env' e j w m hw
        · have z : j = i := by
            rcases List.mem_cons.mp hj with z | z
            · exact z
            · exact absurd z m
          subst z
          rw [(setAll_wipe e).2 j m] at hw
          rcases set_get hw with ⟨_, y⟩ | ⟨n, _⟩
          · cases y
            rfl
          · exact absurd rfl n
  cases t with
  | name i =>
    simp only [Tg.set, Option.some.injEq] at e
    subst e
    refine ⟨by simp, fun j hj => by rw [List.getElem?_set_ne (fun z => hj (by simp [Tg.slots, z]))], fun j w hj hw => ?_⟩
    rcases set_get hw with ⟨_, y⟩ | ⟨n, _⟩
    · cases y
      rfl
    · exact absurd (by simpa [Tg.slots] using hj) n
  | names is =>
    cases d with
    | tuple ds =>
      have e : setAll is ds env0 = some env1 := by simpa [Tg.set] using e
      exact ⟨(setAll_wipe e).1, fun j hj => (setAll_wipe e).2 j hj, aux is ds env0 env1 e⟩
    | _ => simp [Tg.set] at e
theorem Sim.turn {t : Tg} {d : D} {vs : List Nat} {env1 : EnvQ} {σ4 : L2.St} (hsl : ∀ i ∈ t.slots, i ∈ vs) (e : t.set d (wipeE env vs) = some env1) (hlen : σ.length = env.length) (o : Only1 t.slots (wipe σ vs) σ4) :
    (∀ μ, MM μ σ4 env1 = MM μ (wipe σ vs) (wipeE env vs)) ∧ ∀ {F : Addr → Prop} {H : Hp} {S : Sto} {μ : List Addr}, Sim K mg F σ4 H env1 S μ → Sim K mg F (wipe σ vs) H (wipeE env vs) S μ := by
  obtain ⟨h1, h2, h3⟩ := set_eq e
  have iff : ∀ i a, OwnAt σ4 env1 i a ↔ OwnAt (wipe σ vs) (wipeE env vs) i a := fun i a => by
    by_cases m : i ∈ t.slots
    · constructor
      · rintro ⟨_, w, y, z⟩
        rw [h3 i w m y] at z
        cases z
      · rintro ⟨_, w, y, z⟩
        exact absurd (hsl i m) (wipeE_get y).1
    · constructor
      · rintro ⟨y, w, z, q⟩
        exact ⟨by rw [← o.2 i m]; exact y, w, by rw [← h2 i m]; exact z, q⟩
      · rintro ⟨y, w, z, q⟩
        exact ⟨by rw [o.2 i m]; exact y, w, by rw [h2 i m]; exact z, q⟩
  have mm : ∀ μ, MM μ σ4 env1 = MM μ (wipe σ vs) (wipeE env vs) := fun μ => by
    funext a
    apply propext
    exact ⟨fun h => h.elim .inl fun ⟨i, h⟩ => .inr ⟨i, (iff i a).mp h⟩, fun h => h.elim .inl fun ⟨i, h⟩ => .inr ⟨i, (iff i a).mpr h⟩⟩
  refine ⟨mm, fun {F H S μ} s => ?_⟩
  have nn : NN F μ σ4 env1 = NN F μ (wipe σ vs) (wipeE env vs) := by
    unfold NN
    rw [mm]
  refine ⟨by rw [wipe_length, wipeE_len]; exact hlen, fun i w y => ?_, fun i w y => ?_, fun i j a y z => s.inj i j a ((iff i a).mpr y) ((iff j a).mpr z), fun i a y => s.apart i a ((iff i a).mpr y), by rw [← nn]; exact s.st, s.ftr, fun a f y => s.fdis a f (by rw [mm]; exact y)⟩
  · have m : i ∉ t.slots := fun m => (wipeE_get y).1 (hsl i m)
    obtain ⟨v, hv, r⟩ := s.slot i w (by rw [h2 i m]; exact y)
    rw [o.2 i m] at hv
    exact ⟨v, hv, by rw [← nn]; exact r⟩
  · have m : i ∉ t.slots := fun m => (wipeE_get y).1 (hsl i m)
    exact s.fin i w (by rw [h2 i m]; exact y)
/-- the reading of a comprehension -/
theorem comp_read {t : Tg} {it : SI} {cc : ST} {ff : SE} {vs : List Nat} (hsl : ∀ i ∈ t.slots, i ∈ vs)
    (σ : L2.St) (H : Hp) (Q : VK) (q : tE X.K X.mg cf EX (fComp vs t it cc ff) σ H Q) : tLc (tI X.K X.mg cf EX it) (tG X.K X.mg t) (tT X.K X.mg cf EX0 cc) (tE X.K X.mg cf EX0 ff) vs σ H Q := by
  obtain ⟨env, S, μ, F, s, q⟩ := q
  unfold fComp at q
  split at q
  · rename_i no
    have no : ∀ i ∈ vs, notOwn env i = true := fun i hi => List.all_eq_true.mp no i hi
    refine ⟨env, S, μ, F, s, (Post.bind q).mono fun ds S1 H1 μ1 s1 x1 q1 J hJ D nD => ?_⟩
    have fD : ¬ F D := fun h => by
      obtain ⟨u, hu⟩ := s1.ftr D h
      rw [nD] at hu
      cases hu
    refine ⟨fun i m H' => i + m = ds.length ∧ ∃ S' μ' ys zs, Sim X.K X.mg (fun a => a = D ∨ F a) (wipe σ vs) H' (wipeE env vs) S' μ' ∧ Ext σ env H1 μ1 H' μ' ∧ H' D = some (.lst ys) ∧ DnAll X.K H' (NN (fun a => a = D ∨ F a) μ' σ env) ys zs ∧
      Post X.K X.mg EX F σ env H1 μ1 ((compL t (cc cf) (ff cf) (wipeE env vs) (ds.drop i) S').bind fun xs S2 => if (zs ++ xs).length ≤ LIM then .ok (.d (.list (zs ++ xs))) S2 else .stuck) (fun w _ H' μ' => ∀ v, RW X.K X.mg H' (NN F μ' σ env) μ' v w → Q v H'), ⟨ds.length, by omega, S1, μ1, [], [], s1.block no nD, ext_new nD, upd_same, .nil, by simpa using q1⟩, ?_⟩
    rintro i m H' ⟨hm, S', μ', ys, zs, s', x0, hD, tz, q'⟩
    have s0 := s1.unblock no s' x0
    have kN : Keep (NN F μ1 σ env) H1 (NN (fun a => a = D ∨ F a) μ' (wipe σ vs) (wipeE env vs)) H' := fun a o na e => by
      obtain ⟨e', n'⟩ := x0.nn F a o na e
      refine ⟨e', fun h => ?_⟩
      rw [wipe_nn no] at h
      rcases h with h | h | h
      · exact n' (.inl h)
      · exact ne_of_none e nD h
      · exact n' (.inr h)
    obtain ⟨hstop, hgo⟩ := hJ _ H' kN s'.trk i
    have nDN : ∀ {H2 S2 μ2}, Sim X.K X.mg (fun a => a = D ∨ F a) (wipe σ vs) H2 (wipeE env vs) S2 μ2 → ¬ NN F μ2 σ env D := fun s2 h => h.elim (fun h => s2.fdis D (.inl rfl) (by rw [wipe_mm no]; exact h)) fD
    by_cases hi : i = ds.length
    · refine .inl ⟨hstop hi, ?_⟩
      rw [hi, List.drop_length] at q'
      simp only [compL, R.bind_ok, List.append_nil] at q'
      split at q'
      · exact q' H' μ' s0 x0 _ (.d (.lst ⟨nDN s', hD⟩ (tz.keep (Keep.sub fun a h => h.elim .inl fun h => .inr (.inr h)))))
      · exact q'.elim
    · have hlt : i < ds.length := by omega
      have e : ds[i]? = some ds[i] := by simp [hlt]
      obtain ⟨go, y⟩ := hgo _ e
      refine .inr ⟨go, fun H2 => (i + 1) + (m - 1) = ds.length ∧ ∃ S' μ' ys zs, Sim X.K X.mg (fun a => a = D ∨ F a) (wipe σ vs) H2 (wipeE env vs) S' μ' ∧ Ext σ env H1 μ1 H2 μ' ∧ H2 D = some (.lst ys) ∧ DnAll X.K H2 (NN (fun a => a = D ∨ F a) μ' σ env) ys zs ∧
        Post X.K X.mg EX F σ env H1 μ1 ((compL t (cc cf) (ff cf) (wipeE env vs) (ds.drop (i + 1)) S').bind fun xs S2 => if (zs ++ xs).length ≤ LIM then .ok (.d (.list (zs ++ xs))) S2 else .stuck) (fun w _ H' μ' => ∀ v, RW X.K X.mg H' (NN F μ' σ env) μ' v w → Q v H'), fun H2 h => ⟨m - 1, by omega, h⟩, fun v H3 yv => ?_⟩
      obtain ⟨sm, rv⟩ := y v H3 yv
      have s3 := s'.same sm
      have x3 : Ext σ env H1 μ1 H3 μ' := x0.trans (Ext.same sm)
      have hD3 : H3 D = some (.lst ys) := sm _ _ hD
      have tz3 : DnAll X.K H3 (NN (fun a => a = D ∨ F a) μ' σ env) ys zs := tz.keep fun a o n e => ⟨sm a o e, n⟩
      rw [List.drop_eq_getElem_cons hlt] at q'
      unfold compL at q'
      split at q'
      · exact q'.elim
      · rename_i env1 e1
        refine ⟨_, _, S', μ', _, env1, s3, rv, e1, fun σ4 s4 x4 o4 => ⟨wipe_only hsl o4, env1, S', μ', _, s4, ?_⟩⟩
        obtain ⟨mm, back⟩ := Sim.turn (K := X.K) (mg := X.mg) hsl e1 s.len o4
        -- what a step within the turn keeps
        have step : ∀ {Ha Hb : Hp} {μa μb : List Addr}, Ext σ4 env1 Ha μa Hb μb → Ext σ env Ha μa Hb μb := fun x => by
          have k := x.keep
          rw [mm, mm, wipe_mm no, wipe_mm no] at k
          exact ⟨k, x.pre⟩
        have atD : ∀ {Ha Hb : Hp} {μa μb : List Addr} {Sa : Sto} {u : HO}, Sim X.K X.mg (fun a => a = D ∨ F a) (wipe σ vs) Ha (wipeE env vs) Sa μa → Ext σ4 env1 Ha μa Hb μb → Ha D = some u → Hb D = some u := fun sa x h => by
          have k := x.keep
          rw [mm, mm] at k
          exact (k D _ (sa.fdis D (.inl rfl)) h).1
        cases r : cc cf env1 S' with
        | stuck =>
          rw [r] at q'
          exact q'.elim
        | exc c0 S5 =>
          rw [r] at q'
          exact q'.elim
        | ok b S5 =>
          rw [r] at q'
          intro H5 μ5 s5 x5
          have w5 := back s5
          have xx5 := x3.trans (step x5)
          have hD5 := atD s3 x5 hD3
          have tz5 := tz3.keep ((step x5).nn _)
          cases b with
          | false =>
            simp only [R.calm, R.bind_ok, Bool.false_eq_true, if_false] at q' ⊢
            exact ⟨by omega, S5, μ5, ys, zs, w5, xx5, hD5, tz5, q'⟩
          | true =>
            simp only [R.calm, R.bind_ok, if_true] at q' ⊢
            refine ⟨env1, S5, μ5, _, s5, ?_⟩
            cases r2 : ff cf env1 S5 with
            | stuck =>
              rw [r2] at q'
              exact q'.elim
            | exc c0 S6 =>
              rw [r2] at q'
              exact q'.elim
            | ok w S6 =>
              rw [r2] at q'
              intro H6 μ6 s6 x6 v2 rv2
              have w6 := back s6
              have xx6 := xx5.trans (step x6)
              have hD6 := atD w5 x6 hD5
              have tz6 := tz5.keep ((step x6).nn _)
              simp only [R.bind_ok] at q'
              split at q'
              · rename_i z
                have rz : Dn X.K H6 (NN (fun a => a = D ∨ F a) μ6 σ env) v2 z := by
                  cases rv2 with
                  | d h =>
                    refine h.keep (Keep.sub fun a ha => ?_)
                    have : NN (fun a => a = D ∨ F a) μ6 σ4 env1 = NN (fun a => a = D ∨ F a) μ6 σ env := by
                      unfold NN
                      rw [mm, wipe_mm no]
                    rw [this]
                    exact ha
                have hz : zs.length < LIM ∧ Post X.K X.mg EX F σ env H1 μ1 ((compL t (cc cf) (ff cf) (wipeE env vs) (ds.drop (i + 1)) S6).bind fun xs S2 => if ((zs ++ [z]) ++ xs).length ≤ LIM then .ok (.d (.list ((zs ++ [z]) ++ xs))) S2 else .stuck) (fun w _ H' μ' => ∀ v, RW X.K X.mg H' (NN F μ' σ env) μ' v w → Q v H') := by
                  rcases compL_calm t (cc cf) (ff cf) (wipeE env vs) (ds.drop (i + 1)) S6 with ⟨xs, S7, e7⟩ | e7
                  · rw [e7] at q' ⊢
                    simp only [R.bind_ok, List.append_assoc, List.singleton_append] at q' ⊢
                    split at q'
                    · rename_i hz
                      refine ⟨?_, ?_⟩
                      · rw [List.length_append, List.length_cons] at hz
                        omega
                      · rw [if_pos hz]
                        exact q'
                    · exact q'.elim
                  · rw [e7] at q'
                    exact q'.elim
                refine ⟨ys, hD6, by rw [← lim_line, tz6.length]; exact hz.1, by omega, S6, μ6, ys ++ [v2], zs ++ [z], (w6.updF (.inl rfl)).1, ⟨fun a o na e => ?_, xx6.pre⟩, upd_same, ?_, hz.2⟩
                · obtain ⟨e', n'⟩ := xx6.keep a o na e
                  exact ⟨by rw [upd_ne (ne_of_none e nD)]; exact e', n'⟩
                · refine (tz6.append (.cons rz .nil)).keep fun a o na e => ⟨?_, na⟩
                  rw [upd_ne (fun z => na (.inr (.inl z)))]
                  exact e
              · exact q'.elim
  · exact q.elim
theorem me_comp {t : Tg} {it : SI} {gcc : ST} {ff : SE} {elt iter : Expr} {ifs : List Expr} {scope : Scope} {own : List (Str × Nat)} (hc : X.calm = true) (hN : X.N.Nodup) (hi : MI X cf EX tg iter it) (ok : BlkOk X.N X.env.scope scope own)
    (hsl : ∀ i ∈ t.slots, i ∈ own.map (·.2))
    (hg : ∀ (s : Shared) (H : Hp) (C : Addr) (cl : List (Str × Addr)) (fp : List Addr), MG (X.blk s H scope (compEnvC scope cl C X.env) fp) tg t) (ht : ∀ (s : Shared) (H : Hp) (C : Addr) (cl : List (Str × Addr)) (fp : List Addr), MTs (X.blk s H scope (compEnvC scope cl C X.env) fp) cf EX0 ifs gcc)
    (he : ∀ (s : Shared) (H : Hp) (C : Addr) (cl : List (Str × Addr)) (fp : List Addr), ME (X.blk s H scope (compEnvC scope cl C X.env) fp) cf EX0 elt ff) (hs : ∀ x, foldedSetIterable iter X.env x = pure x := by intro _; rfl) :
    ME X cf EX (.ListComp elt [⟨tg, iter, ifs, 0⟩] scope pos) (fComp (own.map (·.2)) t it gcc ff) :=
  PE.weak (pe_lc (g := tG X.K X.mg t) (tt := tT X.K X.mg cf EX0 gcc) (te := tE X.K X.mg cf EX0 ff) hc hN hi ok hg ht he hs) (comp_read hsl)
theorem ms_setComp {t : Tg} {it : SI} {gcc : ST} {ff : SE} {elt iter : Expr} {ifs : List Expr} {scope : Scope} {own : List (Str × Nat)} {i : Nat} {y : Str} {py spos : Pos} (hc : X.calm = true) (hN : X.N.Nodup) (hy : X.N[i]? = some y) (hyl : X.env.scope.names.lookup y = some .local)
    (hsw : swapsWith (.ListComp elt [⟨tg, iter, ifs, 0⟩] scope pos) (some (.Name y py)) spos.line X.env = pure true) (hi : MI X cf EX tg iter it) (ok : BlkOk X.N X.env.scope scope own)
    (hsl : ∀ i ∈ t.slots, i ∈ own.map (·.2))
    (hg : ∀ (s : Shared) (H : Hp) (C : Addr) (cl : List (Str × Addr)) (fp : List Addr), MG (X.blk s H scope (compEnvC scope cl C X.env) fp) tg t) (ht : ∀ (s : Shared) (H : Hp) (C : Addr) (cl : List (Str × Addr)) (fp : List Addr), MTs (X.blk s H scope (compEnvC scope cl C X.env) fp) cf EX0 ifs gcc)
    (he : ∀ (s : Shared) (H : Hp) (C : Addr) (cl : List (Str × Addr)) (fp : List Addr), ME (X.blk s H scope (compEnvC scope cl C X.env) fp) cf EX0 elt ff) (hs : ∀ x, foldedSetIterable iter X.env x = pure x := by intro _; rfl) :
    MS X cf EX (.Assign [.Name y py] (.ListComp elt [⟨tg, iter, ifs, 0⟩] scope pos) spos) (sSet i (fComp (own.map (·.2)) t it gcc ff)) :=
  PS.weak (ps_setLc (g := tG X.K X.mg t) (tt := tT X.K X.mg cf EX0 gcc) (te := tE X.K X.mg cf EX0 ff) hc hN hy hyl hsw hi ok hg ht he hs) fun D σ H ⟨env, S, μ, F, s, q⟩ => comp_read hsl σ H _ ⟨env, S, μ, F, s, (PostS.expr q).mono fun w S1 H1 μ1 s1 x1 q1 v rv => by
    split at q1
    · rename_i pw
      obtain ⟨s2, x2⟩ := s1.set pw rv
      exact q1 _ H1 μ1 s2 x2
    · exact q1.elim⟩
/-- x op= e, of plain things -/
def sAug (i : Nat) (g : G2) (f : SE) : SS := fun cf env S => match env[i]? with
  | some (some w) => if w.plain then (f cf env S).then env fun u S1 => (g w u S1).then env fun z S2 => if z.plain then .next (env.set i (some z)) S2 else .stuck else .stuck
  | _ => .stuck
theorem ms_aug {i : Nat} {op : Operator} {r : R2} {g : G2} {pp : Pos} (hN : X.N.Nodup) (hi : X.N[i]? = some x) (hx : Loc X.env.scope x) (ho : OpR X (inplaceOp op) r) (o : Op X EX r g) (hp : ∀ w u S, w.plain = false ∨ u.plain = false → g w u S = .stuck) (h : ME X cf EX e fa)
    (hf : X.fn x = true ∨ X.env.scope.names.lookup x = some .local := by first | exact .inl rfl | exact .inr rfl | assumption) : MS X cf EX (.AugAssign (.Name x pp) op e pos) (sAug i g fa) := by
  refine PS.weak (ps_aug hN hi hx h (ti := fun x y H Q => r x y H Q) (fun pins s σ H x y v u Q I rx ry q => ho pins s σ H x y v u Q I rx ry q) hf) fun D σ H ⟨env, S, μ, F, s, q⟩ => ?_
  unfold sAug at q
  split at q
  · rename_i w e0
    split at q
    · rename_i pw
      obtain ⟨v, hv, rv⟩ := s.slot i w e0
      refine ⟨v, hv, env, S, μ, F, s, (PostS.expr q).mono fun u S1 H1 μ1 s1 x1 q1 v2 rv2 => ?_⟩
      by_cases pu : u.plain = true
      · refine o F σ env S1 H1 μ1 v v2 w u _ s1 (RW.keep (x1.nn F) x1.pre rv pw) pw rv2 pu ((PostS.expr q1).mono fun z S2 H2 μ2 s2 x2 q2 v3 rv3 => ?_)
        split at q2
        · rename_i pz
          obtain ⟨s3, x3⟩ := s2.set pz rv3
          exact q2 _ H2 μ2 s3 x3
        · exact q2.elim
      · rw [hp w u S1 (.inr (by simpa using pu))] at q1
        exact q1.elim
    · exact q.elim
  · exact q.elim
/-- + of whole numbers -/
def gAddI : G2
  | .d (.int a), .d (.int b), S => .ok (.d (.int (a + b))) S
  | _, _, _ => .stuck
theorem ms_augAdd {i : Nat} {pp : Pos} (hN : X.N.Nodup) (hi : X.N[i]? = some x) (hx : Loc X.env.scope x) (h : ME X cf EX e fa)
    (hf : X.fn x = true ∨ X.env.scope.names.lookup x = some .local := by first | exact .inl rfl | exact .inr rfl | assumption) : MS X cf EX (.AugAssign (.Name x pp) .Add e pos) (sAug i gAddI fa) :=
  ms_aug hN hi hx iop_add (o_int0 fun w u S => by
    unfold gAddI
    split
    · exact .inl ⟨_, _, rfl, rfl, _, fun _ _ => .int _, rfl⟩
    · exact .inr rfl) (gp_int fun w u S k => by
    unfold gAddI at k
    split at k
    · exact ⟨_, _, rfl, rfl⟩
    · exact absurd rfl k) h hf
/-- o[i] = e, o a list of the store -/
def sSetIx (o i f : SE) : SS := fun cf env S => (f cf env S).then env fun w S1 => (o cf env S1).then env fun u S2 => (i cf env S2).then env fun k S3 => match w, u, k with
  | .d x, .ref n, .d (.int j) => (match S3[n]? with
    | some (.lst xs) => (match ixN xs.length j with
      | some m => .next env (S3.set n (.lst (xs.set m x)))
      | none => .stuck)
    | _ => .stuck)
  | _, _, _ => .stuck
theorem ms_setIx {o i : Expr} {fo fi fe : SE} {p2 : Pos} (he : ME X cf EX e fe) (ho : ME X cf EX o fo) (hi : ME X cf EX i fi)
    (ha : ∀ v, assign (.Subscript o i p2) X.env v = (do
      let ov ← holding [v] (eval o X.env)
      let iv ← holding [v, ov] (eval i X.env)
      standAt p2
      holding [v, ov, iv] (setItem ov iv v)
      release [v, ov, iv] []) := by intro _; rfl) (hs : swapsWithSole [.Subscript o i p2] e pos.line X.env = pure false := by rfl) (hw : swappedStores [.Subscript o i p2] e X.env = pure none := by rfl)
    (h1 : (assignEach [.Subscript o i p2] X.env).map (·.2) = [assign (.Subscript o i p2) X.env] := by rfl) : MS X cf EX (.Assign [.Subscript o i p2] e pos) (sSetIx fo fi fe) := by
  refine PS.weak (ps_asg he (pg_sub ho hi set_list ha) hs hw h1) fun D σ H ⟨env, S, μ, F, s, q⟩ => ⟨env, S, μ, F, s, (PostS.expr q).mono fun w S1 H1 μ1 s1 x1 q1 v rv => ?_⟩
  refine ⟨env, S1, μ1, F, s1, (PostS.expr q1).mono fun u S2 H2 μ2 s2 x2 q2 v2 rv2 => ?_⟩
  refine ⟨env, S2, μ2, F, s2, (PostS.expr q2).mono fun k S3 H3 μ3 s3 x3 q3 v3 rv3 => ?_⟩
  split at q3
  · split at q3
    · rename_i hS
      split at q3
      · rename_i m hm
        cases rv2 with
        | ref hn =>
          have hn3 := pre_get x3.pre hn
          obtain ⟨a, ha, ro⟩ := s3.st.obj _ _ hS
          rw [hn3] at ha
          cases ha
          cases ro with
          | lst h t =>
            cases rv with
            | d rd =>
              have rd3 := rd.keep ((x2.nn F).trans (x3.nn F))
              refine ⟨_, _, _, m, rfl, rw_int rv3, h, by rw [t.length]; exact hm, ?_⟩
              obtain ⟨s4, x4⟩ := s3.store hn3 hS h (DnAll.set rd3 m t)
              exact q3 σ _ μ3 s4 x4.s
      · exact q3.elim
    · exact q3.elim
  · exact q3.elim
/-- a, b = e1, e2, e3: names of the frame, stored at once -/
def setW : List Nat → List W → EnvQ → Option EnvQ
  | [], [], env => some env
  | i :: is, w :: ws, env => setW is ws (env.set i (some w))
  | _, _, _ => none
def sPar (is : List Nat) (a : SA) : SS := fun cf env S => (a cf env S).then env fun ws S' => if W.plains ws then (match setW is ws env with
  | some env' => .next env' S'
  | none => .stuck) else .stuck
theorem Sim.set2 (s : Sim K mg F σ H env S μ) {i j : Nat} {v u : V} {w z : W} (pw : w.plain = true) (pz : z.plain = true) (r : RW K mg H (NN F μ σ env) μ v w) (r2 : RW K mg H (NN F μ σ env) μ u z) :
    Sim K mg F ((σ.set i (some v)).set j (some u)) H ((env.set i (some w)).set j (some z)) S μ ∧ ExS σ env H μ ((σ.set i (some v)).set j (some u)) ((env.set i (some w)).set j (some z)) H μ := by
  obtain ⟨s1, x1⟩ := s.set (i := i) pw r
  obtain ⟨s2, x2⟩ := s1.set (i := j) pz (RW.keep (x1.nn F) x1.pre r2 pz)
  exact ⟨s2, x1.trans x2⟩
theorem ms_par2 {i j : Nat} {y : Str} {a b : Expr} {px py pt : Pos} {kt k2 pt2} (hc : X.calm = true) (hN : X.N.Nodup) (hi : X.N[i]? = some x) (hj : X.N[j]? = some y) (hij : i ≠ j)
    (hx : X.env.scope.names.lookup x = some .local) (hy : X.env.scope.names.lookup y = some .local) (h : MA X cf EX [a, b] ha)
    (hw : swappedStores [.Tuple [.Name x px, .Name y py] kt pt] (.Tuple [a, b] k2 pt2) X.env = pure (some [x, y]))
    (hs : swapsWithSole [.Tuple [.Name x px, .Name y py] kt pt] (.Tuple [a, b] k2 pt2) pos.line X.env = pure false := by rfl) :
    MS X cf EX (.Assign [.Tuple [.Name x px, .Name y py] kt pt] (.Tuple [a, b] k2 pt2) pos) (sPar [i, j] ha) :=
  PS.weak (ps_par hc hN hi hj hij hx hy h hw hs) fun D σ H ⟨env, S, μ, F, s, q⟩ => ⟨env, S, μ, F, s, (PostS.expr q).mono fun ws S1 H1 μ1 s1 x1 q1 vs rvs => by
    split at q1
    · rename_i pl
      cases rvs with
      | nil => simp [setW] at q1; exact q1.elim
      | cons r1 t =>
        cases t with
        | nil => simp [setW] at q1; exact q1.elim
        | cons r2 t =>
          cases t with
          | cons _ _ => simp [setW] at q1; exact q1.elim
          | nil =>
            simp only [W.plains, Bool.and_eq_true, and_true] at pl
            obtain ⟨s2, x2⟩ := s1.set2 (i := i) (j := j) pl.1 pl.2 r1 r2
            exact ⟨_, _, rfl, q1 _ H1 μ1 s2 x2⟩
    · exact q1.elim⟩
end
end Q

namespace Q
open PySem PySem.Spec PyProof.Rows L2
section
variable {X : Cx} {cf : CF} {EX : WX} {F : Addr → Prop} {σ : L2.St} {env : EnvQ} {S S' S1 S2 : Sto} {H H' H1 : Hp} {μ μ' μ1 : List Addr} {K : PySem.W.Frag} {mg : Str → Option Value} {e c tg tg1 : Expr} {pos : Pos} {x : Str}
/-- within the block, at its second clause: that one's names are none -/
theorem Sim.wiped (s : Sim K mg F σ H env S μ) {vs : List Nat} (no : ∀ i ∈ vs, notOwn env i = true) : Sim K mg F (wipe σ vs) H (wipeE env vs) S μ := by
  have nn : NN F μ (wipe σ vs) (wipeE env vs) = NN F μ σ env := wipe_nn no F μ
  refine ⟨by rw [wipe_length, wipeE_len]; exact s.len, fun i w e => ?_, fun i w e => s.fin i w (wipeE_get e).2, fun i j a h1 h2 => s.inj i j a ((wipe_own no i a).mp h1) ((wipe_own no j a).mp h2), fun i a h => s.apart i a ((wipe_own no i a).mp h), by rw [nn]; exact s.st, s.ftr, fun a f h => s.fdis a f (by rw [wipe_mm no] at h; exact h)⟩
  obtain ⟨ni, e⟩ := wipeE_get e
  obtain ⟨v, hv, r⟩ := s.slot i w e
  exact ⟨v, by rw [wipe_out' ni]; exact hv, by rw [nn]; exact r⟩
/-- from one state to a later one, the slots as they were; p may turn -/
structure KP (p : Addr) (σ : L2.St) (env : EnvQ) (H : Hp) (μ : List Addr) (H' : Hp) (μ' : List Addr) : Prop where
  keep : Keep (fun a => a = p ∨ MM μ σ env a) H (fun a => a = p ∨ MM μ' σ env a) H'
  pre : μ <+: μ'
theorem KP.refl {p : Addr} : KP p σ env H μ H μ := ⟨Keep.refl _ _, List.prefix_refl _⟩
theorem KP.ext {p : Addr} (k : KP p σ env H1 μ1 H μ) (x : Ext σ env H μ H' μ') : KP p σ env H1 μ1 H' μ' :=
  ⟨fun a o n e => by
    obtain ⟨e1, n1⟩ := k.keep a o n e
    obtain ⟨e2, n2⟩ := x.keep a o (fun h => n1 (.inr h)) e1
    exact ⟨e2, fun h => h.elim (fun h => n1 (.inl h)) n2⟩, List.IsPrefix.trans k.pre x.pre⟩
theorem KP.nn {p : Addr} (k : KP p σ env H μ H' μ') (fp : F p) : Keep (NN F μ σ env) H (NN F μ' σ env) H' := fun a o n e => by
  obtain ⟨e1, n1⟩ := k.keep a o (fun h => n (h.elim (fun z => .inr (z ▸ fp)) .inl)) e
  exact ⟨e1, fun h => h.elim (fun h => n1 (.inr h)) fun h => n (.inr h)⟩
theorem KP.out {p : Addr} (x : Ext σ env H1 μ1 H μ) (k : KP p σ env H μ H' μ') (n : H1 p = none) : Ext σ env H1 μ1 H' μ' :=
  ⟨fun a o na e => by
    obtain ⟨e1, n1⟩ := x.keep a o na e
    have ne := ne_of_none e n
    obtain ⟨e2, n2⟩ := k.keep a o (fun h => h.elim ne n1) e1
    exact ⟨e2, fun h => n2 (.inr h)⟩, List.IsPrefix.trans x.pre k.pre⟩
theorem Sim.unwiped (s : Sim K mg F σ H env S μ) {vs : List Nat} (no : ∀ i ∈ vs, notOwn env i = true) (s' : Sim K mg F (wipe σ vs) H' (wipeE env vs) S' μ') (kn : Keep (NN F μ σ env) H (NN F μ' σ env) H') (pre : μ <+: μ') : Sim K mg F σ H' env S' μ' := by
  have nn : NN F μ' (wipe σ vs) (wipeE env vs) = NN F μ' σ env := wipe_nn no F μ'
  refine ⟨s.len, fun i w e => ?_, s.fin, s.inj, fun i a h => s'.apart i a ((wipe_own no i a).mpr h), by rw [← nn]; exact s'.st, s'.ftr, fun a f h => s'.fdis a f (by rw [wipe_mm no]; exact h)⟩
  by_cases m : i ∈ vs
  · obtain ⟨v, hv, r⟩ := s.slot i w e
    have z := no i m
    unfold notOwn at z
    rw [e] at z
    exact ⟨v, hv, RW.keep kn pre r z⟩
  · obtain ⟨v, hv, r⟩ := s'.slot i w (by rw [wipeE_out m]; exact e)
    rw [wipe_out' m] at hv
    exact ⟨v, hv, by rw [← nn]; exact r⟩
/-- the second clause's own loop -/
theorem comp_inner {t : Tg} {cc : ST} {ff : SE} {vs : List Nat} (hsl : ∀ i ∈ t.slots, i ∈ vs) {J : It} {ds : List D} {p : Addr} {Nx : Hp → Prop} {xs zs0 : List D} {ys0 : List V}
    (s1 : Sim K mg F σ H1 env S1 μ1) (fD : F p) (no : ∀ i ∈ vs, notOwn env i = true) (hJ : IterOf K J ds (NN F μ1 σ env) H1) (hD0 : H1 p = some (.lst ys0)) (tz0 : DnAll K H1 (NN F μ1 σ env) ys0 zs0)
    (e0 : compL t (cc cf) (ff cf) (wipeE env vs) ds S1 = .ok xs S2) (hlen : (zs0 ++ xs).length ≤ LIM)
    (nx : ∀ H' μ' ys, Sim K mg F σ H' env S2 μ' → KP p σ env H1 μ1 H' μ' → H' p = some (.lst ys) → DnAll K H' (NN F μ' σ env) ys (zs0 ++ xs) → Nx H') :
    ∃ W1 : Nat → Nat → Hp → Prop, (∃ m, W1 0 m H1) ∧ ∀ j k H, W1 j k H → (J.stop j H ∧ Nx H) ∨ (J.go j H ∧ ∃ Nx1 : Hp → Prop, (∀ H', Nx1 H' → ∃ k', k' < k ∧ W1 (j + 1) k' H') ∧ ∀ x H', J.yld j H x H' → tG K mg t x (wipe σ vs) H' fun σ3 H5 => wipe σ3 vs = wipe σ vs ∧ tT K mg cf EX0 cc σ3 H5 fun b H6 =>
      if b = true then tE K mg cf EX0 ff σ3 H6 fun y H7 => ∃ acc, H7 p = some (.lst acc) ∧ acc.length < sizeLine ∧ Nx1 (upd H7 p (.lst (acc ++ [y]))) else Nx1 H6) := by
  refine ⟨fun i m H' => i + m = ds.length ∧ ∃ S' μ' ys zs xs', Sim K mg F (wipe σ vs) H' (wipeE env vs) S' μ' ∧ KP p σ env H1 μ1 H' μ' ∧ H' p = some (.lst ys) ∧ DnAll K H' (NN F μ' σ env) ys zs ∧
      compL t (cc cf) (ff cf) (wipeE env vs) (ds.drop i) S' = .ok xs' S2 ∧ zs ++ xs' = zs0 ++ xs, ⟨ds.length, by omega, S1, μ1, ys0, zs0, xs, s1.wiped no, KP.refl, hD0, tz0, by simpa using e0, rfl⟩, ?_⟩
  rintro i m H' ⟨hm, S', μ', ys, zs, xs', s', x0, hD, tz, q', hq⟩
  have s0 := s1.unwiped no s' (x0.nn fD) x0.pre
  have kN : Keep (NN F μ1 σ env) H1 (NN F μ' (wipe σ vs) (wipeE env vs)) H' := by
    rw [wipe_nn no]
    exact x0.nn fD
  obtain ⟨hstop, hgo⟩ := hJ _ H' kN s'.trk i
  by_cases hi : i = ds.length
  · refine .inl ⟨hstop hi, ?_⟩
    rw [hi, List.drop_length] at q'
    simp only [compL, R.ok.injEq] at q'
    obtain ⟨rfl, rfl⟩ := q'
    exact nx H' μ' ys s0 x0 hD (by rw [← hq, List.append_nil]; exact tz)
  · have hlt : i < ds.length := by omega
    have e : ds[i]? = some ds[i] := by simp [hlt]
    obtain ⟨go, y⟩ := hgo _ e
    refine .inr ⟨go, fun H2 => (i + 1) + (m - 1) = ds.length ∧ ∃ S' μ' ys zs xs', Sim K mg F (wipe σ vs) H2 (wipeE env vs) S' μ' ∧ KP p σ env H1 μ1 H2 μ' ∧ H2 p = some (.lst ys) ∧ DnAll K H2 (NN F μ' σ env) ys zs ∧
      compL t (cc cf) (ff cf) (wipeE env vs) (ds.drop (i + 1)) S' = .ok xs' S2 ∧ zs ++ xs' = zs0 ++ xs, fun H2 h => ⟨m - 1, by omega, h⟩, fun v H3 yv => ?_⟩
    obtain ⟨sm, rv⟩ := y v H3 yv
    have s3 := s'.same sm
    have x3 : KP p σ env H1 μ1 H3 μ' := x0.ext (Ext.same sm)
    have hD3 : H3 p = some (.lst ys) := sm _ _ hD
    have tz3 : DnAll K H3 (NN F μ' σ env) ys zs := tz.keep fun a o n e => ⟨sm a o e, n⟩
    rw [List.drop_eq_getElem_cons hlt] at q'
    unfold compL at q'
    split at q'
    · cases q'
    · rename_i env1 e1
      refine ⟨_, _, S', μ', _, env1, s3, rv, e1, fun σ4 s4 x4 o4 => ⟨wipe_only hsl o4, env1, S', μ', _, s4, ?_⟩⟩
      obtain ⟨mm, back⟩ := Sim.turn (K := K) (mg := mg) hsl e1 s1.len o4
      have step : ∀ {Ha Hb : Hp} {μa μb : List Addr}, Ext σ4 env1 Ha μa Hb μb → Ext σ env Ha μa Hb μb := fun x => by
        have k := x.keep
        rw [mm, mm, wipe_mm no, wipe_mm no] at k
        exact ⟨k, x.pre⟩
      have atD : ∀ {Ha Hb : Hp} {μa μb : List Addr} {Sa : Sto} {u : HO}, Sim K mg F (wipe σ vs) Ha (wipeE env vs) Sa μa → Ext σ4 env1 Ha μa Hb μb → Ha p = some u → Hb p = some u := fun sa x h => by
        have k := x.keep
        rw [mm, mm] at k
        exact (k p _ (sa.fdis p fD) h).1
      cases r : cc cf env1 S' with
      | stuck =>
        rw [r] at q'
        cases q'
      | exc c0 S5 =>
        rw [r] at q'
        cases q'
      | ok b S5 =>
        rw [r] at q'
        intro H5 μ5 s5 x5
        have w5 := back s5
        have xx5 := x3.ext (step x5)
        have hD5 := atD s3 x5 hD3
        have tz5 := tz3.keep ((step x5).nn _)
        cases b with
        | false =>
          simp only [R.calm, R.bind_ok, Bool.false_eq_true, if_false] at q' ⊢
          exact ⟨by omega, S5, μ5, ys, zs, xs', w5, xx5, hD5, tz5, q', hq⟩
        | true =>
          simp only [R.calm, R.bind_ok, if_true] at q' ⊢
          refine ⟨env1, S5, μ5, _, s5, ?_⟩
          cases r2 : ff cf env1 S5 with
          | stuck =>
            rw [r2] at q'
            cases q'
          | exc c0 S6 =>
            rw [r2] at q'
            cases q'
          | ok w S6 =>
            rw [r2] at q'
            intro H6 μ6 s6 x6 v2 rv2
            have w6 := back s6
            have xx6 := xx5.ext (step x6)
            have hD6 := atD w5 x6 hD5
            have tz6 := tz5.keep ((step x6).nn _)
            simp only [R.bind_ok] at q'
            split at q'
            · rename_i z
              have rz : Dn K H6 (NN F μ6 σ env) v2 z := by
                cases rv2 with
                | d h =>
                  refine h.keep (Keep.sub fun a ha => ?_)
                  have : NN F μ6 σ4 env1 = NN F μ6 σ env := by
                    unfold NN
                    rw [mm, wipe_mm no]
                  rw [this]
                  exact ha
              cases r7 : compL t (cc cf) (ff cf) (wipeE env vs) (ds.drop (i + 1)) S6 with
              | stuck =>
                rw [r7] at q'
                cases q'
              | exc c0 S7 =>
                rw [r7] at q'
                cases q'
              | ok xs2 S7 =>
                rw [r7] at q'
                simp only [R.bind_ok, R.ok.injEq] at q'
                obtain ⟨rfl, rfl⟩ := q'
                have hz : zs.length < LIM := by
                  have z1 := congrArg List.length hq
                  rw [List.length_append, List.length_cons] at z1
                  omega
                refine ⟨ys, hD6, by rw [← lim_line, tz6.length]; exact hz, by omega, S6, μ6, ys ++ [v2], zs ++ [z], xs2, (w6.updF fD).1, ⟨fun a o na e => ?_, xx6.pre⟩, upd_same, ?_, r7, by simpa using hq⟩
                · obtain ⟨e', n'⟩ := xx6.keep a o na e
                  exact ⟨by rw [upd_ne (fun z => na (.inl z))]; exact e', n'⟩
                · refine (tz6.append (.cons rz .nil)).keep fun a o na e => ⟨?_, na⟩
                  rw [upd_ne (fun z : a = p => na (by rw [z]; exact .inr fD))]
                  exact e
            · cases q'
/-- [e for t in it if c for t1 in it1 if c1] -/
def compL2 (t : Tg) (c : EnvQ → Sto → R Bool) (g : EnvQ → Sto → R (List D)) (env : EnvQ) : List D → Sto → R (List D)
  | [], S => .ok [] S
  | d :: ds, S => match t.set d env with
    | none => .stuck
    | some env1 => (c env1 S).calm.bind fun b S1 => if b = true then (g env1 S1).calm.bind fun xs S2 => (compL2 t c g env ds S2).bind fun ys S3 => .ok (xs ++ ys) S3 else compL2 t c g env ds S1
def gInner (vs : List Nat) (t : Tg) (it : SI) (c : ST) (f : SE) : SI := fun cf env S => if vs.all (notOwn env) then (it cf env S).calm.bind fun ds S1 => compL t (c cf) (f cf) (wipeE env vs) ds S1 else .stuck
def fComp2 (vs : List Nat) (t : Tg) (it : SI) (c : ST) (g : SI) : SE := fun cf env S => if vs.all (notOwn env) then (it cf env S).bind fun ds S1 => (compL2 t (c cf) (g cf) (wipeE env vs) ds S1).calm.bind fun xs S2 => if xs.length ≤ LIM then .ok (.d (.list xs)) S2 else .stuck else .stuck
theorem comp_read2 {t t1 : Tg} {it it1 : SI} {cc cc1 : ST} {ff : SE} {vs vs1 : List Nat} (hsl : ∀ i ∈ t.slots, i ∈ vs) (hsl1 : ∀ i ∈ t1.slots, i ∈ vs1)
    (σ : L2.St) (H : Hp) (Q : VK) (q : tE X.K X.mg cf EX (fComp2 vs t it cc (gInner vs1 t1 it1 cc1 ff)) σ H Q) :
    tLc2 (tI X.K X.mg cf EX it) (tG X.K X.mg t) (tT X.K X.mg cf EX0 cc) (tI X.K X.mg cf EX0 it1) (tG X.K X.mg t1) (tT X.K X.mg cf EX0 cc1) (tE X.K X.mg cf EX0 ff) vs vs1 σ H Q := by
  obtain ⟨env, S, μ, F, s, q⟩ := q
  unfold fComp2 at q
  split at q
  · rename_i no
    have no : ∀ i ∈ vs, notOwn env i = true := fun i hi => List.all_eq_true.mp no i hi
    refine ⟨env, S, μ, F, s, (Post.bind q).mono fun ds S1 H1 μ1 s1 x1 q1 J hJ D nD => ?_⟩
    have fD : ¬ F D := fun h => by
      obtain ⟨u, hu⟩ := s1.ftr D h
      rw [nD] at hu
      cases hu
    cases r0 : compL2 t (cc cf) (gInner vs1 t1 it1 cc1 ff cf) (wipeE env vs) ds S1 with
    | stuck =>
      rw [r0] at q1
      exact q1.elim
    | exc c0 S2 =>
      rw [r0] at q1
      exact q1.elim
    | ok xs0 S2 =>
    rw [r0] at q1
    simp only [R.calm, R.bind_ok] at q1
    split at q1
    · rename_i hlen
      refine ⟨fun i m H' => i + m = ds.length ∧ ∃ S' μ' ys zs xs, Sim X.K X.mg (fun a => a = D ∨ F a) (wipe σ vs) H' (wipeE env vs) S' μ' ∧ Ext σ env H1 μ1 H' μ' ∧ H' D = some (.lst ys) ∧ DnAll X.K H' (NN (fun a => a = D ∨ F a) μ' σ env) ys zs ∧
        compL2 t (cc cf) (gInner vs1 t1 it1 cc1 ff cf) (wipeE env vs) (ds.drop i) S' = .ok xs S2 ∧ zs ++ xs = xs0, ⟨ds.length, by omega, S1, μ1, [], [], xs0, s1.block no nD, ext_new nD, upd_same, .nil, by simpa using r0, rfl⟩, ?_⟩
      rintro i m H' ⟨hm, S', μ', ys, zs, xs, s', x0, hD, tz, q', hq⟩
      have s0 := s1.unblock no s' x0
      have kN : Keep (NN F μ1 σ env) H1 (NN (fun a => a = D ∨ F a) μ' (wipe σ vs) (wipeE env vs)) H' := fun a o na e => by
        obtain ⟨e', n'⟩ := x0.nn F a o na e
        refine ⟨e', fun h => ?_⟩
        rw [wipe_nn no] at h
        rcases h with h | h | h
        · exact n' (.inl h)
        · exact ne_of_none e nD h
        · exact n' (.inr h)
      obtain ⟨hstop, hgo⟩ := hJ _ H' kN s'.trk i
      have nDN : ∀ {H2 S2 μ2}, Sim X.K X.mg (fun a => a = D ∨ F a) (wipe σ vs) H2 (wipeE env vs) S2 μ2 → ¬ NN F μ2 σ env D := fun s2 h => h.elim (fun h => s2.fdis D (.inl rfl) (by rw [wipe_mm no]; exact h)) fD
      by_cases hi : i = ds.length
      · refine .inl ⟨hstop hi, ?_⟩
        rw [hi, List.drop_length] at q'
        simp only [compL2, R.ok.injEq] at q'
        obtain ⟨rfl, rfl⟩ := q'
        rw [List.append_nil] at hq
        subst hq
        exact q1 H' μ' s0 x0 _ (.d (.lst ⟨nDN s', hD⟩ (tz.keep (Keep.sub fun a h => h.elim .inl fun h => .inr (.inr h)))))
      · have hlt : i < ds.length := by omega
        have e : ds[i]? = some ds[i] := by simp [hlt]
        obtain ⟨go, y⟩ := hgo _ e
        refine .inr ⟨go, fun H2 => (i + 1) + (m - 1) = ds.length ∧ ∃ S' μ' ys zs xs, Sim X.K X.mg (fun a => a = D ∨ F a) (wipe σ vs) H2 (wipeE env vs) S' μ' ∧ Ext σ env H1 μ1 H2 μ' ∧ H2 D = some (.lst ys) ∧ DnAll X.K H2 (NN (fun a => a = D ∨ F a) μ' σ env) ys zs ∧
          compL2 t (cc cf) (gInner vs1 t1 it1 cc1 ff cf) (wipeE env vs) (ds.drop (i + 1)) S' = .ok xs S2 ∧ zs ++ xs = xs0, fun H2 h => ⟨m - 1, by omega, h⟩, fun v H3 yv => ?_⟩
        obtain ⟨sm, rv⟩ := y v H3 yv
        have s3 := s'.same sm
        have x3 : Ext σ env H1 μ1 H3 μ' := x0.trans (Ext.same sm)
        have hD3 : H3 D = some (.lst ys) := sm _ _ hD
        have tz3 : DnAll X.K H3 (NN (fun a => a = D ∨ F a) μ' σ env) ys zs := tz.keep fun a o n e => ⟨sm a o e, n⟩
        rw [List.drop_eq_getElem_cons hlt] at q'
        unfold compL2 at q'
        split at q'
        · cases q'
        · rename_i env1 e1
          refine ⟨_, _, S', μ', _, env1, s3, rv, e1, fun σ4 s4 x4 o4 => ⟨wipe_only hsl o4, env1, S', μ', _, s4, ?_⟩⟩
          obtain ⟨mm, back⟩ := Sim.turn (K := X.K) (mg := X.mg) hsl e1 s.len o4
          have step : ∀ {Ha Hb : Hp} {μa μb : List Addr}, Ext σ4 env1 Ha μa Hb μb → Ext σ env Ha μa Hb μb := fun x => by
            have k := x.keep
            rw [mm, mm, wipe_mm no, wipe_mm no] at k
            exact ⟨k, x.pre⟩
          have stepP : ∀ {Ha Hb : Hp} {μa μb : List Addr}, KP D σ4 env1 Ha μa Hb μb → KP D σ env Ha μa Hb μb := fun x => by
            have k := x.keep
            rw [mm, mm, wipe_mm no, wipe_mm no] at k
            exact ⟨k, x.pre⟩
          have nnE : ∀ μ, NN (fun a => a = D ∨ F a) μ σ4 env1 = NN (fun a => a = D ∨ F a) μ σ env := fun μ => by
            unfold NN
            rw [mm, wipe_mm no]
          have atD : ∀ {Ha Hb : Hp} {μa μb : List Addr} {Sa : Sto} {u : HO}, Sim X.K X.mg (fun a => a = D ∨ F a) (wipe σ vs) Ha (wipeE env vs) Sa μa → Ext σ4 env1 Ha μa Hb μb → Ha D = some u → Hb D = some u := fun sa x h => by
            have k := x.keep
            rw [mm, mm] at k
            exact (k D _ (sa.fdis D (.inl rfl)) h).1
          cases r : cc cf env1 S' with
          | stuck =>
            rw [r] at q'
            cases q'
          | exc c0 S5 =>
            rw [r] at q'
            cases q'
          | ok b S5 =>
            rw [r] at q'
            intro H5 μ5 s5 x5
            have w5 := back s5
            have xx5 := x3.trans (step x5)
            have hD5 := atD s3 x5 hD3
            have tz5 := tz3.keep ((step x5).nn _)
            cases b with
            | false =>
              simp only [R.calm, R.bind_ok, Bool.false_eq_true, if_false] at q' ⊢
              exact ⟨by omega, S5, μ5, ys, zs, xs, w5, xx5, hD5, tz5, q', hq⟩
            | true =>
              simp only [R.calm, R.bind_ok, if_true] at q' ⊢
              refine ⟨env1, S5, μ5, _, s5, ?_⟩
              cases r2 : gInner vs1 t1 it1 cc1 ff cf env1 S5 with
              | stuck =>
                rw [r2] at q'
                cases q'
              | exc c0 S6 =>
                rw [r2] at q'
                cases q'
              | ok xs1 S6 =>
                rw [r2] at q'
                simp only [R.bind_ok] at q'
                cases r3 : compL2 t (cc cf) (gInner vs1 t1 it1 cc1 ff cf) (wipeE env vs) (ds.drop (i + 1)) S6 with
                | stuck =>
                  rw [r3] at q'
                  cases q'
                | exc c0 S7 =>
                  rw [r3] at q'
                  cases q'
                | ok xs2 S7 =>
                  rw [r3] at q'
                  simp only [R.bind_ok, R.ok.injEq] at q'
                  obtain ⟨rfl, rfl⟩ := q'
                  unfold gInner at r2
                  split at r2
                  · rename_i no1
                    have no1 : ∀ i ∈ vs1, notOwn env1 i = true := fun i hi => List.all_eq_true.mp no1 i hi
                    cases r4 : it1 cf env1 S5 with
                    | stuck =>
                      rw [r4] at r2
                      cases r2
                    | exc c0 S8 =>
                      rw [r4] at r2
                      cases r2
                    | ok ds1 S8 =>
                      rw [r4] at r2
                      simp only [R.calm, R.bind_ok] at r2
                      intro H6 μ6 s6 x6 J1 hJ1
                      have w6 := back s6
                      have xx6 := xx5.trans (step x6)
                      have hD6 := atD w5 x6 hD5
                      have tz6 := tz5.keep ((step x6).nn _)
                      refine comp_inner hsl1 s6 (.inl rfl) no1 hJ1 hD6 (by rw [nnE]; exact tz6) r2 (xs := xs1) (zs0 := zs) ?_ ?_
                      · rw [← hq] at hlen
                        simp only [List.length_append] at hlen ⊢
                        omega
                      · intro H7 μ7 ys7 s7 x7 hD7 tz7
                        exact ⟨by omega, S6, μ7, ys7, zs ++ xs1, xs2, back s7, KP.out xx6 (stepP x7) nD, hD7, by rw [← nnE]; exact tz7, r3, by rw [List.append_assoc]; exact hq⟩
                  · cases r2
    · exact q1.elim
  · exact q.elim
theorem me_comp2 {t t1 : Tg} {it it1 : SI} {gcc gcc1 : ST} {ff : SE} {elt iter iter1 : Expr} {ifs ifs1 : List Expr} {scope : Scope} {own : List (Str × Nat)} {vs1 : List Nat} (hc : X.calm = true) (hN : X.N.Nodup) (hi : MI X cf EX tg iter it) (ok : BlkOk X.N X.env.scope scope own)
    (hv : ∀ i ∈ vs1, i ∈ own.map (·.2)) (hsl : ∀ i ∈ t.slots, i ∈ own.map (·.2)) (hsl1 : ∀ i ∈ t1.slots, i ∈ vs1)
    (hg : ∀ (s : Shared) (H : Hp) (C : Addr) (cl : List (Str × Addr)) (fp : List Addr), MG (X.blk s H scope (compEnvC scope cl C X.env) fp) tg t) (ht : ∀ (s : Shared) (H : Hp) (C : Addr) (cl : List (Str × Addr)) (fp : List Addr), MTs (X.blk s H scope (compEnvC scope cl C X.env) fp) cf EX0 ifs gcc)
    (hi1 : ∀ (s : Shared) (H : Hp) (C : Addr) (cl : List (Str × Addr)) (fp : List Addr), MI (X.blk s H scope (compEnvC scope cl C X.env) fp) cf EX0 tg1 iter1 it1)
    (hg1 : ∀ (s : Shared) (H : Hp) (C : Addr) (cl : List (Str × Addr)) (fp : List Addr), MG (X.blk s H scope (compEnvC scope cl C X.env) fp) tg1 t1) (ht1 : ∀ (s : Shared) (H : Hp) (C : Addr) (cl : List (Str × Addr)) (fp : List Addr), MTs (X.blk s H scope (compEnvC scope cl C X.env) fp) cf EX0 ifs1 gcc1)
    (he : ∀ (s : Shared) (H : Hp) (C : Addr) (cl : List (Str × Addr)) (fp : List Addr), ME (X.blk s H scope (compEnvC scope cl C X.env) fp) cf EX0 elt ff) (hs : ∀ x, foldedSetIterable iter X.env x = pure x := by intro _; rfl) (hs1 : ∀ env x, foldedSetIterable iter1 env x = pure x := by intro _ _; rfl) :
    ME X cf EX (.ListComp elt [⟨tg, iter, ifs, 0⟩, ⟨tg1, iter1, ifs1, 0⟩] scope pos) (fComp2 (own.map (·.2)) t it gcc (gInner vs1 t1 it1 gcc1 ff)) :=
  PE.weak (pe_lc2 (g := tG X.K X.mg t) (tt := tT X.K X.mg cf EX0 gcc) (wi1 := tI X.K X.mg cf EX0 it1) (g1 := tG X.K X.mg t1) (tt1 := tT X.K X.mg cf EX0 gcc1) (te := tE X.K X.mg cf EX0 ff) hc hN hi ok hv hg ht hi1 hg1 ht1 he hs hs1) (comp_read2 hsl hsl1)
end
end Q

namespace Q
open PySem PySem.Spec PyProof.Rows L2
section
variable {X : Cx} {cf : CF} {EX : WX} {F : Addr → Prop} {σ : L2.St} {env : EnvQ} {S S' : Sto} {H H' : Hp} {μ μ' : List Addr} {K : PySem.W.Frag} {mg : Str → Option Value} {e a b c tg : Expr} {es : List Expr} {fa fb : SE} {ha hb : SA} {pos p : Pos} {x : Str}

theorem Sim.alloc (s : Sim K mg F σ H env S μ) {p : Addr} {vs : List V} {xs : List D} (n : H p = none) (t : DnAll K H (NN F μ σ env) vs xs) : Sim K mg F σ (upd H p (.lst vs)) env (S ++ [.lst xs]) (μ ++ [p]) ∧ Ext σ env H μ (upd H p (.lst vs)) (μ ++ [p]) := by
  have kp : Keep (MM μ σ env) H (MM (μ ++ [p]) σ env) (upd H p (.lst vs)) := fun a o na e => by
    have ne : a ≠ p := ne_of_none e n
    refine ⟨by rw [upd_ne ne]; exact e, fun h => ?_⟩
    rcases h with h | h
    · rcases List.mem_append.mp h with h | h
      · exact na (.inl h)
      · exact ne (by simpa using h)
    · exact na (.inr h)
  have ex : Ext σ env H μ (upd H p (.lst vs)) (μ ++ [p]) := ⟨kp, List.prefix_append _ _⟩
  have kn := ex.nn F
  have np : ∀ a, NN F μ σ env a → a ≠ p := fun a h z => s.fresh n (z ▸ h)
  refine ⟨⟨s.len, fun i w e => ?_, s.fin, s.inj, fun i a h m => ?_, ⟨?_, ?_, fun k ob e => ?_⟩, fun a f => ?_, fun a f h => ?_⟩, ex⟩
  · obtain ⟨v, hv, r⟩ := s.slot i w e
    refine ⟨v, hv, ?_⟩
    by_cases po : w.isOwn = true
    · obtain ⟨b, ob, rfl, hb, tb⟩ := own_or_plain r po
      exact (tb.keep kn).rw (by rw [upd_ne (ne_of_none hb n)]; exact hb)
    · have pl : w.plain = true := by
        have fi := s.fin i w e
        unfold W.fine at fi
        simpa [po] using fi
      exact RW.keep kn ex.pre r pl
  · rcases List.mem_append.mp m with m | m
    · exact s.apart i a h m
    · exact np a (.inl (.inr ⟨i, h⟩)) (by simpa using m)
  · rw [List.length_append, List.length_append, s.st.len]
    rfl
  · refine List.nodup_append.mpr ⟨s.st.nd, by simp, fun a h1 b h2 z => ?_⟩
    subst z
    exact np a (.inl (.inl h1)) (by simpa using h2)
  · by_cases hk : k < S.length
    · rw [List.getElem?_append_left hk] at e
      obtain ⟨b, hb, r⟩ := s.st.obj k ob e
      refine ⟨b, pre_get ex.pre hb, ?_⟩
      cases r with
      | lst h t' => exact .lst (by rw [upd_ne (ne_of_none h n)]; exact h) (t'.keep kn)
      | ins g h m t' pl => exact .ins g (by rw [upd_ne (ne_of_none h n)]; exact h) m (RWs.keep kn ex.pre t' pl) pl
      | dct h t' => exact .dct (by rw [upd_ne (ne_of_none h n)]; exact h) fun e he => (t' e he).keep kn
      | dcm h t' => exact .dcm (by rw [upd_ne (ne_of_none h n)]; exact h) (t'.keep kn)
      | tab h0 t' => exact .tab h0 (t'.keep (fun h => by rw [upd_ne (ne_of_none h n)]; exact h) kn)
    · rw [List.getElem?_append_right (by omega)] at e
      have k0 : k - S.length = 0 := by
        have := (List.getElem?_eq_some_iff.mp e).1
        simp at this
        omega
      rw [k0] at e
      simp at e
      subst e
      refine ⟨p, ?_, .lst upd_same (t.keep kn)⟩
      rw [List.getElem?_append_right (by rw [s.st.len]; omega), s.st.len, k0]
      rfl
  · obtain ⟨u, hu⟩ := s.ftr a f
    exact ⟨u, by rw [upd_ne (ne_of_none hu n)]; exact hu⟩
  · rcases h with h | h
    · rcases List.mem_append.mp h with h | h
      · exact s.fdis a f (.inl h)
      · exact np a (.inr f) (by simpa using h)
    · exact s.fdis a f (.inr h)
def fNewL (a : SA) : SE := fun cf env S => (a cf env S).bind fun ws S1 => if ws.length ≤ LIM then (match datas ws with
  | some ds => .ok (.ref S1.length) (S1 ++ [.lst ds])
  | none => .stuck) else .stuck
theorem me_newL (h : MA X cf EX es ha) : ME X cf EX (.List es pos) (fNewL ha) :=
  PE.weak (pe_lst h) fun σ H Q ⟨env, S, μ, F, s, q⟩ => ⟨env, S, μ, F, s, (Post.bind q).mono fun ws S1 H1 μ1 s1 x1 q1 vs rvs => by
    split at q1
    · rename_i hl
      refine ⟨by rw [← lim_line, rvs.length]; exact hl, fun p n => ?_⟩
      split at q1
      · rename_i ds e
        obtain ⟨s2, x2⟩ := s1.alloc n (datas_dn rvs e)
        refine q1 _ _ s2 x2 _ (.ref ?_)
        rw [← s1.st.len, List.getElem?_append_right (Nat.le_refl _)]
        simp
      · exact q1.elim
    · exact q1.elim⟩

def okShow (d : D) : Bool := d.showable && !d.hasDict && decide (d.depth ≤ 60) && decide (d.shown.length ≤ LIM)
def gRepr : GN
  | [.d d], S => if okShow d then .ok (.d (.str d.shown)) S else .stuck
  | _, _ => .stuck
theorem dn_dp' {v : V} {d : D} {N : Addr → Prop} (h : Dn K H N v d) (e : d.hasDict = false) : Dp K H v d := Dn.dp h (fun kvs q => by subst q; simp [PyData.hasDict] at e) e
theorem call_reprD {k : Nat} (hA : X.A.guards = some []) (hr : Room k X.A) : CallR X (.builtin "repr") (fun xs H Q => ∃ x d, xs = [x] ∧ Dp X.K H x d ∧ d.showable = true ∧ d.hasDict = false ∧ d.depth ≤ 60 ∧ d.shown.length ≤ sizeLine ∧ Q (.str d.shown) H) := by
  intro pins s σ H xs us Q I r h
  obtain ⟨x, d, rfl, hd, h1, h2, h3, h4, q⟩ := h
  obtain ⟨u, rfl, rx⟩ := vals1 r
  have un := hr.units
  obtain ⟨as, rd⟩ := Dp.reads I d x u hd rx
  cases d with
  | none =>
    cases rd
    exact PySem.P.repr_of_none ⟨.str _, H, I.tok _, ⟨_, rfl⟩, by simpa [PyData.shown] using q⟩
  | bool b =>
    cases rd
    exact PySem.P.repr_of_bool ⟨.str _, H, I.tok _, ⟨_, rfl⟩, by simpa [PyData.shown] using q⟩
  | int i =>
    cases rd
    exact PySem.P.repr_of_int (by simpa [PyData.showable] using h1) ⟨.str _, H, I.tok _, ⟨_, rfl⟩, by simpa [PyData.shown] using q⟩
  | str z =>
    cases rd
    exact PySem.P.repr_of_str ⟨.str _, H, I.tok _, ⟨_, rfl⟩, by simpa [PyData.shown] using q⟩ (by simpa [PyData.shown] using h4)
  | list ds =>
    have hu : X.A.units + (PyData.depth (.list ds) + 1) < cLine := by omega
    cases rd with
    | list e1 e2 e3 e4 =>
      exact repr_of_reads' (.list e1 e2 e3 e4) h1 (PyData.noDict_hsm h2) hA hu (fun _ _ e => e) (fun h' u tk hk => ⟨.str _, H, I.kept (t' := tk) hk, ⟨_, rfl⟩, q⟩) h4
  | tuple ds =>
    have hu : X.A.units + (PyData.depth (.tuple ds) + 1) < cLine := by omega
    cases rd with
    | tuple e1 e2 e3 e4 =>
      exact repr_of_reads' (.tuple e1 e2 e3 e4) h1 (PyData.noDict_hsm h2) hA hu (fun _ _ e => e) (fun h' u tk hk => ⟨.str _, H, I.kept (t' := tk) hk, ⟨_, rfl⟩, q⟩) h4
  | dict kvs => simp [PyData.hasDict] at h2
theorem co_repr : CallOp X EX (fun xs H Q => ∃ x d, xs = [x] ∧ Dp X.K H x d ∧ d.showable = true ∧ d.hasDict = false ∧ d.depth ≤ 60 ∧ d.shown.length ≤ sizeLine ∧ Q (.str d.shown) H) gRepr := by
  intro F σ env S H μ vs ws Q s rvs q
  unfold gRepr at q
  split at q
  · obtain ⟨v, rfl, rv⟩ := rws1 rvs
    split at q
    · rename_i hs
      simp only [okShow, Bool.and_eq_true, Bool.not_eq_true', decide_eq_true_eq] at hs
      obtain ⟨⟨⟨h1, h2⟩, h3⟩, h4⟩ := hs
      cases rv with
      | d hd => exact ⟨v, _, rfl, dn_dp' hd h2, h1, h2, h3, by rw [← lim_line]; exact h4, post_here s (.d (.str _)) q⟩
    · exact q.elim
  · exact q.elim
theorem me_repr {k : Nat} (hA : X.A.guards = some []) (hr : Room k X.A) (hg : Gl X "repr") (hm : X.mg "repr" = none) (h : MA X cf EX [e] ha) (he : starEach [e] X.env = (false, eval e X.env) :: starEach [] X.env := by rfl) (hpl : (backTo pos (starEach [] X.env)).any (·.1) = false := by rfl) :
    ME X cf EX (.Call (.Name "repr" p) [e] [] pos) (fB gRepr ha) := me_callB (call_reprD hA hr) co_repr hg hm (by decide +kernel) h (he := he) (hpl := hpl)

def gSum : GN
  | [.d (.list xs)], S => match intsOf xs with | some is => .ok (.d (.int is.sum)) S | none => .stuck
  | [.d (.tuple xs)], S => match intsOf xs with | some is => .ok (.d (.int is.sum)) S | none => .stuck
  | _, _ => .stuck
def flatD : D → Bool
  | .none => true
  | .bool _ => true
  | .int _ => true
  | .str _ => true
  | _ => false
def inD (x : D) (xs : List D) : Bool := xs.any fun y => PyData.eqv y x
def gIn : G2
  | .d x, .d (.tuple xs), S => if flatD x && xs.all flatD then .ok (.d (.bool (inD x xs))) S else .stuck
  | .d x, .d (.list xs), S => if flatD x && xs.all flatD then .ok (.d (.bool (inD x xs))) S else if okEq x && okEq (.list xs) then .ok (.d (.bool (inD x xs))) S else .stuck
  | _, _, _ => .stuck
theorem flat_v {N : Addr → Prop} {v : V} {d : D} (h : Dn K H N v d) (f : flatD d = true) : flatV v = true := by
  cases h <;> first | rfl | simp [flatD] at f
theorem flat_vs {N : Addr → Prop} : ∀ {vs : List V} {ds : List D}, DnAll K H N vs ds → ds.all flatD = true → vs.all flatV = true
  | _, _, .nil, _ => rfl
  | _, _, .cons h t, f => by
    simp only [List.all_cons, Bool.and_eq_true] at f ⊢
    exact ⟨flat_v h f.1, flat_vs t f.2⟩
theorem eqV_eqv {N : Addr → Prop} {v u : V} {d z : D} (h : Dn K H N v d) (h2 : Dn K H N u z) (f : flatD d = true) (f2 : flatD z = true) : eqV v u = PyData.eqv d z := by
  cases h <;> cases h2 <;> first | rfl | (exfalso; simp [flatD] at f; done) | (exfalso; simp [flatD] at f2; done) | simp [eqV, PyData.eqv]
theorem inV_inD {N : Addr → Prop} {v : V} {d : D} (h : Dn K H N v d) (f : flatD d = true) : ∀ {vs : List V} {ds : List D}, DnAll K H N vs ds → ds.all flatD = true → inV v vs = inD d ds
  | _, _, .nil, _ => rfl
  | _, _, .cons r t, g => by
    simp only [List.all_cons, Bool.and_eq_true] at g
    have ih := inV_inD h f t g.2
    unfold inV inD at ih ⊢
    rw [List.any_cons, List.any_cons, ih, eqV_eqv r h g.1 f]
theorem o_in : Op X EX (fun x y H Q => rIn X.K false x y H Q ∨ rInD X.K x y H Q) gIn := by
  intro F σ env S H μ x y w u Q s rx pw ry pu q
  unfold gIn at q
  split at q
  · obtain ⟨a, vs, rfl, ha, ta⟩ := rw_tup ry
    split at q
    · rename_i f
      rw [Bool.and_eq_true] at f
      cases rx with
      | d hx =>
        refine .inl ⟨a, vs, rfl, .inr ha.sq, flat_v hx f.1, flat_vs ta f.2, ?_⟩
        rw [inV_inD hx f.1 ta f.2]
        exact post_here s (.d (.bl _)) q
    · exact q.elim
  · obtain ⟨a, vs, rfl, na, ha, ta⟩ := rw_lst ry
    cases rx with
    | d hx =>
      split at q
      · rename_i f
        rw [Bool.and_eq_true] at f
        refine .inl ⟨a, vs, rfl, .inl (SqL.of ha), flat_v hx f.1, flat_vs ta f.2, ?_⟩
        rw [inV_inD hx f.1 ta f.2]
        exact post_here s (.d (.bl _)) q
      · split at q
        · rename_i f
          rw [Bool.and_eq_true] at f
          cases ry with
          | d hy =>
            obtain ⟨p1, s1⟩ := dn_dp hx f.1
            obtain ⟨p2, s2⟩ := dn_dp hy f.2
            exact .inr ⟨_, _, p1, p2, s1, s2, post_here s (.d (.bl _)) q⟩
        · exact q.elim
  · exact q.elim
theorem units65 {k : Nat} {A : Around} (hr : Room k A) : A.units + 65 < cLine := by
  have := hr.un
  omega
theorem cm_in {k : Nat} (hr : Room k X.A) : Cm X EX .In gIn := ⟨⟨_, OpR.or op_in_seq (op_inD (units65 hr)), o_in⟩, g_plain _ fun w u S k => by
  unfold gIn at k
  split at k <;> first | exact ⟨rfl, rfl⟩ | exact absurd rfl k⟩
/-- a list that nobody knows becomes one's own -/
theorem Sim.adoptG {p : Addr} (s : Sim K mg (fun a => a = p ∨ F a) σ H env S μ) {i : Nat} {ob0 : HO} {w0 : W} (hp : H p = some ob0) (t : OwnR K H (NN (fun a => a = p ∨ F a) μ σ env) ob0 w0) (io : w0.isOwn = true) (fp : ¬ F p) :
    Sim K mg F (σ.set i (some (.ref p))) H (env.set i (some w0)) S μ ∧ ∀ a, MM μ (σ.set i (some (.ref p))) (env.set i (some w0)) a → a = p ∨ MM μ σ env a := by
  have np : ¬ MM μ σ env p := s.fdis p (.inl rfl)
  have ow : ∀ j a, OwnAt (σ.set i (some (.ref p))) (env.set i (some w0)) j a → (j = i ∧ a = p) ∨ (j ≠ i ∧ OwnAt σ env j a) := fun j a ⟨h1, u, h2, h3⟩ => by
    rcases set_get h2 with ⟨e, z⟩ | ⟨n, z⟩
    · rcases set_get h1 with ⟨_, y⟩ | ⟨ne, _⟩
      · cases y
        exact .inl ⟨e, rfl⟩
      · exact absurd e ne
    · rcases set_get h1 with ⟨e, _⟩ | ⟨_, y⟩
      · exact absurd e n
      · exact .inr ⟨n, y, u, z, h3⟩
  have sub : ∀ a, MM μ (σ.set i (some (.ref p))) (env.set i (some w0)) a → a = p ∨ MM μ σ env a := fun a h => h.elim (fun h => .inr (.inl h)) fun ⟨j, h⟩ => (ow j a h).elim (fun h => .inl h.2) fun h => .inr (.inr ⟨j, h.2⟩)
  have subN : ∀ a, NN F μ (σ.set i (some (.ref p))) (env.set i (some w0)) a → NN (fun a => a = p ∨ F a) μ σ env a := fun a h => h.elim (fun h => (sub a h).elim (fun h => .inr (.inl h)) .inl) fun h => .inr (.inr h)
  refine ⟨⟨by simpa using s.len, fun j u e => ?_, fun j u e => ?_, fun j k a h1 h2 => ?_, fun j a h m => ?_, s.st.sub subN, fun a f => s.ftr a (.inr f), fun a f h => ?_⟩, sub⟩
  · rcases set_get e with ⟨z, y⟩ | ⟨nj, z⟩
    · subst z
      cases y
      have hl : j < σ.length := by
        rw [s.len]
        have q := (List.getElem?_eq_some_iff.mp e).1
        simpa using q
      exact ⟨_, List.getElem?_set_self hl, (t.keep (Keep.sub subN)).rw hp⟩
    · obtain ⟨v', h1, h2⟩ := s.slot j u z
      exact ⟨v', by rw [List.getElem?_set_ne (Ne.symm nj)]; exact h1, RW.sub subN h2⟩
  · rcases set_get e with ⟨z, y⟩ | ⟨n, z⟩
    · cases y
      simp [W.fine, io]
    · exact s.fin j u z
  · rcases ow j a h1 with ⟨e1, e2⟩ | ⟨e1, e2⟩
    · rcases ow k a h2 with ⟨e3, _⟩ | ⟨_, e4⟩
      · rw [e1, e3]
      · exact absurd (e2 ▸ .inr ⟨k, e4⟩) np
    · rcases ow k a h2 with ⟨_, e4⟩ | ⟨_, e4⟩
      · exact absurd (e4 ▸ .inr ⟨j, e2⟩) np
      · exact s.inj j k a e2 e4
  · rcases ow j a h with ⟨_, e2⟩ | ⟨_, e2⟩
    · subst e2
      exact np (.inl m)
    · exact s.apart j a e2 m
  · rcases sub a h with e | h
    · exact fp (e ▸ f)
    · exact s.fdis a (.inr f) h
/-- behind a new list at p: the callers' too -/
theorem Sim.lay (s : Sim K mg F σ H env S μ) {p : Addr} {o : HO} (n : H p = none) : Sim K mg (fun a => a = p ∨ F a) σ (upd H p o) env S μ := by
  have kp : Keep (NN F μ σ env) H (NN (fun a => a = p ∨ F a) μ σ env) (upd H p o) := fun a u na e => by
    have ne : a ≠ p := ne_of_none e n
    exact ⟨by rw [upd_ne ne]; exact e, fun h => h.elim (fun h => na (.inl h)) fun h => h.elim ne fun h => na (.inr h)⟩
  refine ⟨s.len, fun i w e => ?_, s.fin, s.inj, s.apart, ⟨s.st.len, s.st.nd, fun k ob e => ?_⟩, fun a f => ?_, fun a f h => ?_⟩
  · obtain ⟨v, hv, r⟩ := s.slot i w e
    refine ⟨v, hv, ?_⟩
    by_cases po : w.isOwn = true
    · obtain ⟨a, ob, rfl, hb, tb⟩ := own_or_plain r po
      exact (tb.keep kp).rw (by rw [upd_ne (ne_of_none hb n)]; exact hb)
    · have pl : w.plain = true := by
        have fi := s.fin i w e
        unfold W.fine at fi
        simpa [po] using fi
      exact RW.keep kp (List.prefix_refl _) r pl
  · obtain ⟨b, hb, r⟩ := s.st.obj k ob e
    refine ⟨b, hb, ?_⟩
    cases r with
    | lst h t' => exact .lst (by rw [upd_ne (ne_of_none h n)]; exact h) (t'.keep kp)
    | ins g h m t' pl => exact .ins g (by rw [upd_ne (ne_of_none h n)]; exact h) m (RWs.keep kp (List.prefix_refl _) t' pl) pl
    | dct h t' => exact .dct (by rw [upd_ne (ne_of_none h n)]; exact h) fun e he => (t' e he).keep kp
    | dcm h t' => exact .dcm (by rw [upd_ne (ne_of_none h n)]; exact h) (t'.keep kp)
    | tab h0 t' => exact .tab h0 (t'.keep (fun h => by rw [upd_ne (ne_of_none h n)]; exact h) kp)
  · rcases f with rfl | f
    · exact ⟨_, upd_same⟩
    · obtain ⟨u, hu⟩ := s.ftr a f
      exact ⟨u, by rw [upd_ne (ne_of_none hu n)]; exact hu⟩
  · rcases f with rfl | f
    · exact s.fresh n (.inl h)
    · exact s.fdis a f h
theorem tr_none (s : Sim K mg F σ H env S μ) {p : Addr} (n : H p = none) : ¬ F p := fun f => by
  obtain ⟨u, hu⟩ := s.ftr p f
  rw [n] at hu
  cases hu
theorem Sim.unlay {p : Addr} (s' : Sim K mg (fun a => a = p ∨ F a) σ H env S μ) : Sim K mg F σ H env S μ :=
  ⟨s'.len, fun i w e => let ⟨v, hv, r⟩ := s'.slot i w e; ⟨v, hv, RW.sub (fun a h => h.elim .inl fun h => .inr (.inr h)) r⟩, s'.fin, s'.inj, s'.apart, s'.st.sub fun a h => h.elim .inl fun h => .inr (.inr h), fun a f => s'.ftr a (.inr f), fun a f => s'.fdis a (.inr f)⟩
end
end Q

namespace Q
open PySem PySem.Spec PyProof.Rows L2
inductive EL where
  | p (f : SE)
  | o (a : SA)
  | od
def elsE : List EL → CF → EnvQ → Sto → R (List W)
  | [] => fun _ _ S => .ok [] S
  | .p f :: r => fun cf env S => (f cf env S).bind fun w S1 => if w.plain then (elsE r cf env S1).bind fun ws S2 => .ok (w :: ws) S2 else .stuck
  | .o a :: r => fun cf env S => (a cf env S).bind fun ws S1 => if ws.length ≤ LIM then (match datas ws with
    | some ds => (elsE r cf env S1).bind fun us S2 => .ok (.own ds :: us) S2
    | none => .stuck) else .stuck
  | .od :: r => fun cf env S => (elsE r cf env S).bind fun us S2 => .ok (.ownd [] :: us) S2
def sParX (is : List Nat) (es : List EL) : SS := fun cf env S => (elsE es cf env S).then env fun ws S' => if ws.length ≤ LIM then (match setW is ws env with
  | some env' => .next env' S'
  | none => .stuck) else .stuck
inductive RWo (K : PySem.W.Frag) (mg : Str → Option Value) (H : Hp) (N : Addr → Prop) (μ : List Addr) : List Addr → List V → List W → Prop
  | nil : RWo K mg H N μ [] [] []
  | p {L : List Addr} {v : V} {vs : List V} {w : W} {ws : List W} : RW K mg H N μ v w → w.plain = true → RWo K mg H N μ L vs ws → RWo K mg H N μ L (v :: vs) (w :: ws)
  | o {L : List Addr} {a : Addr} {ob : HO} {w : W} {vs : List V} {ws : List W} : H a = some ob → OwnR K H N ob w → a ∉ L → RWo K mg H N μ L vs ws → RWo K mg H N μ (a :: L) (.ref a :: vs) (w :: ws)
section
variable {X : Cx} {cf : CF} {EX : WX} {F : Addr → Prop} {σ : L2.St} {env : EnvQ} {S S' : Sto} {H H1 H' : Hp} {μ μ1 μ' : List Addr} {K : PySem.W.Frag} {mg : Str → Option Value} {e : Expr} {es es0 : List Expr} {fa : SE} {ha : SA} {els : List EL} {pos p : Pos}
theorem OwnR.io {N : Addr → Prop} {o : HO} {w : W} (h : OwnR K H N o w) : w.isOwn = true := by cases h <;> rfl
theorem RWo.length {N : Addr → Prop} : ∀ {L : List Addr} {vs : List V} {ws : List W}, RWo K mg H N μ L vs ws → vs.length = ws.length
  | _, _, _, .nil => rfl
  | _, _, _, .p _ _ t => congrArg (· + 1) t.length
  | _, _, _, .o _ _ _ t => congrArg (· + 1) t.length
theorem RWo.sub {N N' : Addr → Prop} (h : ∀ a, N' a → N a) : ∀ {L : List Addr} {vs : List V} {ws : List W}, RWo K mg H N μ L vs ws → RWo K mg H N' μ L vs ws
  | _, _, _, .nil => .nil
  | _, _, _, .p r pl t => .p (RW.sub h r) pl (t.sub h)
  | _, _, _, .o e d n t => .o e (d.keep (Keep.sub h)) n (t.sub h)
def PostO (K : PySem.W.Frag) (mg : Str → Option Value) (EX : WX) (F : Addr → Prop) (σ : L2.St) (env : EnvQ) (H : Hp) (μ : List Addr) (r : R (List W)) (Q : List Addr → List V → List W → Sto → Hp → List Addr → Prop) : Prop :=
  match r with
  | .ok ws S' => ∀ H' μ' L vs, Sim K mg (fun a => a ∈ L ∨ F a) σ H' env S' μ' → Ext σ env H μ H' μ' → (∀ a ∈ L, H a = none) → RWo K mg H' (NN (fun a => a ∈ L ∨ F a) μ' σ env) μ' L vs ws → Q L vs ws S' H' μ'
  | .exc c S' => ∀ C H' μ', mg (Str.ofString c) = some (.ref C) → Sim K mg F σ H' env S' μ' → Ext σ env H μ H' μ' → EX (.ref C) none σ H'
  | .stuck => False
def tOs (K : PySem.W.Frag) (mg : Str → Option Value) (cf : CF) (EX : WX) (f : CF → EnvQ → Sto → R (List W)) : TA := fun σ H Q => ∃ env S μ F, Sim K mg F σ H env S μ ∧ PostO K mg EX F σ env H μ (f cf env S) fun _ vs _ _ H' _ => Q vs H'
def MAO (X : Cx) (cf : CF) (EX : WX) (es : List Expr) (els : List EL) : Prop := PA X es (tOs X.K X.mg cf EX (elsE els))
theorem fresh_back (x : Ext σ env H μ H1 μ1) (s1 : Sim K mg F σ H1 env S μ1) {a : Addr} (n : H1 a = none) : H a = none := by
  cases e : H a with
  | none => rfl
  | some o =>
    exfalso
    by_cases m : MM μ σ env a
    · have m1 : MM μ1 σ env a := m.elim (fun m => .inl (x.pre.subset m)) .inr
      obtain ⟨u, hu⟩ := s1.tracked (.inl m1)
      rw [n] at hu
      cases hu
    · have := (x.keep a o m e).1
      rw [n] at this
      cases this
theorem noL : (fun a => a ∈ ([] : List Addr) ∨ F a) = F := funext fun a => propext ⟨fun h => h.elim (fun h => by cases h) id, .inr⟩
theorem consL {q : Addr} {L : List Addr} : (fun a => a ∈ q :: L ∨ F a) = (fun a => a = q ∨ (a ∈ L ∨ F a)) := funext fun a => propext ⟨fun h => h.elim (fun h => (List.mem_cons.mp h).elim .inl fun h => .inr (.inl h)) fun h => .inr (.inr h), fun h => h.elim (fun h => .inl (List.mem_cons.mpr (.inl h))) fun h => h.elim (fun h => .inl (List.mem_cons.mpr (.inr h))) .inr⟩
theorem consL2 {q : Addr} {L : List Addr} : (fun a => a ∈ L ∨ (a = q ∨ F a)) = (fun a => a ∈ q :: L ∨ F a) := funext fun a => propext ⟨fun h => h.elim (fun h => .inl (List.mem_cons.mpr (.inr h))) fun h => h.elim (fun h => .inl (List.mem_cons.mpr (.inl h))) .inr, fun h => h.elim (fun h => (List.mem_cons.mp h).elim (fun h => .inr (.inl h)) .inl) fun h => .inr (.inr h)⟩
/-- what stood stands, the new lists beside it -/
theorem keep_L {L : List Addr} {H2 : Hp} {μ2 : List Addr} (x : Ext σ env H1 μ1 H2 μ2) (fr : ∀ a ∈ L, H1 a = none) : Keep (NN F μ1 σ env) H1 (NN (fun a => a ∈ L ∨ F a) μ2 σ env) H2 := fun a o na e => by
  obtain ⟨e', n'⟩ := x.nn F a o na e
  refine ⟨e', fun h => h.elim (fun h => n' (.inl h)) fun h => h.elim (fun h => ?_) fun h => n' (.inr h)⟩
  rw [fr a h] at e
  cases e
theorem mao_nil : MAO X cf EX [] [] := PA.weak pa_nil fun σ H Q ⟨env, S, μ, F, s, q⟩ => q H μ [] [] (by rw [noL]; exact s) (Ext.refl _ _ _ _) (by simp) .nil
theorem mao_p (h1 : ME X cf EX e fa) (h2 : MAO X cf EX es els) (hs : starEach (e :: es) X.env = (false, eval e X.env) :: starEach es X.env := by rfl) : MAO X cf EX (e :: es) (.p fa :: els) := by
  refine PA.weak (pa_cons h1 h2 hs) fun σ H Q ⟨env, S, μ, F, s, q⟩ => ?_
  refine ⟨env, S, μ, F, s, ?_⟩
  simp only [elsE] at q
  cases r1 : fa cf env S with
  | stuck => rw [r1] at q; exact q
  | exc c S1 => rw [r1] at q; exact q
  | ok w S1 =>
    rw [r1, R.bind_ok] at q
    intro H1 μ1 s1 x1 v rv
    split at q
    · rename_i pw
      refine ⟨env, S1, μ1, F, s1, ?_⟩
      cases r2 : elsE els cf env S1 with
      | stuck => rw [r2] at q; exact q
      | exc c S2 =>
        rw [r2] at q
        exact fun C H2 μ2 g s2 x2 => q C H2 μ2 g s2 (x1.trans x2)
      | ok ws S2 =>
        rw [r2, R.bind_ok] at q
        exact fun H2 μ2 L vs s2 x2 fr rvs => q H2 μ2 L (v :: vs) s2 (x1.trans x2) (fun a h => fresh_back x1 s1 (fr a h)) (.p (RW.keep (keep_L x2 fr) x2.pre rv pw) pw rvs)
    · exact q.elim
theorem mao_o {lp : Pos} (h1 : MA X cf EX es0 ha) (h2 : MAO X cf EX es els) (hs : starEach (.List es0 lp :: es) X.env = (false, eval (.List es0 lp) X.env) :: starEach es X.env := by rfl) : MAO X cf EX (.List es0 lp :: es) (.o ha :: els) := by
  refine PA.weak (pa_cons (pe_lst h1) h2 hs) fun σ H Q ⟨env, S, μ, F, s, q⟩ => ?_
  refine ⟨env, S, μ, F, s, ?_⟩
  simp only [elsE] at q
  cases r1 : ha cf env S with
  | stuck => rw [r1] at q; exact q
  | exc c S1 => rw [r1] at q; exact q
  | ok ws0 S1 =>
    rw [r1, R.bind_ok] at q
    intro H1 μ1 s1 x1 vs0 rvs0
    split at q
    · rename_i hlen
      refine ⟨by rw [← lim_line, rvs0.length]; exact hlen, fun p n => ?_⟩
      split at q
      · rename_i ds e
        have dd := datas_dn rvs0 e
        have fp := tr_none s1 n
        have s1' := s1.lay (o := .lst vs0) n
        have up : ∀ {H' : Hp} {μ' : List Addr}, Ext σ env (upd H1 p (.lst vs0)) μ1 H' μ' → Ext σ env H μ H' μ' := fun x => x1.trans ((ext_new n).trans x)
        refine ⟨env, S1, μ1, _, s1', ?_⟩
        cases r2 : elsE els cf env S1 with
        | stuck => rw [r2] at q; exact q
        | exc c S2 =>
          rw [r2] at q
          exact fun C H2 μ2 g s2 x2 => q C H2 μ2 g s2.unlay (up x2)
        | ok ws S2 =>
          rw [r2, R.bind_ok] at q
          intro H2 μ2 L vs s2 x2 fr rvs
          have hp : H2 p = some (.lst vs0) := (x2.keep p _ (fun h => s1.fresh n (.inl h)) upd_same).1
          have np : p ∉ L := fun h => by
            have := fr p h
            rw [upd_same] at this
            cases this
          rw [consL2] at s2 rvs
          refine q H2 μ2 (p :: L) (.ref p :: vs) s2 (up x2) (fun a h => ?_) (.o hp (.lst (dd.keep ?_)) np rvs)
          · rcases List.mem_cons.mp h with rfl | h
            · exact fresh_back x1 s1 n
            · refine fresh_back x1 s1 ?_
              have := fr a h
              rwa [upd_ne (fun z : a = p => np (by rw [← z]; exact h))] at this
          · intro a o na e0
            have ne : a ≠ p := ne_of_none e0 n
            have ma : ¬ MM μ1 σ env a := fun h => na (.inl h)
            obtain ⟨e', n'⟩ := x2.keep a o ma (by rw [upd_ne ne]; exact e0)
            refine ⟨e', fun h => h.elim n' fun h => h.elim (fun h => ?_) fun h => na (.inr h)⟩
            rcases List.mem_cons.mp h with h | h
            · exact ne h
            · have := fr a h
              rw [upd_ne ne, e0] at this
              cases this
      · exact q.elim
    · exact q.elim
def setV : List Nat → List V → L2.St → L2.St
  | i :: is, v :: vs, σ => setV is vs (σ.set i (some v))
  | _, _, σ => σ
theorem sim_store : ∀ {L : List Addr} {vs : List V} {ws : List W} {is : List Nat} {σ : L2.St} {env env' : EnvQ}, Sim K mg (fun a => a ∈ L ∨ F a) σ H env S μ → RWo K mg H (NN (fun a => a ∈ L ∨ F a) μ σ env) μ L vs ws → (∀ a ∈ L, ¬ F a) → setW is ws env = some env' →
    Sim K mg F (setV is vs σ) H env' S μ ∧ ∀ a, MM μ (setV is vs σ) env' a → a ∈ L ∨ MM μ σ env a := by
  intro L vs ws is σ env env' s r
  revert s
  induction is generalizing L vs ws σ env with
  | nil =>
    intro s nf hs
    cases r with
    | nil =>
      simp only [setW, Option.some.injEq] at hs
      subst hs
      rw [noL] at s
      exact ⟨s, fun a h => .inr h⟩
    | p _ _ _ => simp [setW] at hs
    | o _ _ _ _ => simp [setW] at hs
  | cons i is ih =>
    intro s nf hs
    cases r with
    | nil => simp [setW] at hs
    | p rv pw t =>
      obtain ⟨s1, x1⟩ := s.set (i := i) pw rv
      have sub : ∀ a, MM μ (σ.set i (some _)) (env.set i (some _)) a → MM μ σ env a := fun a m => Classical.byContradiction fun na => by
        obtain ⟨u, hu⟩ := s1.tracked (.inl m)
        exact (x1.keep a u na hu).2 m
      obtain ⟨s2, sub2⟩ := ih (t.sub fun a h => h.elim (fun h => .inl (sub a h)) .inr) s1 nf hs
      exact ⟨s2, fun a h => (sub2 a h).elim .inl fun h => .inr (sub a h)⟩
    | o e d n t =>
      rename_i L q ob w0 vs ws
      have io := d.io
      have s0 := s
      rw [consL] at s0
      obtain ⟨s1, sub⟩ := s0.adoptG (i := i) e (by rw [consL] at d; exact d) io (fun h => h.elim n (nf q (by simp)))
      have subN : ∀ a, NN (fun a => a ∈ L ∨ F a) μ (σ.set i (some (.ref q))) (env.set i (some w0)) a → NN (fun a => a ∈ q :: L ∨ F a) μ σ env a := fun a h => h.elim (fun h => (sub a h).elim (fun h => .inr (.inl (by simp [h]))) .inl) fun h => .inr (h.elim (fun h => .inl (by simp [h])) .inr)
      obtain ⟨s2, sub2⟩ := ih (t.sub subN) s1 (fun a h => nf a (by simp [h])) hs
      exact ⟨s2, fun a h => (sub2 a h).elim (fun h => .inl (by simp [h])) fun h => (sub a h).elim (fun h => .inl (by simp [h])) .inr⟩
theorem RWo.same {N : Addr → Prop} (h : Same H H') : ∀ {L : List Addr} {vs : List V} {ws : List W}, RWo K mg H N μ L vs ws → RWo K mg H' N μ L vs ws
  | _, _, _, .nil => .nil
  | _, _, _, .p r pl t => .p (RW.same h r) pl (t.same h)
  | _, _, _, .o e d n t => .o (h _ _ e) (d.keep fun a o n e => ⟨h a o e, n⟩) n (t.same h)
theorem post_store {Dx : Ends} {is : List Nat} {r : R (List W)} (q : PostS K mg EX F σ env H μ (r.then env fun ws S' => if ws.length ≤ LIM then (match setW is ws env with | some env' => RS.next env' S' | none => .stuck) else .stuck) Dx) (s : Sim K mg F σ H env S μ) :
    PostO K mg EX F σ env H μ r fun L vs ws S' H' μ' => vs.length ≤ LIM ∧ ∀ H2, (H2 = H' ∨ ∃ t, H' t = none ∧ H2 = upd H' t (.tup vs)) → Dx.nx (setV is vs σ) H2 := by
  cases r with
  | stuck => exact q
  | exc c S1 => exact fun C H1 μ1 g s1 x1 => q C σ H1 μ1 g s1 x1.s
  | ok ws S1 =>
    rw [R.then_ok] at q
    intro H1 μ1 L vs s1 x1 fr rvs
    split at q
    · rename_i hl
      refine ⟨by rw [rvs.length]; exact hl, fun H2 h2 => ?_⟩
      split at q
      · rename_i env' e
        have nf : ∀ a ∈ L, ¬ F a := fun a h f => by
          obtain ⟨u, hu⟩ := s.ftr a f
          rw [fr a h] at hu
          cases hu
        have fin : ∀ {H2 : Hp}, Sim K mg (fun a => a ∈ L ∨ F a) σ H2 env S1 μ1 → RWo K mg H2 (NN (fun a => a ∈ L ∨ F a) μ1 σ env) μ1 L vs ws → Ext σ env H μ H2 μ1 → Dx.nx (setV is vs σ) H2 := fun s2 r2 x2 => by
          obtain ⟨s3, sub⟩ := sim_store s2 r2 nf e
          refine q _ _ _ s3 ⟨fun a o na e0 => ?_, x2.pre⟩
          obtain ⟨e1, n1⟩ := x2.keep a o na e0
          refine ⟨e1, fun h => (sub a h).elim (fun h => ?_) n1⟩
          rw [fr a h] at e0
          cases e0
        rcases h2 with rfl | ⟨t, nt, rfl⟩
        · exact fin s1 rvs x1
        · exact fin (s1.new nt) (rvs.same (Same.upd_new nt)) (x1.trans (ext_new nt))
      · exact q.elim
    · exact q.elim
/-- names in a row, whatever they are -/
def gNames : List Nat → TGs
  | [] => gNil
  | i :: is => gCons (gName i) (gNames is)
theorem gNames_ok {Q : L2.St → Hp → Prop} : ∀ {is : List Nat} {vs : List V} {σ : L2.St}, is.length = vs.length → Q (setV is vs σ) H → gNames is vs σ H Q
  | [], [], _, _, q => ⟨rfl, q⟩
  | i :: is, v :: vs, _, h, q => ⟨v, vs, rfl, gNames_ok (is := is) (vs := vs) (by simpa using h) q⟩
  | [], _ :: _, _, h, _ => by simp at h
  | _ :: _, [], _, h, _ => by simp at h
theorem setW_len : ∀ {is : List Nat} {ws : List W} {env env' : EnvQ}, setW is ws env = some env' → is.length = ws.length
  | [], [], _, _, _ => rfl
  | i :: is, w :: ws, _, _, h => by simp only [List.length_cons]; rw [setW_len (is := is) (ws := ws) h]
  | [], _ :: _, _, _, h => by simp [setW] at h
  | _ :: _, [], _, _, h => by simp [setW] at h
theorem post_len {Dx : Ends} {is : List Nat} {r : R (List W)} (q : PostS K mg EX F σ env H μ (r.then env fun ws S' => if ws.length ≤ LIM then (match setW is ws env with | some env' => RS.next env' S' | none => .stuck) else .stuck) Dx) (s : Sim K mg F σ H env S μ) :
    PostO K mg EX F σ env H μ r fun L vs ws S' H' μ' => is.length = vs.length := by
  cases r with
  | stuck => exact q
  | exc c S1 => exact fun C H1 μ1 g s1 x1 => q C σ H1 μ1 g s1 x1.s
  | ok ws S1 =>
    rw [R.then_ok] at q
    intro H1 μ1 L vs s1 x1 fr rvs
    split at q
    · split at q
      · rename_i e
        rw [rvs.length, setW_len e]
      · exact q.elim
    · exact q.elim
theorem PostO.and {r : R (List W)} {P P' : List Addr → List V → List W → Sto → Hp → List Addr → Prop} (h : PostO K mg EX F σ env H μ r P) (h' : PostO K mg EX F σ env H μ r P') {P2 : List Addr → List V → List W → Sto → Hp → List Addr → Prop} (f : ∀ L vs ws S' H' μ', P L vs ws S' H' μ' → P' L vs ws S' H' μ' → P2 L vs ws S' H' μ') : PostO K mg EX F σ env H μ r P2 := by
  cases r with
  | stuck => exact h
  | exc c S1 => exact h
  | ok ws S1 => exact fun H1 μ1 L vs s1 x1 fr rvs => f _ _ _ _ _ _ (h H1 μ1 L vs s1 x1 fr rvs) (h' H1 μ1 L vs s1 x1 fr rvs)
/-- a, b, .. = e1, [], ..: through a tuple -/
theorem ms_parX {is : List Nat} {tes : List Expr} {k k2 : Nat} {pt pt2 : Pos} (hc : X.calm = true) (h : MAO X cf EX es els) (hg : PGs X tes (gNames is))
    (hn : (assignEach tes X.env).length = is.length := by rfl) (hst : (assignEach tes X.env).findIdx? (·.1) = none := by rfl)
    (hs : swapsWithSole [.Tuple tes k pt] (.Tuple es k2 pt2) pos.line X.env = pure false := by rfl) (hw : swappedStores [.Tuple tes k pt] (.Tuple es k2 pt2) X.env = pure none := by rfl)
    (h1 : (assignEach [.Tuple tes k pt] X.env).map (·.2) = [assign (.Tuple tes k pt) X.env] := by rfl) : MS X cf EX (.Assign [.Tuple tes k pt] (.Tuple es k2 pt2) pos) (sParX is els) := by
  refine PS.weak (ps_asg (pe_tup h) (pg_tup hc hg hn hst) hs hw h1) fun D σ H ⟨env, S, μ, F, s, q⟩ => ⟨env, S, μ, F, s, ?_⟩
  refine PostO.and (post_store q s) (post_len q s) fun L vs ws S' H' μ' h h2 => ?_
  refine ⟨by rw [← lim_line]; exact h.1, fun p n => ?_⟩
  exact ⟨p, vs, rfl, .inl (.inl upd_same), h2.symm, gNames_ok h2 (h.2 _ (.inr ⟨p, n, rfl⟩))⟩
theorem ms_parX2 {i j : Nat} {x y : Str} {a b : Expr} {px py pt : Pos} {kt k2 pt2} (hc : X.calm = true) (hN : X.N.Nodup) (hi : X.N[i]? = some x) (hj : X.N[j]? = some y) (hij : i ≠ j)
    (hx : X.env.scope.names.lookup x = some .local) (hy : X.env.scope.names.lookup y = some .local) (h : MAO X cf EX [a, b] els)
    (hw : swappedStores [.Tuple [.Name x px, .Name y py] kt pt] (.Tuple [a, b] k2 pt2) X.env = pure (some [x, y]))
    (hs : swapsWithSole [.Tuple [.Name x px, .Name y py] kt pt] (.Tuple [a, b] k2 pt2) pos.line X.env = pure false := by rfl) :
    MS X cf EX (.Assign [.Tuple [.Name x px, .Name y py] kt pt] (.Tuple [a, b] k2 pt2) pos) (sParX [i, j] els) := by
  refine PS.weak (ps_par hc hN hi hj hij hx hy h hw hs) fun D σ H ⟨env, S, μ, F, s, q⟩ => ⟨env, S, μ, F, s, ?_⟩
  refine PostO.and (post_store q s) (post_len q s) fun L vs ws S' H' μ' h h2 => ?_
  match vs, h2, h with
  | [v, w], _, h => exact ⟨v, w, rfl, h.2 _ (.inl rfl)⟩
end
end Q

namespace Q
open PySem PySem.Spec PyProof.Rows L2
theorem meets_enumB {v : Value} {o : Obj} {H : Heap → Prop} (B : Begins v o H) :
    Meets (Builtin.«enumerate.__new__» ⟨[.type "enumerate", v], []⟩) (fun _ R s => H s.heap ∧
      R (.ok (.ret (.ref (s.heap.push o).objs.size))) { s with heap := (s.heap.push o).push { cls := .type "enumerate", data := .fields #[.none, .bool false, .ref s.heap.objs.size, rawInt 0, .none, .none] } }) :=
  .of_wp fun prog w A R s h => by
    obtain ⟨hp, g, d, tk, os⟩ := s
    obtain ⟨h1, h⟩ := h
    have hsub := sub_enumerate
    have q1 : ∀ {A' : Around} {E : Value → Shared → Prop} {Q : Value → Shared → Prop}, Q (.ref hp.objs.size) ⟨hp.push o, g, d, tk, os⟩ → wpAny (model prog w) A' (pyIter v) Q E ⟨hp, g, d, tk, os⟩ :=
      fun q => B.iter prog w _ _ ⟨hp, g, d, tk, os⟩ _ h1 q
    wp_walk
    refine wpAny_stack_any fun st => wpAny_pure ?_
    split
    · rename_i c _ _ _ _ _
      cases (c == Value.type "enumerate")
      · wp_walk using q1
        exact ⟨_, rfl, h⟩
      · wp_walk using q1
        exact ⟨_, rfl, h⟩
    · wp_walk using q1
      exact ⟨_, rfl, h⟩
section
variable {prog : Program} {w : World} {A : Around} {E : Value → Shared → Prop} {s : Shared}
theorem call_enumB {v : Value} {o : Obj} {H : Heap → Prop} {Q : Value → Shared → Prop} (B : Begins v o H) (h1 : H s.heap)
    (h : ∀ h', IsEnum h' (s.heap.objs.size + 1) s.heap.objs.size 0 .none → h'.get? s.heap.objs.size = some o → h'.objs.size = s.heap.objs.size + 2 →
      (∀ b o, s.heap.get? b = some o → h'.get? b = some o) → Q (.ref (s.heap.objs.size + 1)) { s with heap := h' }) :
    wpAny (model prog w) A (call (.type "enumerate") [v]) Q E s := by
  refine callType_new F.called_enumerate (by decide) (F.typeCall_enumerate_1 _) (F.newCall_enumerate_1 _) (fun obj => F.args_object_init_2 obj _) F.entry_enumerate_new
    (meets_enumB B) ⟨h1, ?_⟩
  have hz : (s.heap.push o).objs.size = s.heap.objs.size + 1 := Heap.size_push ..
  show _ ∧ _
  rw [hz]
  have he : IsEnum ((s.heap.push o).push { cls := .type "enumerate", data := .fields #[.none, .bool false, .ref s.heap.objs.size, rawInt 0, .none, .none] }) (s.heap.objs.size + 1) s.heap.objs.size 0 .none := by
    have := Heap.get?_push_size (s.heap.push o) (o := { cls := .type "enumerate", data := .fields #[.none, .bool false, .ref s.heap.objs.size, rawInt 0, .none, .none] }) rfl
    rw [hz] at this; exact this
  refine ⟨⟨_, he, rfl⟩, h _ he (Heap.get?_push_of_some _ (Heap.get?_push_size _ B.free)) (by rw [Heap.size_push, hz]) fun b o x => Heap.get?_push_of_some _ (Heap.get?_push_of_some _ x)⟩
end
def IteT (K : PySem.W.Frag) (a : Addr) : It :=
  ⟨fun i H => ∃ (xs : List V) (x : V), SqT K H a xs ∧ xs[i]? = some x, fun i H v H' => ∃ T x, v = .ref T ∧ H T = none ∧ H' = upd H T (.tup [.int (i : Nat), x]) ∧ ∀ xs, SqT K H a xs → xs[i]? = some x, fun i H => ∃ xs : List V, SqT K H a xs ∧ xs.length ≤ i⟩
theorem turn_enumT {P : Program} {w : World} {K : PySem.W.Frag} {elts : List Expr} {kk : Nat} {tpos : Pos} (a e it : Addr) :
    Turn P w K (.Tuple elts kk tpos) (IteT K a) [e, it] e (fun i h => (∃ old, IsEnum h e it ((i : Nat) : Int) old) ∧ h.IsTupleIter it a i ∧ e ≠ it) where
  mem := by simp
  obj := fun i h st b hb => by
    obtain ⟨⟨old, he⟩, ⟨o, ho, hc, hd⟩, _⟩ := st
    have e' : b = e ∨ b = it := by simpa using hb
    rcases e' with z | z
    · rw [z]; exact ⟨_, he, fun v q => nomatch q⟩
    · rw [z]; exact ⟨o, ho, fun v q => by rw [hd] at q; cases q⟩
  keep := fun i h h' st k => let ⟨⟨old, he⟩, hi, hne⟩ := st; ⟨⟨old, k e (by simp) _ he⟩, hi.at fun o q => k it (by simp) o q, hne⟩
  item := by
    intro X hP hw hK hc i pins s σ H E I hf st hg
    subst hP hw hK
    obtain ⟨⟨old, he⟩, hit, hne⟩ := st
    obtain ⟨xs, x, hq, hx⟩ := hg
    obtain ⟨its, rv, p, hz⟩ := I.tuple hq
    obtain ⟨u, hu, ru⟩ := rv.get hx
    have hel : e < s.heap.objs.size := Heap.lt_size he
    have hil : it < s.heap.objs.size := by obtain ⟨_, q, _⟩ := hit; exact Heap.lt_size q
    have nea : e ≠ a := fun z => by
      obtain ⟨o, e1, e2, _⟩ := id p
      rw [← z, show s.heap.get? e = some _ from he] at e1
      cases e1
      simp at e2
    have nia : a ≠ it := fun z => by
      obtain ⟨o, e1, e2, _⟩ := id p
      obtain ⟨o', e3, e4, _⟩ := id hit
      rw [z, e3] at e1
      cases e1
      rw [e4] at e2
      simp at e2
    have hin1 : X.A.in1.handled = none := I.ok.hd hc
    refine wpAny_pyNext_enum_itemD (Draws.tuple hin1 it a nia its.toArray) he ⟨hit, p⟩ (by have := (List.getElem?_eq_some_iff.mp hu).1; simpa using this) hne (by simp [hne, nea]) fun x' h' tk hx' ho hst hT hsz hk => ?_
    obtain rfl : x' = u := by
      have q : its[i]? = some x' := by simpa using hx'
      rw [hu] at q
      exact (Option.some.inj q).symm
    refine ⟨_, rfl, wpAny_letOwnedTupleGo_enum (s := { s with heap := h', toks := tk + 1 }) ho fun h'' he' sb => ?_⟩
    have hT2 : h''.get? s.heap.objs.size = some { cls := .type "tuple", data := .seq #[.int i tk, x'] } := (sb.2 _ (Nat.ne_of_gt hel)).trans hT
    have new : ObjOk X.prog X.w (upd H s.heap.objs.size (.tup [.int (i : Nat), x])) h'' s.heap.objs.size (.tup [.int (i : Nat), x]) :=
      ⟨by show 2 ≤ sizeLine; decide, [.int i tk, x'], .cons ⟨_, rfl⟩ (.cons ru .nil), ⟨_, hT2, rfl, _, rfl⟩⟩
    have I1 : Inv X pins σ (upd H s.heap.objs.size (.tup [.int (i : Nat), x])) { s with heap := h'', toks := tk + 1 } :=
      I.turnedNew (ch := [e, it]) (fun b ob hb q => (sb.2 b (fun z => hb (by simp [z]))).trans (hk b ob (fun z => hb (by simp [z])) (fun z => hb (by simp [z])) q)) hf (Nat.le_refl _) new
    refine ⟨.ref s.heap.objs.size, _, I1, rfl, ⟨_, x, rfl, I.hok.fresh (Nat.le_refl _), rfl, fun ys hy => by rw [I.tuple_inj hy hq]; exact hx⟩, ⟨⟨x', ?_⟩, hst.1.at fun o q => (sb.2 it (Ne.symm hne)).trans q, hne⟩, fun b hb => ?_⟩
    · have e1 : ((i + 1 : Nat) : Int) = (i : Int) + 1 := by omega
      rw [e1]; exact he'
    · have hb' : b < s.heap.objs.size := by
        have e' : b = e ∨ b = it := by simpa using hb
        rcases e' with z | z
        · rw [z]; exact hel
        · rw [z]; exact hil
      rw [upd_ne (Nat.ne_of_lt hb')]
      exact (hf b hb).1
  done := by
    intro X hP hw hK hc i pins s σ H E I hf st hg
    subst hP hw hK
    obtain ⟨⟨old, he⟩, hit, hne⟩ := st
    obtain ⟨xs, hq, hx⟩ := hg
    obtain ⟨its, rv, p, hz⟩ := I.tuple hq
    obtain ⟨f0, f1, f2, f3, f4, f5⟩ := hf it (by simp)
    have hl := rv.length
    have hT : s.TypeIs (.ref e) "enumerate" := ⟨_, he, rfl⟩
    unfold pyNext
    refine wpAny_bind (wpAny_attempt (wpAny_callSpecial?_slot (name := Str.ofString "__next__") hT F.slot_enumerate_next
      (wpAny_call_entry F.slot_enumerate_next hT F.entry_enumerate_next ?_ (F.args_enumerate_next_1 _))))
    show wpAny _ _ (field (.ref e) 2 >>= _) _ _ _
    refine wpAny_bind (wpAny_field he rfl (x := .ref it) rfl ?_)
    refine wpAny_bind (wpAny_nextOf_tuple_end (I.ok.hd hc) hit p (by simp; omega) fun h' x he' hx' => ?_)
    obtain ⟨o, ho, hc'⟩ := hx'
    refine wpAny_bind (wpAny_isInstance (T := "StopIteration") (b := true) ⟨o, ho, hc'⟩ isSubtype_stop ?_)
    exact wpAny_pure ⟨rfl, I.turned (t' := s.toks) (fun b o hb q => he' b o hb q) f0 f1 f3 f4 f5⟩
  self := fun A i s Q E st h => let ⟨⟨_, he⟩, _⟩ := st; wpAny_pyIter_enum he h
def iEnumA (K : PySem.W.Frag) (ta : TA) : TI := fun σ H R => ta σ H fun vs H1 => ∃ a xs, vs = [.ref a] ∧ ((SqL K H1 a xs ∧ R (Ite K a) H1) ∨ (SqT K H1 a xs ∧ R (IteT K a) H1))
theorem pi_enumA {X : Cx} {e : Expr} {ta : TA} {p pos tpos : Pos} {elts : List Expr} {kk : Nat} (hg : Gl X "enumerate") (hm : X.mg "enumerate" = none) (ha : PA X [e] ta) (hs : starEach [e] X.env = [(false, eval e X.env)] := by rfl) :
    PI X (.Tuple elts kk tpos) (.Call (.Name "enumerate" p) [e] [] pos) (iEnumA X.K ta) := by
  refine ⟨fun pins s σ H R I h => ?_⟩
  refine Call_ (ld_blt I hg hm boot_enumerate (PyProof.Rows.callWith_type1 (thn (ha.run pos pins s σ H _ I h) fun us s1 ⟨vs, H1, I1, r1, q1⟩ => ?_) hs rfl))
  obtain ⟨a, xs, ex, q⟩ := q1
  subst ex
  have fr : ∀ b ∈ [s1.heap.objs.size + 1, s1.heap.objs.size], FpOk X pins H1 b := fun b hb => by
    have e' : b = s1.heap.objs.size + 1 ∨ b = s1.heap.objs.size := by simpa using hb
    have hle : s1.heap.objs.size ≤ b := by
      rcases e' with z | z
      · rw [z]; exact Nat.le_add_right _ _
      · rw [z]; exact Nat.le_refl _
    exact I1.fpOk hle (I1.hok.fresh hle)
  cases r1 with
  | cons r rr =>
    cases rr
    cases r
    rcases q with ⟨hq, q⟩ | ⟨hq, q⟩
    · obtain ⟨its, rv, p', hz⟩ := I1.list hq
      refine call_enumerate_list p'.isList fun h' he hit hsz hk => wpAny_pyIter_enum he ?_
      have I2 : Inv X pins σ H1 { s1 with heap := h' } := I1.kept (t' := s1.toks) hk
      exact ⟨s1.heap.objs.size + 1, [s1.heap.objs.size + 1, s1.heap.objs.size], _, _, H1, rfl, I2, turn_enum a (s1.heap.objs.size + 1) s1.heap.objs.size, ⟨⟨.none, he⟩, hit, Nat.succ_ne_self _⟩, fr, q⟩
    · obtain ⟨its, rv, p', hz⟩ := I1.tuple hq
      refine call_enumB (begins_tuple a its.toArray) p' fun h' he hit hsz hk => wpAny_pyIter_enum he ?_
      have I2 : Inv X pins σ H1 { s1 with heap := h' } := I1.kept (t' := s1.toks) hk
      exact ⟨s1.heap.objs.size + 1, [s1.heap.objs.size + 1, s1.heap.objs.size], _, _, H1, rfl, I2, turn_enumT a (s1.heap.objs.size + 1) s1.heap.objs.size, ⟨⟨.none, he⟩, ⟨_, hit, rfl, rfl⟩, Nat.succ_ne_self _⟩, fr, q⟩
/-- 0, x; 1, y; .. -/
def enumD : Nat → List D → List D
  | _, [] => []
  | k, x :: xs => .tuple [.int (k : Int), x] :: enumD (k + 1) xs
theorem enumD_len : ∀ (k : Nat) (xs : List D), (enumD k xs).length = xs.length
  | _, [] => rfl
  | k, x :: xs => congrArg (· + 1) (enumD_len (k + 1) xs)
theorem enumD_get : ∀ {k : Nat} {xs : List D} {i : Nat} {d : D}, (enumD k xs)[i]? = some d → ∃ x, xs[i]? = some x ∧ d = .tuple [.int ((k + i : Nat) : Int), x]
  | _, [], _, _, h => by simp [enumD] at h
  | k, x :: xs, 0, d, h => ⟨x, rfl, by simpa [enumD, eq_comm] using h⟩
  | k, x :: xs, i + 1, d, h => by
    obtain ⟨y, h1, h2⟩ := enumD_get (k := k + 1) (xs := xs) (i := i) (d := d) (by simpa [enumD] using h)
    exact ⟨y, by simpa using h1, by rw [h2, show k + 1 + i = k + (i + 1) by omega]⟩
def zipD : List D → List D → List D
  | x :: xs, y :: ys => .tuple [x, y] :: zipD xs ys
  | _, _ => []
section
variable {X : Cx} {cf : CF} {EX : WX} {K : PySem.W.Frag} {H : Hp} {N : Addr → Prop} {e e2 : Expr} {ha : SA} {p pos tpos : Pos} {elts : List Expr} {kk : Nat}
theorem pair_dn {H2 : Hp} {N2 : Addr → Prop} {T : Addr} {u v : V} {x y : D} (tr : ∀ a, N2 a → ∃ o, H2 a = some o) (n : H2 T = none) (h1 : Dn K H2 N2 u x) (h2 : Dn K H2 N2 v y) : Same H2 (upd H2 T (.tup [u, v])) ∧ Dn K (upd H2 T (.tup [u, v])) N2 (.ref T) (.tuple [x, y]) := by
  have sm : Same H2 (upd H2 T (.tup [u, v])) := Same.upd_new n
  have nT : ¬ N2 T := fun h => by
    obtain ⟨o, e⟩ := tr T h
    rw [n] at e
    cases e
  have kp : Keep N2 H2 N2 (upd H2 T (.tup [u, v])) := fun a o na e => ⟨sm a o e, na⟩
  exact ⟨sm, .tup (.inl ⟨nT, .inl upd_same⟩) (.cons (h1.keep kp) (.cons (h2.keep kp) .nil))⟩
theorem iter_enum {a : Addr} {vs : List V} {ds : List D} (hq : ∀ N2 H2, Keep N H N2 H2 → SqL K H2 a vs) (t : DnAll K H N vs ds) : IterOf K (Ite K a) (enumD 0 ds) N H := fun N2 H2 k tr i => by
  have t2 := t.keep k
  have q2 := hq N2 H2 k
  refine ⟨fun e => ⟨vs, q2, by rw [t.length, ← enumD_len 0 ds]; exact Nat.le_of_eq e.symm⟩, fun d hd => ?_⟩
  obtain ⟨x, hx, rfl⟩ := enumD_get hd
  obtain ⟨v, hv, r⟩ := t2.get hx
  refine ⟨⟨vs, v, q2, hv⟩, fun w H3 y => ?_⟩
  obtain ⟨T, x', rfl, hT, rfl, y⟩ := y
  have := y vs q2
  rw [hv] at this
  cases this
  rw [Nat.zero_add]
  exact pair_dn tr hT (.int _) r
theorem iter_enumT {a : Addr} {vs : List V} {ds : List D} (ht : RdT K H N a vs) (t : DnAll K H N vs ds) : IterOf K (IteT K a) (enumD 0 ds) N H := fun N2 H2 k tr i => by
  have t2 := t.keep k
  have q2 := (ht.keep k).sq
  refine ⟨fun e => ⟨vs, q2, by rw [t.length, ← enumD_len 0 ds]; exact Nat.le_of_eq e.symm⟩, fun d hd => ?_⟩
  obtain ⟨x, hx, rfl⟩ := enumD_get hd
  obtain ⟨v, hv, r⟩ := t2.get hx
  refine ⟨⟨vs, v, q2, hv⟩, fun w H3 y => ?_⟩
  obtain ⟨T, x', rfl, hT, rfl, y⟩ := y
  have := y vs q2
  rw [hv] at this
  cases this
  rw [Nat.zero_add]
  exact pair_dn tr hT (.int _) r
def iEnumQ (a : SA) : SI := fun cf env S => (a cf env S).bind fun ws S1 => match ws with
  | [.d (.list xs)] => .ok (enumD 0 xs) S1
  | [.d (.tuple xs)] => .ok (enumD 0 xs) S1
  | _ => .stuck
theorem mi_enum (hg : Gl X "enumerate") (hm : X.mg "enumerate" = none) (h : MA X cf EX [e] ha) (hs : starEach [e] X.env = [(false, eval e X.env)] := by rfl) : MI X cf EX (.Tuple elts kk tpos) (.Call (.Name "enumerate" p) [e] [] pos) (iEnumQ ha) :=
  PI.weak (pi_enumA hg hm h hs) fun σ H R ⟨env, S, μ, F, s, q⟩ => ⟨env, S, μ, F, s, (Post.bind q).mono fun ws S1 H1 μ1 s1 x1 q1 vs rvs => by
    split at q1
    · obtain ⟨v1, rfl, r1⟩ := rws1 rvs
      obtain ⟨a, us, rfl, na, h1, t1⟩ := rw_lst r1
      exact ⟨a, us, rfl, .inl ⟨SqL.of h1, q1 H1 μ1 s1 (Ext.refl _ _ _ _) _ (iter_enum (fun N2 H2 k => SqL.of (k a _ na h1).1) t1)⟩⟩
    · obtain ⟨v1, rfl, r1⟩ := rws1 rvs
      obtain ⟨a, us, rfl, h1, t1⟩ := rw_tup r1
      exact ⟨a, us, rfl, .inr ⟨h1.sq, q1 H1 μ1 s1 (Ext.refl _ _ _ _) _ (iter_enumT h1 t1)⟩⟩
    · exact q1.elim⟩
def iZipQ (a : SA) : SI := fun cf env S => (a cf env S).bind fun ws S1 => match ws with
  | [.d (.list xs), .d (.list ys)] => .ok (zipD xs ys) S1
  | [.d (.tuple xs), .d (.tuple ys)] => .ok (zipD xs ys) S1
  | _ => .stuck
end
end Q

namespace Q
open PySem PySem.Spec PyProof.Rows L2
/-- a sort that the kernel can run -/
def insB {α : Type} (le : α → α → Bool) (x : α) : List α → List α
  | [] => [x]
  | y :: r => if le x y then x :: y :: r else y :: insB le x r
def sortB {α : Type} (le : α → α → Bool) : List α → List α
  | [] => []
  | x :: r => insB le x (sortB le r)
def sortI (is : List Int) : List Int := sortB (fun a b => decide (a ≤ b)) is
section
variable {X : Cx} {cf : CF} {EX : WX} {e : Expr} {ha : SA} {p pos : Pos}
/-- found.extend(list) -/
def sExt (i : Nat) (f : SE) : SS := fun cf env S => match env[i]? with
  | some (some (.own xs)) => (f cf env S).then env fun w S' => match w with
    | .d (.list ys) => if xs.length + ys.length ≤ LIM then .next (env.set i (some (.own (xs ++ ys)))) S' else .stuck
    | _ => .stuck
  | _ => .stuck
theorem ms_ext {x : Str} {fa : SE} {i : Nat} {p1 p2 : Pos} (hv : PE X (.Name x p1) (tVar i)) (h : ME X cf EX e fa)
    (hbase : attributeBase (.Name x p1) "extend" X.env (eval (.Name x p1) X.env) = eval (.Name x p1) X.env := by rfl)
    (hfew : ((backTo p (starEach (e :: []) X.env)).all (fun x => !x.1) && (backToKw p (keywordEach [] X.env)).all (fun x => x.1.isSome) && decide ((e :: []).length + ([] : List Keyword).length + (if ([] : List Keyword).isEmpty then 0 else 1) < 30)) = true := by rfl)
    (hline : (p2.endLine == p.line) = true := by rfl) (hst : starEach (e :: []) X.env = (false, eval e X.env) :: starEach [] X.env := by rfl) (hplain : (backTo p (starEach [] X.env)).any (·.1) = false := by rfl)
    (hs : swapsWith (.Call (.Attribute (.Name x p1) "extend" p2) [e] [] p) none pos.line X.env = pure false := by rfl) :
    MS X cf EX (.Expr (.Call (.Attribute (.Name x p1) "extend" p2) [e] [] p) pos) (sExt i fa) := by
  refine PS.weak (ps_expr (pe_bm PySem.F.plainAttrs_list PySem.F.slot_list_extend PySem.F.type_list_extend mt_extend hv (pa_cons h pa_nil hst) hbase hfew hline hst hplain) hs) fun D σ H ⟨env, S, μ, F, s, q⟩ => ?_
  unfold sExt at q
  split at q
  · rename_i xs e0
    obtain ⟨v, hv0, r⟩ := s.slot i _ e0
    cases r with
    | own ha ta =>
      refine ⟨_, hv0, .inl ⟨rfl, _, SqL.of ha⟩, env, S, μ, F, s, (PostS.expr q).mono fun w S1 H1 μ1 s1 x1 q1 v rv => ?_⟩
      split at q1
      · obtain ⟨b, us, rfl, nb, hb, tb⟩ := rw_lst rv
        split at q1
        · rename_i hz
          obtain ⟨v', hv1, r1⟩ := s1.slot i _ e0
          rw [hv0] at hv1
          cases hv1
          cases r1 with
          | own ha1 ta1 =>
            refine ⟨_, b, _, us, rfl, rfl, ha1, hb, by rw [← lim_line, ta1.length, tb.length]; exact hz, ?_⟩
            obtain ⟨s2, x2⟩ := s1.chOwn (i := i) e0 rfl hv0 (ta1.append tb)
            exact q1 _ _ μ1 s2 x2
        · exact q1.elim
      · exact q1.elim
  · exact q.elim
end
end Q

namespace Q
open PySem PySem.Spec PyProof.Rows L2
def leP (p q : Int × Int) : Bool := !(SrtO.lexB q p)
def sortP (ps : List (Int × Int)) : List (Int × Int) := sortB leP ps
section
variable {X : Cx} {cf : CF} {EX : WX} {e : Expr} {ha : SA} {p pos : Pos}
open Classical in
def pairD (p : Int × Int) : D := .tuple [.int p.1, .int p.2]
def pairsOf : List D → Option (List (Int × Int))
  | [] => some []
  | .tuple [.int a, .int b] :: ds => (pairsOf ds).map ((a, b) :: ·)
  | _ :: _ => none
theorem pairsOf_map : ∀ (ps : List (Int × Int)), pairsOf (ps.map pairD) = some ps
  | [] => rfl
  | p :: ps => by simp [pairsOf, pairD, pairsOf_map ps]
def gSortedP : GN
  | [.d (.list xs)], S => match pairsOf xs with | some ps => .ok (.d (.list ((sortP ps).map pairD))) S | none => .stuck
  | _, _ => .stuck
end
end Q

namespace Q
open PySem PySem.Spec PyProof.Rows L2
def code (n : List Int) : Int := TS.code 64 n
section
variable {X : Cx} {cf : CF} {EX : WX} {e : Expr} {ha : SA} {p pos : Pos}
end
end Q

namespace Q
open PySem PySem.Spec PyProof.Rows L2
section
variable {X : Cx} {cf : CF} {EX : WX} {F : Addr → Prop} {σ : L2.St} {env : EnvQ} {S S' : Sto} {H H' : Hp} {μ μ' : List Addr} {K : PySem.W.Frag} {mg : Str → Option Value} {e c tg : Expr} {es : List Expr} {fa fb : SE} {pos p : Pos} {x : Str}
/-- x = [..], a new list of one's own -/
def sSetCompO (i : Nat) (vs : List Nat) (t : Tg) (it : SI) (c : ST) (f : SE) : SS := fun cf env S => if vs.all (notOwn env) then (it cf env S).then env fun ds S1 => (compL t (c cf) (f cf) (wipeE env vs) ds S1).calm.then env fun xs S2 => if xs.length ≤ LIM then .next (env.set i (some (.own xs))) S2 else .stuck else .stuck
/-- x[k] = e, x a list of one's own -/
def sSetIxO (i : Nat) (fk fe : SE) : SS := fun cf env S => match env[i]? with
  | some (some (.own xs)) => (fe cf env S).then env fun w S1 => match w with
    | .d x => (fk cf env S1).then env fun u S2 => (match u with
      | .d (.int j) => (match ixN xs.length j with
        | some m => .next (env.set i (some (.own (xs.set m x)))) S2
        | none => .stuck)
      | _ => .stuck)
    | _ => .stuck
  | _ => .stuck
def sNewD (i : Nat) : SS := fun _ env S => .next (env.set i (some (.ownd []))) S
def keyOfD : D → Option Key
  | .int i => some (.inl i)
  | .str s => some (.inr s)
  | _ => none
def putD (kvs : List (Key × D)) (k : Key) (d : D) : List (Key × D) :=
  if (kvs.any fun kv => decide (kv.1 = k)) = true then kvs.map (fun kv => if kv.1 = k then (kv.1, d) else kv) else kvs ++ [(k, d)]
theorem KvR.app {N : Addr → Prop} {k : Key} {v : V} {d : D} (r : Dn K H N v d) : ∀ {vs : List (Key × V)} {ds : List (Key × D)}, KvR K H N vs ds → KvR K H N (vs ++ [(k, v)]) (ds ++ [(k, d)])
  | _, _, .nil => .cons k r .nil
  | _, _, .cons i h t => .cons i h (KvR.app r t)
theorem KvR.put {N : Addr → Prop} {k : Key} {v : V} {d : D} (r : Dn K H N v d) {vs : List (Key × V)} {ds : List (Key × D)} (h : KvR K H N vs ds) : KvR K H N (putK vs k v) (putD ds k d) := by
  unfold putK putD
  rw [h.any]
  split
  · exact h.map r
  · exact h.app r
/-- found[k] = e -/
def sPutD (i : Nat) (fk fe : SE) : SS := fun cf env S => match env[i]? with
  | some (some (.ownd kvs)) => (fe cf env S).then env fun w S1 => match w with
    | .d x => (fk cf env S1).then env fun u S2 => (match u with
      | .d y => (match keyOfD y with
        | some k => if kvs.length < LIM then .next (env.set i (some (.ownd (putD kvs k x)))) S2 else .stuck
        | none => .stuck)
      | _ => .stuck)
    | _ => .stuck
  | _ => .stuck
/-- sorted(found), the keys whole numbers -/
def intKeys : List (Key × D) → Option (List Int)
  | [] => some []
  | (.inl i, _) :: t => (intKeys t).map (i :: ·)
  | _ :: _ => none
def gSortedDK : GN
  | [.ownd kvs], S => match intKeys kvs with | some ks => if ks.length < 64 then .ok (.d (.list ((sortI ks).map PyData.int))) S else .stuck | none => .stuck
  | _, _ => .stuck
end
end Q

namespace Q
open PySem PySem.Spec PyProof.Rows L2
section
variable {X : Cx} {cf : CF} {EX : WX} {F : Addr → Prop} {σ : L2.St} {env : EnvQ} {S S' S1 S2 : Sto} {H H' H1 : Hp} {μ μ' μ1 : List Addr} {K : PySem.W.Frag} {mg : Str → Option Value} {e c tg : Expr} {es : List Expr} {fa fb : SE} {pos p : Pos} {x : Str}
theorem rg_dn {N : Addr → Prop} (n : Int) : DnAll K H N (rgV 0 n) (rangeD 0 n.toNat) := by
  unfold rgV rangeD
  rw [Int.sub_zero]
  induction List.range n.toNat with
  | nil => exact .nil
  | cons k ks ih => exact .cons (.int _) ih
end
end Q

namespace Q
open PySem PySem.Spec PyProof.Rows L2
section
variable {X : Cx} {cf : CF} {EX : WX} {e : Expr} {fa : SE} {p p2 q pos : Pos}
/-- {} that nothing is put into -/
def fDic0 : SE := fun _ _ S => .ok (.d (.dict [])) S
end
end Q

namespace Q
open PySem PySem.Spec PyProof.Rows L2
section
variable {P : Program} {w : World} {A : Around} {E : Value → Shared → Prop} {s : Shared}
end
end Q

namespace Q
open PySem PySem.Spec PyProof.Rows L2
section
variable {X : Cx} {cf : CF} {EX : WX} {e : Expr} {fa : SE} {p p2 q pos : Pos}
end
end Q

namespace Q
open PySem PySem.Spec PyProof.Rows L2
section
variable {prog : Program} {w : World} {A : Around} {E : Value → Shared → Prop} {s : Shared}
end
def fRev (f : SE) : SE := fun cf env S => (f cf env S).bind fun w S1 => match w with
  | .d (.list xs) => .ok (.d (.list xs.reverse)) S1
  | .d (.tuple xs) => .ok (.d (.tuple xs.reverse)) S1
  | _ => .stuck
end Q

namespace Q
open PySem PySem.Spec PyProof.Rows L2
section
variable {prog : Program} {w : World} {A : Around} {E : Value → Shared → Prop} {s : Shared}
end
section
variable {prog : Program} {w : World} {A : Around} {E : Value → Shared → Prop} {s : Shared}
end
section
variable {X : Cx} {cf : CF} {EX : WX} {K : PySem.W.Frag} {H : Hp} {N : Addr → Prop} {e e2 : Expr} {ha : SA} {p pos tpos kp kp2 : Pos} {elts : List Expr} {kk ck : Nat}
def iZipS (a : SA) : SI := fun cf env S => (a cf env S).bind fun ws S1 => match ws with
  | [.d (.tuple xs), .d (.tuple ys)] => if xs.length = ys.length then .ok (zipD xs ys) S1 else .stuck
  | _ => .stuck
end
end Q

namespace Q
open PySem PySem.Spec PyProof.Rows L2
/-- lo, lo + c, .. : n of them -/
def rangeC (lo c : Int) (n : Nat) : List D := (List.range n).map fun k : Nat => PyData.int (lo + k * c)
def rng3 (i j c : Int) : Option (List D) := if c ≠ 0 ∧ Nat.ble c.natAbs 1073741823 = true ∧ Builtin.Range.small i j c = true ∧ 0 ≤ Builtin.Range.rangeSize i j c then some (rangeC i c (Builtin.Range.rangeSize i j c).toNat) else none
def iRange3 (a : SA) : SI := fun cf env S => (a cf env S).bind fun ws S1 => match ws with
  | [.d (.int i), .d (.int j), .d (.int c)] => (match rng3 i j c with | some ds => .ok ds S1 | none => .stuck)
  | _ => .stuck
section
variable {X : Cx} {cf : CF} {EX : WX} {tg e : Expr} {fa : SE} {ha : SA} {p p2 pos q : Pos}
def fLstRg (f : SE) : SE := fun cf env S => (f cf env S).bind fun w S1 => match w with
  | .d (.int n) => if inR n && decide (n ≤ 16777216) then .ok (.d (.list (rangeD 0 n.toNat))) S1 else .stuck
  | _ => .stuck
def fTupRg (f : SE) : SE := fun cf env S => (f cf env S).bind fun w S1 => match w with
  | .d (.int n) => if inR n && decide (n ≤ 16777216) then .ok (.d (.tuple (rangeD 0 n.toNat))) S1 else .stuck
  | _ => .stuck
theorem me_tupRg (hc : X.calm = true) (hg : Gl X "tuple") (hm : X.mg "tuple" = none) (hg2 : Gl X "range") (hm2 : X.mg "range" = none) (h : ME X cf EX e fa) (na : starEach [e] X.env = (false, eval e X.env) :: starEach [] X.env := by rfl)
    (nb : starEach [.Call (.Name "range" p2) [e] [] q] X.env = (false, eval (.Call (.Name "range" p2) [e] [] q) X.env) :: starEach [] X.env := by rfl) : ME X cf EX (.Call (.Name "tuple" p) [.Call (.Name "range" p2) [e] [] q] [] pos) (fTupRg fa) :=
  PE.weak (pe_tupRg hc hg hm (prg_1 hg2 hm2 h na) nb) fun σ H Q ⟨env, S, μ, F, s, q⟩ => ⟨env, S, μ, F, s, (Post.bind q).mono fun w S1 H1 μ1 s1 x1 q1 v rv => by
    split at q1
    · rename_i n
      split at q1
      · rename_i hr
        rw [Bool.and_eq_true, decide_eq_true_iff] at hr
        have h1 := inR_iff hr.1
        exact ⟨n, rw_int rv, ⟨by decide, by decide, h1.1, h1.2, by have := hr.2; omega⟩, fun p np => post_tup (α := Unit) s1 (rg_dn n) q1 np⟩
      · exact q1.elim
    · exact q1.elim⟩
end
end Q

namespace Q
open PySem PySem.Spec PyProof.Rows L2
end Q

namespace Q
open PySem PySem.Spec PyProof.Rows L2

/-- a def: how many parameters, how many names, its body -/
structure FD where
  n : Nat
  slots : Nat
  body : SS
abbrev Tab := String → Option FD
def fin : RS → R W
  | .ret w S => .ok w S
  | .next _ S => .ok (.d .none) S
  | .exc c _ S => .exc c S
  | _ => .stuck
def startQ (m : Nat) (ws : List W) : EnvQ := ws.map some ++ List.replicate (m - ws.length) none
def callQ (T : Tab) : Nat → CF
  | 0 => fun _ _ _ => .stuck
  | k + 1 => fun x ws S => match T x with
    | none => .stuck
    | some d => if ws.length = d.n ∧ W.plains ws = true then fin (d.body (callQ T k) (startQ d.slots ws) S) else .stuck
section
variable {P : Program} {w : World} {K : PySem.W.Frag} {mg : Str → Option Value} {base : Heap} {T : Tab} {k : Nat}
theorem plains_get : ∀ {ws : List W} {i : Nat} {u : W}, W.plains ws = true → ws[i]? = some u → u.plain = true
  | [], _, _, _, h => by simp at h
  | x :: xs, 0, u, p, h => by
    simp at h
    subst h
    simp only [W.plains, Bool.and_eq_true] at p
    exact p.1
  | x :: xs, i + 1, u, p, h => by
    simp only [W.plains, Bool.and_eq_true] at p
    exact plains_get p.2 (by simpa using h)
theorem startQ_get {m : Nat} {ws : List W} {i : Nat} {u : W} (h : (startQ m ws)[i]? = some (some u)) : ws[i]? = some u := by
  unfold startQ at h
  by_cases hi : i < ws.length
  · rw [List.getElem?_append_left (by simpa using hi), List.getElem?_map] at h
    cases e : ws[i]? with
    | none => rw [e] at h; cases h
    | some a => rw [e] at h; cases h; rfl
  · rw [List.getElem?_append_right (by simpa using hi), List.getElem?_replicate] at h
    split at h <;> cases h
theorem start_get {N : List Str} {vs : List V} {i : Nat} {v : V} (h : vs[i]? = some v) : (start N vs)[i]? = some (some v) := by
  unfold L2.start
  have hi : i < vs.length := (List.getElem?_eq_some_iff.mp h).1
  rw [List.getElem?_append_left (by simpa using hi), List.getElem?_map, h]
  rfl
/-- a def's body at its entry -/
theorem body_start {F : Addr → Prop} {N : List Str} {H : Hp} {S : Sto} {μ : List Addr} {vs : List V} {ws : List W} {Q : VK} {E : XK} {r : RS} (sr : SimR K mg F H S μ) (rv : RWs K mg H (NR F μ) μ vs ws) (pl : W.plains ws = true) (hN : vs.length ≤ N.length) :
    Sim K mg F (start N vs) H (startQ N.length ws) S μ ∧ (PostR K mg F H μ (fin r) Q E → PostS K mg (fun c d _ H => E c d H) F (start N vs) (startQ N.length ws) H μ r { nx := fun _ H' => Q .non H', rt := Q }) := by
  have no : ∀ i a, ¬ OwnAt (start N vs) (startQ N.length ws) i a := fun i a ⟨_, u, h, o⟩ => by
    have p := plains_get pl (startQ_get h)
    rw [fine_own o] at p
    cases p
  have mm : ∀ a, MM μ (start N vs) (startQ N.length ws) a ↔ a ∈ μ := fun a => ⟨fun h => h.elim id fun ⟨i, h⟩ => (no i a h).elim, .inl⟩
  have nn : ∀ a, NN F μ (start N vs) (startQ N.length ws) a → NR F μ a := fun a h => h.elim (fun h => .inl ((mm a).mp h)) .inr
  have sim : Sim K mg F (start N vs) H (startQ N.length ws) S μ := by
    refine ⟨?_, fun i u h => ?_, fun i u h => ?_, fun i j a h _ => (no i a h).elim, fun i a h => (no i a h).elim, sr.st.sub nn, sr.ftr, fun a f h => sr.fdis a f ((mm a).mp h)⟩
    · unfold L2.start startQ
      simp [rv.length]
    · obtain ⟨v, hv, r⟩ := rv.get (startQ_get h)
      exact ⟨v, start_get hv, RW.sub nn r⟩
    · unfold W.fine
      rw [plains_get pl (startQ_get h), Bool.true_or]
  refine ⟨sim, fun q => ?_⟩
  have back : ∀ {σ' : L2.St} {env' : EnvQ} {H' : Hp} {S' : Sto} {μ' : List Addr}, Sim K mg F σ' H' env' S' μ' → ExS (start N vs) (startQ N.length ws) H μ σ' env' H' μ' → SimR K mg F H' S' μ' ∧ ExR H μ H' μ' := fun s' x => by
    obtain ⟨sr', k'⟩ := s'.leave
    exact ⟨sr', ⟨fun a o na e => (x.keep.trans k') a o (fun h => na ((mm a).mp h)) e, x.pre⟩⟩
  cases r with
  | next e S' =>
    intro σ' H' μ' s' x
    obtain ⟨sr', x'⟩ := back s' x
    exact q .non H' μ' sr' x' (.d .non)
  | brk e S' => exact q.elim
  | cont e S' => exact q.elim
  | ret u S' =>
    intro v H' μ' sr' k' p' rv'
    exact q v H' μ' sr' ⟨fun a o na e => k' a o (fun h => na ((mm a).mp h)) e, p'⟩ rv'
  | exc c e S' =>
    intro C σ' H' μ' g s' x
    obtain ⟨sr', x'⟩ := back s' x
    exact q C H' μ' g sr' x'
  | stuck => exact q.elim
/-- a def of the text -/
structure DQ (K : PySem.W.Frag) (mg : Str → Option Value) (x y z : String) (params : Arguments) (body : List Stmt) (scope : Scope) (N ps : List Str) (f : Addr) (fd : FuncData) : Prop where
  F : FunD K (Str.ofString y) (Str.ofString z) params body scope [] [] f fd
  S : FnScope N ps scope
  g : mg (Str.ofString x) = some (.ref f)
  b : Binds K fd ps []
theorem fn_zero {x y z : String} {params : Arguments} {body : List Stmt} {scope : Scope} {N ps : List Str} {f : Addr} {fd : FuncData} (d : DQ K mg x y z params body scope N ps f fd) : FnQ P w K mg base (callQ T 0) 0 x ps.length :=
  ⟨f, fd, ps, ⟨fun vs H Q E h => h.1, fun A outer s H args us vs Q E hg hr he hb hv h => by
    obtain ⟨_, ws, S, μ, F, _, _, _, q⟩ := h
    exact q.elim⟩, d.g, d.F.kp, d.b, rfl⟩
theorem fn_succG {x y z : String} {params : Arguments} {body : List Stmt} {scope : Scope} {N ps : List Str} {f : Addr} {fd : FuncData} {D : FD} (d : DQ K mg x y z params body scope N ps f fd) (hT : T x = some D) (hn : D.n = ps.length) (hs : D.slots = N.length) (hl : ps.length ≤ N.length)
    (h : ∀ (cdv : Value) (A : Around) (outer : List Env) (s : Shared) (H : Hp) (E : XK), A.guards = some [] → Room k (A.deeper (envOfC (Str.ofString z) scope s.heap.objs.size f cdv)) →
      MSs (cxOf (L2.CX P w) P w K mg base N (Str.ofString z) scope f cdv A outer s H E) (callQ T k) (fun c d _ H => E c d H) body D.body) : FnG P w K mg base (L2.CX P w) (k + 1) f fd ps (SpQ K mg (callQ T (k + 1)) x ps.length) := by
  refine ok_G d.F d.S (fun vs H Q E h => h.1) fun cdv A outer s H vs Q E hg hr hsp => ⟨_, h cdv A outer s H E hg hr, ?_⟩
  obtain ⟨hlen, ws, S, μ, F, sr, rv, pl, q⟩ := hsp
  have e : callQ T (k + 1) x ws S = fin (D.body (callQ T k) (startQ D.slots ws) S) := by
    show (match T x with | none => R.stuck | some d => if ws.length = d.n ∧ W.plains ws = true then fin (d.body (callQ T k) (startQ d.slots ws) S) else .stuck) = _
    rw [hT]
    exact if_pos ⟨by rw [hn, ← hlen, rv.length], pl⟩
  rw [e, hs] at q
  obtain ⟨s1, q1⟩ := body_start (N := N) (Q := Q) (E := E) (r := D.body (callQ T k) (startQ N.length ws) S) sr rv pl (by omega)
  exact ⟨_, S, μ, F, s1, q1 q⟩
theorem fn_succ {x y z : String} {params : Arguments} {body : List Stmt} {scope : Scope} {N ps : List Str} {f : Addr} {fd : FuncData} {D : FD} (d : DQ K mg x y z params body scope N ps f fd) (hT : T x = some D) (hn : D.n = ps.length) (hs : D.slots = N.length) (hl : ps.length ≤ N.length)
    (h : ∀ (cdv : Value) (A : Around) (outer : List Env) (s : Shared) (H : Hp) (E : XK), A.guards = some [] → Room k (A.deeper (envOfC (Str.ofString z) scope s.heap.objs.size f cdv)) →
      MSs (cxOf (L2.CX P w) P w K mg base N (Str.ofString z) scope f cdv A outer s H E) (callQ T k) (fun c d _ H => E c d H) body D.body) : FnQ P w K mg base (callQ T (k + 1)) (k + 1) x ps.length :=
  ⟨f, fd, ps, fn_succG d hT hn hs hl h, d.g, d.F.kp, d.b, rfl⟩
end
end Q

namespace Q
open PySem PySem.Spec PyProof.Rows L2
structure ExcF (K : PySem.W.Frag) (mg : Str → Option Value) (c : String) : Prop where
  ex : ∃ C, mg (Str.ofString c) = some (.ref C) ∧ PySem.W.excIn K C He.veBase "ValueError.__new__" = true ∧ PySem.W.keepIn K (.ref C) = true ∧ PySem.W.subIn K (.ref C) (.type "BaseException") = some true ∧ PySem.W.typeIn K (.ref C) = some (.type "type")
section
variable {X : Cx} {cf : CF} {EX : WX} {pos p p2 : Pos} {c : String}
theorem pmk_own0 {C : Addr} {bmB : List Value} {B newId initId : String} {x : Str} (F : ExcBaseFacts B newId initId bmB) (q : PySem.W.excIn X.K C bmB newId = true) (gC : X.mg x = some (.ref C)) (kC : PySem.W.keepIn X.K (.ref C) = true) (r : Raises X (.ref C)) (hg : Gl X x)
    (hdb : (x == ("__debug__" : Str)) = false) : PMk X (.Call (.Name x p) [] [] pos) (fun _ H Q => Q (.ref C) none H) := by
  intro pins s σ H Q I h
  refine wpAny_Call_Name_kw (ld_glob I hg gC ?_ hdb)
  refine PySem.W.callWith_K0 I.kIn kC ?_
  show wpAny _ _ (call (.ref C) []) _ _ _
  obtain ⟨bm, N, nm, qn, bs, hdct, sn, sub, ab, col, dd, k0, k1, k2, k3, k5, mN, hC, hN, hni, T⟩ := exc_obj I.kIn q
  refine wpAny_call_exc_subT F T hC hN hni (fun h' e hm => ?_) (by show 0 ≤ sizeLine; omega)
  exact mk_of I hm r h (I.hok.gone hm.new)
theorem ms_raise (f : ExcF X.K X.mg c) (hc : X.calm = true) (tk : Takes X EX) (hg : Gl X (Str.ofString c)) (hd : (Str.ofString c == ("__debug__" : Str)) = false := by decide) : MS X cf EX (.Raise (some (.Call (.Name (Str.ofString c) p) [] [] p2)) none pos) (sRaise c) := by
  obtain ⟨C, h1, h2, h3, h4, h5⟩ := f.ex
  exact PS.weak (ps_raise hc tk (pmk_own0 PySem.F.excBase_ValueError h2 h1 h3 (raises_own h4 h5) hg hd)) fun D σ H ⟨env, S, μ, F, s, q⟩ => q C σ H μ h1 s (ExS.refl _ _ _ _)
end
end Q

namespace Q
open PySem PySem.Spec PyProof.Rows L2
/-- law_G with tables: cs, the code objects and their tables -/
theorem law_GT {P : Program} {w : World} {K : PySem.W.Frag} {mg mb : Str → Option Value} {k : Nat} {fa a : Addr} {cs : List (Addr × Addr)} {fd : FuncData} {x : Str} {sp : Sp} {s₁ : Shared} {vs : List Value} {ns : List Int}
    (KX : K.In s₁.heap) (hns : s₁.heap.Ns mainGlobals mg) (hb : s₁.heap.Ns builtinsNs mb) (hbb : ∀ x : Str, x ≠ "__name__" → mb x = bootBuiltins x) (hlim : s₁.heap.NoLimit) (hg : s₁.gens = #[])
    (hT : ∀ p ∈ cs, s₁.heap.get? p.2 = some { cls := .none, data := .fields #[] }) (nT : ∀ p ∈ cs, K.lookup p.2 = none) (C : ∀ p ∈ cs, PySem.W.CodeHd s₁.heap p.1 p.2)
    (hbm : ∃ (bm : Addr) (ob : Obj), mg "__builtins__" = some (.ref bm) ∧ bm ≠ builtinsNs ∧ s₁.heap.get? bm = some ob ∧ ob.cls = .type "module" ∧ ob.dict = some builtinsNs ∧ ob.data = .plain)
    (ha : s₁.heap.get? a = some { cls := .type "list", data := .seq vs.toArray }) (hi : IntsAre vs ns) (hl : ns.length ≤ sizeLine) (hr : Room k callerA)
    (F : ∀ base : Heap, K.In base → base.Ns mainGlobals mg → (∀ p ∈ cs, LamX.TabB base mg p.1 p.2) → FnG P w K mg base (L2.CX P w) k fa fd [x] sp) (hbind : ∀ (s : Shared) (u : Value), BindsTo s fd ⟨[u], []⟩ [(x, u)])
    (hsp : ∀ H : Hp, (∀ p ∈ cs, H p.2 = some (.tbl #[])) → a ∉ cs.map (·.2) → SqL K H a (ns.map V.int) → sp [.ref a] H (fun v _ => v = .bl true) fun _ _ _ => False) :
    codeAny (model P w) callerA (.call (.ref fa) ⟨[.ref a], []⟩) (EndG s₁) s₁ := by
  have rv := vals_ints hi
  have lenV := hi.length
  have isT : ∀ b : Addr, b ∈ cs.map (·.2) → s₁.heap.get? b = some { cls := .none, data := .fields #[] } := fun b hb => by
    obtain ⟨p, hp, e⟩ := List.mem_map.mp hb
    rw [← e]
    exact hT p hp
  have aT : a ∉ cs.map (·.2) := fun z => by
    have q := isT a z
    rw [ha] at q
    have z' : Data.seq vs.toArray _ = Data.fields #[] := congrArg Obj.data (Option.some.inj q)
    cases z'
  have memT : ∀ p ∈ cs, p.2 ∈ cs.map (·.2) := fun p hp => List.mem_map.mpr ⟨p, hp, rfl⟩
  have core : ∀ H : Hp, (∀ p ∈ cs, H p.2 = some (.tbl #[])) → (∀ b, H b = none ∨ b ∈ cs.map (·.2) ∨ ∃ o xs, H b = some (.frz o (.lst xs))) → SqL K H a (ns.map V.int) → HOk P w H s₁.heap → (∀ b, H b ≠ none → b = a ∨ b ∈ cs.map (·.2)) → (H a ≠ none → K.lookup a = none) →
      codeAny (model P w) callerA (.call (.ref fa) ⟨[.ref a], []⟩) (EndG s₁) s₁ := by
    intro H hH hO hS hok hA hK
    have base_of : ∀ {b : Addr} {o : Obj}, s₁.heap.get? b = some o → H b = none → (hidT s₁.heap H).get? b = some o := fun e n => hidT_get e n
    have noD : ∀ {b : Addr} {o : Obj}, s₁.heap.get? b = some o → (∀ vs n, o.data ≠ .seq vs n) → o.data ≠ .fields #[] → H b = none := fun {b o} e h1 h2 => by
      cases q : H b with
      | none => rfl
      | some u =>
        rcases hA b (by rw [q]; simp) with e' | e'
        · rw [e', ha] at e
          cases e
          exact (h1 _ _ rfl).elim
        · rw [isT b e'] at e
          cases e
          exact (h2 rfl).elim
    have noA : ∀ {b : Addr} {o : Obj} {es : Array DictEntry} {ep : Nat}, s₁.heap.get? b = some o → o.data = .dict es ep → H b = none := fun {b o es ep} e d => by
      refine noD e (fun vs n z => ?_) fun z => ?_
      · rw [d] at z
        cases z
      · rw [d] at z
        cases z
    have nsK : ∀ {b : Addr} {m : Str → Option Value}, s₁.heap.Ns b m → (hidT s₁.heap H).Ns b m := fun {b m} ⟨o, es, ep, e, d, r⟩ => ⟨o, es, ep, base_of e (noA e d), d, r⟩
    have hKb : K.In (hidT s₁.heap H) := fun b o e => base_of (KX b o e) (by
      cases q : H b with
      | none => rfl
      | some u =>
        rcases hA b (by rw [q]; simp) with e' | e'
        · rw [e'] at e q
          rw [hK (by rw [q]; simp)] at e
          cases e
        · obtain ⟨p, hp, ep⟩ := List.mem_map.mp e'
          rw [← ep, nT p hp] at e
          cases e)
    have hM : L2.Mod K mg (hidT s₁.heap H) := ⟨hKb, nsK hns, ⟨mb, nsK hb, hbb⟩, let ⟨mc, h1, h2⟩ := hlim; ⟨mc, nsK h1, h2⟩⟩
    have TB : ∀ p ∈ cs, LamX.TabB (hidT s₁.heap H) mg p.1 p.2 := fun p hp => by
      have hTp := hT p hp
      refine ⟨?_, ?_, fun z => ?_⟩
      · obtain ⟨o, us, file, tf, flags, tg, inF, text, tt, e1, r1, r2, r3, r4, r5, r6, r7, r8, hne⟩ := C p hp
        refine ⟨o, us, file, tf, flags, tg, inF, text, tt, base_of e1 (noD e1 (fun vs n z => ?_) fun z => ?_), r1, r2, r3, r4, r5, r6, r7, r8, hne⟩
        · rw [r2] at z
          cases z
        · rw [r2] at z
          cases z
          simp at r3
      · obtain ⟨bm, ob, b1, b2, b3, b4, b5, b6⟩ := hbm
        have nG : bm ≠ mainGlobals := fun q => by
          obtain ⟨o, es, ep, e, hd, _⟩ := hns
          rw [q, e] at b3
          cases b3
          rw [hd] at b6
          cases b6
        have nP : bm ≠ p.2 := fun q => by
          rw [q, hTp] at b3
          cases b3
          cases b6
        refine ⟨bm, ob, b1, b2, nG, nP, base_of b3 (noD b3 (fun vs n z => ?_) fun z => ?_), b4, b5, b6⟩
        · rw [b6] at z
          cases z
        · rw [b6] at z
          cases z
      · obtain ⟨o, es, ep, e, hd, _⟩ := hns
        rw [z, hTp] at e
        cases e
        cases hd
    have e0 : Env0 P w K mg (hidT s₁.heap H) callerA [] s₁ H := ⟨rfl, hM, fun b o e => of_hidT e, Nat.le_of_eq (hidT_size _ _), trivial, fun b hb => absurd (show b ∈ ([] : List Addr) from hb) (by simp), hok, .of_eq hg⟩
    refine codeAny_mono ((F _ hKb (nsK hns) TB).run callerA [] s₁ H ⟨[.ref a], []⟩ [.ref a] [.ref a] _ _ rfl hr e0 (hbind s₁ (.ref a)) (.cons rfl .nil) (hsp H hH aT hS)) fun r s' h => ?_
    cases r with
    | error e =>
      obtain ⟨_, _, _, _, _, _, _, _, _, _, _, _, z⟩ := h
      exact z.elim
    | ok fl =>
      cases fl with
      | next => exact False.elim h
      | brk => exact False.elim h
      | cont => exact False.elim h
      | ret u =>
        obtain ⟨v, H', os, bare, un, hok', r', q⟩ := h
        have q' : v = .bl true := q
        subst q'
        obtain rfl : u = Value.bool true := r'
        have key : ∀ b o, b ∉ cs.map (·.2) → s₁.heap.get? b = some o → s'.heap.get? b = some o := fun b o nb e => by
          cases q : H b with
          | none => exact un.keep b o e q (by intro z; exact absurd (show b ∈ ([] : List Addr) from z) (by simp)) (by simp)
          | some u =>
            rcases hO b with z | z | ⟨ob, xs, z⟩
            · rw [q] at z; cases z
            · exact absurd z nb
            · have z2 := un.frzs b ob _ z
              obtain ⟨e1, _⟩ := hok b _ z
              obtain ⟨e2, _⟩ := hok' b _ z2
              rw [e] at e1; cases e1
              exact e2
        have grown : ∀ p ∈ cs, ∃ more : Array Value, s'.heap.get? p.2 = some { cls := .none, data := .fields more } := fun p hp => by
          obtain ⟨more, z⟩ := un.tbls p.2 #[] (hH p hp)
          exact ⟨_, hok' p.2 _ z⟩
        refine ⟨rfl, ⟨fun b o e => ?_, fun b o e => ?_⟩, os, bare⟩
        · by_cases hb : b ∈ cs.map (·.2)
          · obtain ⟨p, hp, ep⟩ := List.mem_map.mp hb
            obtain ⟨more, hm⟩ := grown p hp
            rw [← ep] at e ⊢
            rw [hT p hp] at e
            cases e
            exact .inr (.inl ⟨((C p hp).tab (hT p hp)).isCodeTable, rfl, #[], more, rfl, by rw [Array.empty_append]; exact hm⟩)
          · exact .inl (key b o hb e)
        · by_cases hb : b ∈ cs.map (·.2)
          · obtain ⟨p, hp, ep⟩ := List.mem_map.mp hb
            obtain ⟨more, hm⟩ := grown p hp
            rw [← ep]
            exact ⟨_, hm⟩
          · exact ⟨o, key b o hb e⟩
  cases hk : K.lookup a with
  | some o =>
    have e := KX a o hk
    rw [ha] at e
    cases e
    refine core (fun b => if b ∈ cs.map (·.2) then some (.tbl #[]) else none) (fun p hp => if_pos (memT p hp)) (fun b => ?_) (.inr ⟨_, vs.toArray, _, hk, rfl, rfl, rfl, by rw [List.size_toArray, lenV]; exact hl, by simpa using rv⟩) (fun b u z => ?_) (fun b z => ?_) fun z => absurd (show (if a ∈ cs.map (·.2) then some (HO.tbl #[]) else none) = none from if_neg aT) z
    · by_cases hb : b ∈ cs.map (·.2)
      · exact .inr (.inl hb)
      · exact .inl (if_neg hb)
    · by_cases hb : b ∈ cs.map (·.2)
      · have z' := (if_pos hb).symm.trans z
        cases z'
        exact isT b hb
      · have z' := (if_neg hb).symm.trans z
        cases z'
    · by_cases hb : b ∈ cs.map (·.2)
      · exact .inr hb
      · exact absurd (if_neg hb) z
  | none =>
    refine core (fun b => if b = a then some (.frz { cls := .type "list", data := .seq vs.toArray } (.lst (ns.map V.int))) else if b ∈ cs.map (·.2) then some (.tbl #[]) else none) (fun p hp => (if_neg (show ¬ p.2 = a from fun z => aT (by rw [← z]; exact memT p hp))).trans (if_pos (memT p hp))) (fun b => ?_)
      (.inl (.inr ⟨{ cls := .type "list", data := .seq vs.toArray }, if_pos rfl⟩)) (fun b u z => ?_) (fun b z => ?_) fun _ => hk
    · by_cases hb : b = a
      · exact .inr (.inr ⟨_, _, if_pos hb⟩)
      · by_cases hb2 : b ∈ cs.map (·.2)
        · exact .inr (.inl hb2)
        · exact .inl ((if_neg hb).trans (if_neg hb2))
    · by_cases hb : b = a
      · have z' := (if_pos hb).symm.trans z
        cases z'
        rw [hb]
        exact ⟨ha, by rw [List.length_map]; exact hl, vs, _, rv, ha⟩
      · have z1 := (if_neg hb).symm.trans z
        by_cases hb2 : b ∈ cs.map (·.2)
        · have z' := (if_pos hb2).symm.trans z1
          cases z'
          exact isT b hb2
        · have z' := (if_neg hb2).symm.trans z1
          cases z'
    · by_cases hb : b = a
      · exact .inl hb
      · by_cases hb2 : b ∈ cs.map (·.2)
        · exact .inr hb2
        · exact absurd ((if_neg hb).trans (if_neg hb2)) z
def tabS (tf : TF) : Sto := tf.map fun p => .tab p.1 p.2
theorem law_spT {K : PySem.W.Frag} {mg : Str → Option Value} {T : Tab} {k : Nat} {x : String} {tf : TF} (law : ∀ ns : List Int, ns.length ≤ 63 → ∃ S', callQ T k x [.scr ns] (tabS tf) = .ok (.d (.bool true)) S') (H : Hp) (a : Addr) (ns : List Int) (hl : ns.length ≤ 63)
    (nd : (tf.map fun p => tabA K p.1).Nodup) (hO : ∀ p ∈ tf, H (tabA K p.1) = some (.tbl #[])) (aT : a ∉ tf.map fun p => tabA K p.1) (hS : SqL K H a (ns.map V.int)) :
    SpQ K mg (callQ T k) x 1 [.ref a] H (fun v _ => v = .bl true) fun _ _ _ => False := by
  obtain ⟨S', e⟩ := law ns hl
  have only : RdF K H (NR (fun _ => False) (tf.map fun p => tabA K p.1)) a (ns.map V.int) := by
    rcases hS with h | h
    · exact .inl ⟨fun z => z.elim aT id, h⟩
    · exact .inr (.inr h)
  refine ⟨rfl, [.scr ns], tabS tf, tf.map fun p => tabA K p.1, fun _ => False, ⟨⟨by simp [tabS], nd, fun n o h => ?_⟩, fun _ h => h.elim, fun _ h => h.elim⟩, .cons (.scr only) .nil, rfl, ?_⟩
  · unfold tabS at h
    rw [List.getElem?_map] at h
    cases q : tf[n]? with
    | none => rw [q] at h; cases h
    | some p =>
      rw [q] at h
      cases h
      refine ⟨tabA K p.1, by rw [List.getElem?_map, q]; rfl, .tab rfl ⟨#[], hO p (List.mem_of_getElem? q), True.intro, fun pos cv hc => ?_⟩⟩
      have z : codeAmong pos [] = some cv := hc
      simp [codeAmong] at z
  · rw [e]
    intro v H' μ' _ _ rv
    exact rw_bl rv
theorem walk_GT {l : PySem.W.OpenLaw} {n k : Nat} {q : Program} {loose : List Str} {XP : (Str → Option Value) → Heap → Prop} {YP : World → Heap → Prop} {d : DefRec} {x : Str}
    (hn : l.most = some n) (hn2 : n ≤ sizeLine) (hdf : d.params.defaults = []) (hr : Room k callerA)
    (F : ∀ (w : World) (mg : Str → Option Value) (fa : Addr) (h : Heap), YP w h → h.Ns mainGlobals mg → mg d.name = some (.ref fa) →
      ∃ (K : PySem.W.Frag) (fd : FuncData) (cs : List (Addr × Addr)) (sp : Sp), K.In h ∧ (∀ p ∈ cs, h.get? p.2 = some { cls := .none, data := .fields #[] }) ∧ (∀ p ∈ cs, K.lookup p.2 = none) ∧ (∀ p ∈ cs, PySem.W.CodeHd h p.1 p.2) ∧ (∀ (s : Shared) (u : Value), BindsTo s fd ⟨[u], []⟩ [(x, u)]) ∧
        (∀ (H : Hp) (a : Addr) (ns : List Int), ns.length ≤ n → (∀ p ∈ cs, H p.2 = some (.tbl #[])) → a ∉ cs.map (·.2) → SqL K H a (ns.map V.int) → sp [.ref a] H (fun v _ => v = .bl true) fun _ _ _ => False) ∧
        ∀ base : Heap, K.In base → base.Ns mainGlobals mg → (∀ p ∈ cs, LamX.TabB base mg p.1 p.2) → FnG l.prog w K mg base (L2.CX l.prog w) k fa fd [x] sp) :
    PySem.W.WalkO q loose XP YP l.row.toRowW d [] (fun f vs => PySem.call f vs) := by
  apply Att.attach_call hn hdf
  intro w s₀ s₁ mg mb fa o pm cd doc a vs ns G Y ho hd hcd hmg hobj hints hlen hg
  obtain ⟨K, fd, cs, sp, KX, hT, nT, C, hb, hsp, hF⟩ := F w mg fa _ Y G.T.g hmg
  exact law_GT KX G.T.g G.T.b G.T.builtins G.T.nolimit hg hT nT C G.T.bmain hobj hints (Nat.le_trans hlen hn2) hr hF hb fun H hO hA hS => hsp H a ns hlen hO hA hS
section
variable {P : Program} {w : World} {K : PySem.W.Frag} {mg : Str → Option Value} {base : Heap} {T : Tab} {k : Nat}
/-- a def's body keeps its promise; its code object is known -/
theorem ok_GT {CX : CXT} {f : Addr} {fd : FuncData} {x qual : Str} {params : Arguments} {body : List Stmt} {scope : Scope} {dvs : List V} {kws : List (Str × V)} {N ps : List Str} {sp : Sp} {q : He.Defn} (F : FunD K x qual params body scope dvs kws f fd) (hf : f = He.fAd K q) (S : FnScope N ps scope)
    (len : ∀ vs H Q E, sp vs H Q E → vs.length = ps.length)
    (hbody : ∀ (cdv : Value) (A : Around) (outer : List Env) (s : Shared) (H : Hp) (vs : List V) (Q : VK) (E : XK), cdv = .ref (He.codeOf K q) → A.guards = some [] → Room k (A.deeper (envOfC qual scope s.heap.objs.size f cdv)) → sp vs H Q E →
      ∃ t, PSs (cxOf CX P w K mg base N qual scope f cdv A outer s H E) body t ∧ t { nx := fun _ H' => Q .non H', rt := Q } (start N vs) H) : FnG P w K mg base CX (k + 1) f fd ps sp := by
  obtain ⟨oc, od, dV, kV, doc, pm, an, cdv, ct, osl, e1, lk, hcd, _, _⟩ := F.ex
  obtain ⟨c, ec⟩ := He.codeIn_ref hcd
  have hcode : cdv = .ref (He.codeOf K q) := by
    rw [He.codeOf_eq (fd := fd) (c := c) (by rw [← hf, lk, e1]) (by rw [e1]; exact ec)]
    exact ec
  subst e1
  refine ⟨len, ?_⟩
  intro A outer s H args us vs Q E hg hr e0 hb r hsp
  have up : ∀ b o, base.get? b = some o → s.heap.get? b = some o := fun b o e => (e0.bs b o e).1
  have KX : K.In s.heap := e0.mod.kin.keeps up
  apply codeAny_call_function hr.depth (KX _ _ lk) rfl S.co S.gen rfl (PySem.W.codeRec_of KX hcd)
  apply hb
  have kinds : ∀ y ∈ ps.zip us, scope.names.lookup y.1 = some .local ∨ (scope.names.lookup y.1 = some .cell ∧ ((cellsFrom (s.heap.objs.size + 1) scope.names []).lookup y.1).isSome = true) := by
    rintro ⟨n, v⟩ hy
    rcases S.par n (List.of_mem_zip hy).1 with q | q
    · exact .inl q
    · exact .inr ⟨q, PySem.W.cellsFrom_some _ _ _ (.inl q)⟩
  apply wpAny_newFunctionEnv_cells S.kind kinds
  rintro env rfl s1 xx
  refine ⟨(e0.mod.nolimit.keeps up).keeps xx.toInCall.keep, codeAny_func ?_⟩
  obtain ⟨t, ht, hq⟩ := hbody cdv A outer s H vs Q E hcode hg (hr.deeper _) hsp
  have I : Inv (cxOf CX P w K mg base N qual scope f cdv A outer s H E) [] (start N vs) H s1 := inv_start S hr.hd e0 (len _ _ _ _ hsp) r xx
  apply wpAny_mono (ht.run [] s1 (start N vs) H _ I hq)
  · intro fl s' hs
    cases fl with
    | ret u =>
      obtain ⟨v, σ', H', J, rv, q⟩ := hs
      exact ⟨v, H', J.os, J.bare, J.base, J.hok, rv, q⟩
    | next =>
      obtain ⟨σ', H', J, q⟩ := hs
      exact ⟨V.non, H', J.os, J.bare, J.base, J.hok, rfl, q⟩
    | brk =>
      obtain ⟨_, _, _, q⟩ := hs
      exact q.elim
    | cont =>
      obtain ⟨_, _, _, q⟩ := hs
      exact q.elim
  · exact fun _ _ h => h
theorem fn_succGT {x y z : String} {params : Arguments} {body : List Stmt} {scope : Scope} {N ps : List Str} {fd : FuncData} {D : FD} (d : DQ K mg x y z params body scope N ps (He.ga K (Str.ofString x)) fd) (hT : T x = some D) (hn : D.n = ps.length) (hs : D.slots = N.length) (hl : ps.length ≤ N.length)
    (h : ∀ (cdv : Value) (A : Around) (outer : List Env) (s : Shared) (H : Hp) (E : XK), cdv = .ref (He.cT K (Str.ofString x, none)).1 → A.guards = some [] → Room k (A.deeper (envOfC (Str.ofString z) scope s.heap.objs.size (He.ga K (Str.ofString x)) cdv)) →
      MSs (cxOf (L2.CX P w) P w K mg base N (Str.ofString z) scope (He.ga K (Str.ofString x)) cdv A outer s H E) (callQ T k) (fun c d _ H => E c d H) body D.body) : FnG P w K mg base (L2.CX P w) (k + 1) (He.ga K (Str.ofString x)) fd ps (SpQ K mg (callQ T (k + 1)) x ps.length) := by
  refine ok_GT (q := (Str.ofString x, none)) d.F rfl d.S (fun vs H Q E h => h.1) fun cdv A outer s H vs Q E hcd hg hr hsp => ⟨_, h cdv A outer s H E hcd hg hr, ?_⟩
  obtain ⟨hlen, ws, S, μ, F, sr, rv, pl, q⟩ := hsp
  have e : callQ T (k + 1) x ws S = fin (D.body (callQ T k) (startQ D.slots ws) S) := by
    show (match T x with | none => R.stuck | some d => if ws.length = d.n ∧ W.plains ws = true then fin (d.body (callQ T k) (startQ d.slots ws) S) else .stuck) = _
    rw [hT]
    exact if_pos ⟨by rw [hn, ← hlen, rv.length], pl⟩
  rw [e, hs] at q
  obtain ⟨s1, q1⟩ := body_start (N := N) (Q := Q) (E := E) (r := D.body (callQ T k) (startQ N.length ws) S) sr rv pl (by omega)
  exact ⟨_, S, μ, F, s1, q1 q⟩
theorem fn_succT {x y z : String} {params : Arguments} {body : List Stmt} {scope : Scope} {N ps : List Str} {fd : FuncData} {D : FD} (d : DQ K mg x y z params body scope N ps (He.ga K (Str.ofString x)) fd) (hT : T x = some D) (hn : D.n = ps.length) (hs : D.slots = N.length) (hl : ps.length ≤ N.length)
    (h : ∀ (cdv : Value) (A : Around) (outer : List Env) (s : Shared) (H : Hp) (E : XK), cdv = .ref (He.cT K (Str.ofString x, none)).1 → A.guards = some [] → Room k (A.deeper (envOfC (Str.ofString z) scope s.heap.objs.size (He.ga K (Str.ofString x)) cdv)) →
      MSs (cxOf (L2.CX P w) P w K mg base N (Str.ofString z) scope (He.ga K (Str.ofString x)) cdv A outer s H E) (callQ T k) (fun c d _ H => E c d H) body D.body) : FnQ P w K mg base (callQ T (k + 1)) (k + 1) x ps.length :=
  ⟨_, fd, ps, fn_succGT d hT hn hs hl h, d.g, d.F.kp, d.b, rfl⟩
end
abbrev TBx (K : PySem.W.Frag) (mg : Str → Option Value) (base : Heap) (x : String) : Prop := LamX.TabB base mg (He.cT K (Str.ofString x, none)).1 (tabA K x)
def csT (K : PySem.W.Frag) (tf : TF) : List (Addr × Addr) := tf.map fun p => He.cT K (Str.ofString p.1, none)
theorem csT_snd (K : PySem.W.Frag) (tf : TF) : (csT K tf).map (·.2) = tf.map fun p => tabA K p.1 := by
  unfold csT
  rw [List.map_map]
  rfl
theorem mem_csT {K : PySem.W.Frag} {tf : TF} (i : Nat) {p : String × String} (h : tf[i]? = some p) : He.cT K (Str.ofString p.1, none) ∈ csT K tf := List.mem_map.mpr ⟨p, List.mem_of_getElem? h, rfl⟩
theorem csT_all {K : PySem.W.Frag} {tf : TF} {R : Addr × Addr → Prop} (h : ∀ p ∈ tfD tf, R (He.cT K p)) : ∀ p ∈ csT K tf, R p := fun p hp => by
  obtain ⟨q, hq, rfl⟩ := List.mem_map.mp hp
  exact h _ (List.mem_map.mpr ⟨q, hq, rfl⟩)
theorem exT_ok {cs : List (Str × D)} {tf : TF} {K : PySem.W.Frag} (h : exT cs tf K = true) : consB cs K = true ∧ (tf.map fun p => tabA K p.1).Nodup := by
  unfold exT at h
  rw [Bool.and_eq_true, decide_eq_true_eq] at h
  exact h
end Q

namespace Q
open PySem PySem.Spec PyProof.Rows L2
section
variable {X : Cx} {pins : List (Addr × Obj)} {σ : L2.St} {H : Hp} {s : Shared}
/-- the object of a lambda at f, its code object at c' -/
abbrev lamO (X : Cx) (params : Arguments) (body : Expr) (scope : Scope) (pm : Value) (c' : Addr) (ctv : Value) : Obj := PySem.W.kla_obj "<lambda>" (X.env.qual ++ "<lambda>") params body scope (cloFrom X.env.cells scope.names []) pm c' ctv
theorem lam_make3 {c P : Addr} {q : Str} {N : Addr → Prop} {params : Arguments} {body : Expr} {scope : Scope} {pos : Pos} {E : Value → Shared → Prop} {Q : Value → Shared → Prop} (I : Inv X pins σ H s) (TB : LamX.TabB X.base X.mg c P) (hcode : X.env.code = .ref c)
    (hq : q = X.env.qual ++ "<lambda>") (hT : TabN H N P q) (hN : ∀ b, N b → ∃ u, H b = some u) (hdef : defaultsOf params X.env = ([], [])) (hfree : ∀ y ∈ scope.names, y.2 = .free → ∃ c, X.env.cells.lookup y.1 = some c)
    (h : ∀ (f c' : Addr) (pm ctv : Value) (H1 : Hp) (s' : Shared), Inv X pins σ H1 s' → (∀ b u, b ≠ P → H b = some u → H1 b = some u) → TabN H1 N P q →
      s'.heap.get? f = some (lamO X params body scope pm c' ctv) → H1 f = none → f ∉ frs X.stack → ¬ N c' → H1 c' = some (LamX.CodeO c' q) → Q (.ref f) s') :
    wpAny (model X.prog X.w) X.A (eval (.Lambda params body scope pos) X.env) Q E s := by
  subst hq
  obtain ⟨ps, hP, ht, ha⟩ := hT
  refine PySem.W.kla_eval hdef ?_
  have bP : s.heap.BuiltinsAt X.mg P := TB.bm.keeps I.bk
  have hP' : s.heap.get? P = some { cls := .none, data := .fields ps } := I.hok P _ hP
  have nofr : ∀ f, s.heap.objs.size ≤ f → f ∉ frs X.stack := fun f hf z => by
    rcases List.mem_cons.mp (I.stkSub _ z) with e | e
    · have h1 := I.lt
      rw [← e] at h1
      exact Nat.lt_irrefl _ (Nat.lt_of_lt_of_le h1 hf)
    · exact I.nofs hf e
  cases hc : codeAmong pos ps.toList with
  | none =>
    refine PySem.W.kla_makeFunction (mg := X.mg) (c := c) (P := P) (ps := ps) (closure_ok hfree) I.ok.glob (I.mod.glob.keeps I.bk) hcode (TB.code.keeps I.bk) hP' ht hc TB.gP bP fun c' ctv h' tk hx hge hlt hrec htb => ?_
    obtain ⟨c2, oc, vs, t, e2, hoc, hd, hv⟩ := hrec
    cases e2
    have hsz : s.heap.objs.size ≤ h'.objs.size := Nat.le_trans hge (Nat.le_of_lt hlt)
    have nC : H c' = none := I.hok.fresh hge
    have nN : ¬ N c' := fun z => by
      obtain ⟨u, e⟩ := hN _ z
      rw [nC] at e
      cases e
    have I1 := LamX.inv_table (t' := tk) (more := #[rawInt pos.line, rawInt pos.col, .ref c']) (h' := h'.push (lamO X params body scope ((X.mg "__name__").getD .none) c' ctv)) I hP
      (fun b o hb e => Heap.get?_push_of_some _ (hx b o hb e)) (Heap.get?_push_of_some _ htb) hge ⟨oc, vs, t, Heap.get?_push_of_some _ hoc, hd, hv⟩
    have same : ∀ b u, b ≠ P → H b = some u → upd (upd H P (.tbl (ps ++ #[rawInt pos.line, rawInt pos.col, .ref c']))) c' (LamX.CodeO c' (X.env.qual ++ "<lambda>")) b = some u := fun b u hb e => by
      rw [upd_ne (ne_of_none e nC), upd_ne hb]
      exact e
    have eL : (ps ++ #[rawInt pos.line, rawInt pos.col, .ref c']).toList = ps.toList ++ [rawInt pos.line, rawInt pos.col, .ref c'] := by simp
    refine h h'.objs.size c' ((X.mg "__name__").getD .none) ctv _ _ I1 same ⟨_, by rw [upd_ne (ne_of_none hP nC), upd_same], by rw [eL]; exact PySem.TriplesOk_snoc _ _ _ _ ht, fun p' cv hcv => ?_⟩ (Heap.get?_push_size _ rfl) ?_ (nofr _ hsz) nN upd_same
    · rw [eL] at hcv
      rcases LamX.among_app _ ht hcv with z | z
      · obtain ⟨c0, e1, n0, e2⟩ := ha p' cv z
        exact ⟨c0, e1, n0, same _ _ (fun y => by rw [y, hP] at e2; exact LamX.codeO_ne ps (Option.some.inj e2).symm) e2⟩
      · exact ⟨c', z, nN, upd_same⟩
    · have n1 : h'.objs.size ≠ c' := Nat.ne_of_gt hlt
      have n2 : h'.objs.size ≠ P := Nat.ne_of_gt (Nat.lt_of_lt_of_le (Heap.lt_size hP') hsz)
      rw [upd_ne n1, upd_ne n2]
      exact I.hok.fresh hsz
  | some cv =>
    obtain ⟨c', e, n0, hco⟩ := ha pos cv hc
    subst e
    refine PySem.W.kla_makeFunctionHit (mg := X.mg) (c := c) (P := P) (ps := ps) (closure_ok hfree) I.ok.glob (I.mod.glob.keeps I.bk) hcode (TB.code.keeps I.bk) hP' ht hc bP fun ctv h' tk hx hsz => ?_
    have I1 : Inv X pins σ H { s with heap := h'.push (lamO X params body scope ((X.mg "__name__").getD .none) c' ctv), toks := tk } := I.kept fun b o e => Heap.get?_push_of_some _ (hx b o e)
    exact h h'.objs.size c' ((X.mg "__name__").getD .none) ctv H _ I1 (fun b u _ e => e) ⟨ps, hP, ht, ha⟩ (Heap.get?_push_size _ rfl) (I.hok.fresh hsz) (nofr _ hsz) n0 hco
end
section
variable {K : PySem.W.Frag} {mg : Str → Option Value} {F : Addr → Prop} {σ : L2.St} {env : EnvQ} {H H' : Hp} {S : Sto} {μ μ' : List Addr}
theorem Sim.tab (h : Sim K mg F σ H env S μ) {j : Nat} {x z : String} (e : S[j]? = some (.tab x z)) : μ[j]? = some (tabA K x) ∧ TabN H (NN F μ σ env) (tabA K x) (lamQ z) := by
  obtain ⟨a, ha, r⟩ := h.st.obj j _ e
  cases r with
  | tab h0 t =>
    subst h0
    exact ⟨ha, t⟩
theorem RdT.but (g : LamX.ExtN H H') {N : Addr → Prop} {a : Addr} {xs : List V} (h : RdT K H N a xs) : RdT K H' N a xs := by
  rcases h with ⟨n, h | ⟨o, h⟩⟩ | h
  · exact .inl ⟨n, .inl (g _ _ h fun _ z => by cases z)⟩
  · exact .inl ⟨n, .inr ⟨o, g _ _ h fun _ z => by cases z⟩⟩
  · exact .inr h
mutual
theorem Dn.but (g : LamX.ExtN H H') {N : Addr → Prop} : ∀ {v : V} {d : D}, Dn K H N v d → Dn K H' N v d
  | _, _, .non => .non
  | _, _, .bl b => .bl b
  | _, _, .int i => .int i
  | _, _, .str x => .str x
  | _, _, .lst h t => .lst ⟨h.1, g _ _ h.2 fun _ z => by cases z⟩ (DnAll.but g t)
  | _, _, .tup h t => .tup (h.but g) (DnAll.but g t)
  | _, _, .dic n h f => .dic n (g _ _ h fun _ z => by cases z) f
theorem DnAll.but (g : LamX.ExtN H H') {N : Addr → Prop} : ∀ {vs : List V} {ds : List D}, DnAll K H N vs ds → DnAll K H' N vs ds
  | _, _, .nil => .nil
  | _, _, .cons h t => .cons (Dn.but g h) (DnAll.but g t)
end
theorem KvN.but (g : LamX.ExtN H H') {N : Addr → Prop} : ∀ {xs : List (NK × Addr × Value)} {ds : List (NK × D)}, KvN K H N xs ds → KvN K H' N xs ds
  | _, _, .nil => .nil
  | _, _, .cons h r v t => .cons (Dn.but g h) r (Dn.but g v) (KvN.but g t)
theorem KvR.but (g : LamX.ExtN H H') {N : Addr → Prop} : ∀ {vs : List (Key × V)} {ds : List (Key × D)}, KvR K H N vs ds → KvR K H' N vs ds
  | _, _, .nil => .nil
  | _, _, .cons i h t => .cons i (Dn.but g h) (KvR.but g t)
mutual
theorem RW.but (g : LamX.ExtN H H') {N : Addr → Prop} : ∀ {v : V} {w : W}, RW K mg H N μ v w → RW K mg H' N μ v w
  | _, _, .d t => .d (t.but g)
  | _, _, .ref h => .ref h
  | _, _, .own h t => .own (g _ _ h fun _ z => by cases z) (t.but g)
  | _, _, .ownd h t => .ownd (g _ _ h fun _ z => by cases z) (t.but g)
  | _, _, .dn n h t => .dn n (g _ _ h fun _ z => by cases z) (KvN.but g t)
  | _, _, .tw n h t => .tw n (g _ _ h fun _ z => by cases z) (RWs.but g t)
  | _, _, .fn h => .fn h
  | _, _, .clo n h t => .clo n (g _ _ h LamX.codeO_ne) (RWs.but g t)
  | _, _, .err => .err
  | _, _, .scr h => .scr (by
      rcases h with ⟨n, h | ⟨o, h⟩⟩ | h
      · exact .inl ⟨n, .inl (g _ _ h fun _ z => by cases z)⟩
      · exact .inl ⟨n, .inr ⟨o, g _ _ h fun _ z => by cases z⟩⟩
      · exact .inr h)
theorem RWs.but (g : LamX.ExtN H H') {N : Addr → Prop} : ∀ {vs : List V} {ws : List W}, RWs K mg H N μ vs ws → RWs K mg H' N μ vs ws
  | _, _, .nil => .nil
  | _, _, .cons h t => .cons (RW.but g h) (RWs.but g t)
end
/-- a lambda is made: all but its table stays -/
theorem Sim.made (h : Sim K mg F σ H env S μ) {j : Nat} {x z : String} (e : S[j]? = some (.tab x z)) (same : ∀ b u, b ≠ tabA K x → H b = some u → H' b = some u) (t : TabN H' (NN F μ σ env) (tabA K x) (lamQ z)) :
    Sim K mg F σ H' env S μ ∧ Ext σ env H μ H' μ := by
  obtain ⟨hj, t0⟩ := h.tab e
  have g : LamX.ExtN H H' := fun b o q n => same b o (fun y => by
    obtain ⟨ps, hp, _⟩ := t0
    rw [y, hp] at q
    exact n ps (Option.some.inj q).symm) q
  have tr : ∀ b u, H b = some u → ∃ u', H' b = some u' := fun b u q => by
    by_cases y : b = tabA K x
    · obtain ⟨ps, hp, _⟩ := t
      exact ⟨_, y ▸ hp⟩
    · exact ⟨u, same b u y q⟩
  refine ⟨⟨h.len, fun i w q => ?_, h.fin, h.inj, h.apart, ⟨h.st.len, h.st.nd, fun n o q => ?_⟩, fun a f => ?_, h.fdis⟩, ⟨fun a o n q => ⟨same a o (fun y => n (.inl (y ▸ List.mem_of_getElem? hj))) q, n⟩, List.prefix_refl _⟩⟩
  · obtain ⟨v, hv, r⟩ := h.slot i w q
    exact ⟨v, hv, r.but g⟩
  · obtain ⟨a, ha, r⟩ := h.st.obj n o q
    refine ⟨a, ha, ?_⟩
    cases r with
    | lst h1 t1 => exact .lst (g _ _ h1 fun _ z => by cases z) (t1.but g)
    | ins g1 h1 m t1 p => exact .ins g1 (g _ _ h1 fun _ z => by cases z) m (RWs.but g t1) p
    | dct h1 t1 => exact .dct (g _ _ h1 fun _ z => by cases z) fun y hy => (t1 y hy).but g
    | dcm h1 t1 => exact .dcm (g _ _ h1 fun _ z => by cases z) (t1.but g)
    | tab h0 t1 =>
      rename_i x1 z1
      by_cases y : n = j
      · subst y
        rw [q] at e
        cases e
        exact .tab h0 (h0 ▸ t)
      · have ne : a ≠ tabA K x := fun z => y (by
          have hn := (List.getElem?_eq_some_iff.mp ha).1
          have hn2 := (List.getElem?_eq_some_iff.mp hj).1
          have e1 := (List.getElem?_eq_some_iff.mp ha).2
          have e2 := (List.getElem?_eq_some_iff.mp hj).2
          exact (List.getElem_inj h.st.nd).mp (e1.trans (z.trans e2.symm)))
        refine .tab h0 ?_
        obtain ⟨ps, h1, h2, h3⟩ := t1
        refine ⟨ps, same _ _ ne h1, h2, fun pos cv hc => ?_⟩
        obtain ⟨c, e1, n1, e2⟩ := h3 pos cv hc
        exact ⟨c, e1, n1, g _ _ e2 LamX.codeO_ne⟩
  · obtain ⟨u, hu⟩ := h.ftr a f
    exact tr a u hu
end
end Q

namespace Q
open PySem PySem.Spec PyProof.Rows L2
/-- what the lambda's text must be -/
structure KeyS (params : Arguments) (body : Expr) (scope : Scope) (x : Str) : Prop where
  kind : scope.kind = .function
  co : scope.isCoroutine = false
  gen : scope.isGenerator = false
  own : ∀ y ∈ scope.names, y.2 ≠ .cell ∧ y.2 ≠ .free
  loc : scope.names.lookup x = some .local
  len : scope.names.lookup ("len" : Str) = some NameKind.globalImplicit
  bind : ∀ (q : Str) (pm cv ctv v : Value), bindArgs (PySem.W.kla_fn "<lambda>" q params body scope [] pm cv ctv) ⟨[v], []⟩ = pure [(x, v)]
  dbg : (x == ("__debug__" : Str)) = false
section
variable {X : Cx} {pins : List (Addr × Obj)} {σ : L2.St} {H : Hp} {s : Shared} {A : Around} {params : Arguments} {scope : Scope} {x q : Str} {p1 p2 p3 p4 p5 : Pos} {c2 : Nat} {pm ctv : Value} {f c' t : Addr} {us : List Value}
theorem key_run {E : Value → Shared → Prop} {env : Env} {mb m : Str → Option Value} (hk : env.scope.kind = .function) (h1 : env.kindOf x = some .local) (h2 : env.kindOf ("len" : Str) = some .globalImplicit) (hd : (x == ("__debug__" : Str)) = false)
    {s : Shared} {mg : Str → Option Value} (hg : s.heap.Ns env.globals mg) (hm : mg ("len" : Str) = none) (hb : s.heap.Ns env.builtins mb) (hv : mb ("len" : Str) = some (.builtin "len")) (hn : s.heap.Ns env.locals m) (hx : m x = some (.ref t)) (ht : IsTup s.heap t us.toArray) (hz : us.length ≤ sizeLine)
    {prog : Program} {w : World} {Q : Value → Shared → Prop}
    (h : Q (.ref s.heap.objs.size) { s with heap := s.heap.push { cls := .type "tuple", data := .seq #[.int us.length (s.toks + 1), .ref t] }, toks := s.toks + 1 + 1 }) :
    wpAny (model prog w) A (eval (.Tuple [.Call (.Name "len" p1) [.Name x p2] [] p3, .Name x p4] c2 p5) env) Q E s := by
  have hsz : sizeLine = 16777216 := sizeLine_eq
  refine wpAny_Tuple_spliced (args_cons ?_)
  refine Call_ (Calls.Name_function_global hk h2 (Calls.loadGlobal_builtin hg hm hb hv ?_))
  refine callWith_builtin1 (args_cons (wpAny_Name (wpAny_loadName_local hk h1 hn hx (args_nil ?_)) hd))
  refine len_tuple ht (by simp only [List.size_toArray]; omega) ?_
  refine args_cons (wpAny_Name (wpAny_loadName_local hk h1 hn hx (args_nil ?_)) hd)
  refine ⟨by simp [hsz], ?_⟩
  simpa using h
theorem lot_turn {h : Heap} {tk : Nat} (I : Inv X pins σ H s) (L : KeyS params (.Tuple [.Call (.Name "len" p1) [.Name x p2] [] p3, .Name x p4] c2 p5) scope x) (hm : X.mg ("len" : Str) = none)
    (hf : s.heap.get? f = some (PySem.W.kla_obj "<lambda>" q params (.Tuple [.Call (.Name "len" p1) [.Name x p2] [] p3, .Name x p4] c2 p5) scope [] pm c' ctv)) (hco : H c' = some (LamX.CodeO c' q)) (ht : IsTup s.heap t us.toArray) (hz : us.length ≤ sizeLine) (hA : A.depth < recursionLimit)
    (kp : ∀ b o, s.heap.get? b = some o → h.get? b = some o) :
    wpAny (model X.prog X.w) A (call (.ref f) [.ref t]) (fun u s' => ∃ h' tk' p c t1, s' = { s with heap := h', toks := tk' } ∧ (∀ b o, h.get? b = some o → h'.get? b = some o) ∧ u = .ref p ∧ h'.get? p = some { cls := .type "tuple", data := .seq #[.int us.length t1, .ref t] c }) (fun _ _ => False) { s with heap := h, toks := tk } := by
  obtain ⟨⟨oc, vs, tq, hoc, hdc, hvc⟩, _, _⟩ := I.hok c' _ hco
  obtain ⟨mb, b1, b2⟩ := I.mod.blt
  apply wpAny_call
  refine PySem.W.kla_callFunE (s := { s with heap := h, toks := tk }) hA (kp _ _ hf) rfl L.co L.gen rfl ⟨c', oc, vs, tq, rfl, kp _ _ hoc, hdc, hvc⟩ ?_
  rw [L.bind]
  refine wpAny_pure (wpAny_newFunctionEnv (fun y hy => (L.own y hy).1) (fun y hy => ?_) (fun h₁ hns hsb => ?_) L.kind)
  · rw [List.mem_singleton] at hy
    subst hy
    exact L.loc
  · have kp1 : ∀ b o, h.get? b = some o → h₁.get? b = some o := fun b o e => hsb.extBut b o (Nat.ne_of_lt (Heap.lt_size e)) (Heap.get?_push_of_some _ e)
    have kp2 : ∀ b o, s.heap.get? b = some o → h₁.get? b = some o := fun b o e => kp1 b o (kp b o e)
    have base2 : ∀ b o, X.base.get? b = some o → h₁.get? b = some o := fun b o e => kp2 b o (I.bk b o e)
    refine ⟨I.nolimit.keeps kp2, PySem.W.kla_codeExpr ?_⟩
    refine key_run (m := fun y => ([(x, Value.ref t)] : List (Str × Value)).reverse.lookup y) (mg := X.mg) (mb := mb) ?_ ?_ ?_ L.dbg ?_ hm ?_ ((b2 _ (by decide)).trans rfl) ?_ (by simp) (ht.keeps kp2) hz ?_
    · exact L.kind
    · exact L.loc
    · exact L.len
    · exact I.mod.glob.keeps base2
    · exact b1.keeps base2
    · exact hns
    · exact ⟨_, _, _, _, _, rfl, fun b o e => Heap.get?_push_of_some _ (kp1 b o e), rfl, Heap.get?_push_size _ rfl⟩
end
end Q

namespace Q
open PySem PySem.Spec PyProof.Rows L2
abbrev lotI (l : List Int) : D := .tuple (l.map .int)
/-- shorter ones first, those alike long rising -/
def lotLe (a b : List Int) : Bool := decide (a.length < b.length) || (decide (a.length = b.length) && !decide (b < a))
def insL (x : List Int) : List (List Int) → List (List Int)
  | [] => [x]
  | y :: r => if lotLe x y then x :: y :: r else y :: insL x r
def sortLots : List (List Int) → List (List Int)
  | [] => []
  | x :: r => insL x (sortLots r)
theorem lotLe_total (a b : List Int) : (lotLe a b || lotLe b a) = true := by
  unfold lotLe
  rcases Nat.lt_trichotomy a.length b.length with h | h | h
  · simp [h]
  · simp only [h, Nat.lt_irrefl, decide_false, decide_true, Bool.false_or, Bool.true_and, Bool.or_eq_true, Bool.not_eq_true', decide_eq_false_iff_not, Nat.lt_irrefl]
    rcases List.le_total a b with q | q
    · exact .inl q
    · exact .inr q
  · simp [h]
theorem lotLe_trans (a b c : List Int) (h1 : lotLe a b = true) (h2 : lotLe b c = true) : lotLe a c = true := by
  unfold lotLe at *
  simp only [Bool.or_eq_true, Bool.and_eq_true, decide_eq_true_eq, Bool.not_eq_true', decide_eq_false_iff_not] at *
  rcases h1 with h1 | ⟨h1, q1⟩ <;> rcases h2 with h2 | ⟨h2, q2⟩
  · exact .inl (by omega)
  · exact .inl (by omega)
  · exact .inl (by omega)
  · exact .inr ⟨by omega, List.le_trans (l₁ := a) (l₂ := b) (l₃ := c) q1 q2⟩
theorem lotLe_anti (a b : List Int) (h1 : lotLe a b = true) (h2 : lotLe b a = true) : a = b := by
  unfold lotLe at *
  simp only [Bool.or_eq_true, Bool.and_eq_true, decide_eq_true_eq, Bool.not_eq_true', decide_eq_false_iff_not] at *
  rcases h1 with h1 | ⟨h1, q1⟩ <;> rcases h2 with h2 | ⟨h2, q2⟩
  · omega
  · omega
  · omega
  · exact List.le_antisymm (as := a) (bs := b) q1 q2
theorem insL_perm (x : List Int) : ∀ r : List (List Int), (insL x r).Perm (x :: r)
  | [] => .refl _
  | y :: r => by
    unfold insL
    split
    · exact .refl _
    · exact ((insL_perm x r).cons y).trans (.swap x y r)
theorem sortLots_perm : ∀ l : List (List Int), (sortLots l).Perm l
  | [] => .refl _
  | x :: r => (insL_perm x _).trans ((sortLots_perm r).cons x)
theorem insL_pw (x : List Int) : ∀ r : List (List Int), r.Pairwise (fun a b => lotLe a b = true) → (insL x r).Pairwise fun a b => lotLe a b = true
  | [], _ => List.pairwise_singleton _ _
  | y :: r, h => by
    obtain ⟨h1, h2⟩ := List.pairwise_cons.mp h
    unfold insL
    split
    · rename_i q
      exact List.pairwise_cons.mpr ⟨fun z hz => (List.mem_cons.mp hz).elim (fun e => e ▸ q) fun m => lotLe_trans _ _ _ q (h1 z m), h⟩
    · rename_i q
      have t := lotLe_total x y
      have q' : lotLe y x = true := by
        cases hq : lotLe x y with
        | true => exact absurd hq q
        | false => rw [hq] at t; simpa using t
      refine List.pairwise_cons.mpr ⟨fun z hz => ?_, insL_pw x r h2⟩
      rcases List.mem_cons.mp ((insL_perm x r).mem_iff.mp hz) with e | m
      · exact e ▸ q'
      · exact h1 z m
theorem sortLots_pw : ∀ l : List (List Int), (sortLots l).Pairwise fun a b => lotLe a b = true
  | [] => .nil
  | x :: r => insL_pw x _ (sortLots_pw r)
theorem sortLots_eq (l : List (List Int)) : l.mergeSort lotLe = sortLots l :=
  List.Perm.eq_of_pairwise (fun a b _ _ h h' => lotLe_anti a b h h') (List.pairwise_mergeSort lotLe_trans lotLe_total l) (sortLots_pw l) ((List.mergeSort_perm l lotLe).trans (sortLots_perm l).symm)
def keyI (l : List Int) : D := .tuple [.int (l.length : Nat), lotI l]
theorem alike_key (a b : List Int) : PySem.W.alike (keyI a) (keyI b) = true := by
  unfold keyI
  simp [PySem.W.alike, PySem.W.alikeAll, PySem.W.alike_ints]
theorem eqv_lotI : ∀ a b : List Int, PyData.eqvAll (a.map .int) (b.map .int) = decide (a = b)
  | [], [] => rfl
  | [], _ :: _ => rfl
  | _ :: _, [] => rfl
  | x :: a, y :: b => by
    show (PyData.eqv (.int x) (.int y) && PyData.eqvAll (a.map .int) (b.map .int)) = _
    rw [eqv_lotI a b]
    by_cases h : x = y <;> by_cases h2 : a = b <;> simp [PyData.eqv, h, h2]
theorem lt_key (a b : List Int) : PySem.W.dataLt (keyI a) (keyI b) = (decide (a.length < b.length) || (decide (a.length = b.length) && decide (a < b))) := by
  have ha : PySem.W.alike (lotI a) (lotI b) = true := by simp [PySem.W.alike, PySem.W.alike_ints]
  unfold keyI
  rw [PySem.W.dataLt_pair (by simp [PySem.W.alike]) ha, PySem.W.dataLt_int, PySem.W.dataLt_tuple]
  have e1 : PyData.eqv (lotI a) (lotI b) = decide (a = b) := by
    show PyData.eqvAll _ _ = _
    exact eqv_lotI a b
  have e2 : PyProof.Rows.lexLt PyProof.Rows.itemOrd (PySem.W.keyToksAll (a.map .int)) (PySem.W.keyToksAll (b.map .int)) = decide (a < b) := PySem.W.dataLt_ints a b
  rw [e1, e2]
  simp only [PyData.eqv, beq_iff_eq]
  by_cases h : a.length = b.length
  · by_cases h2 : a = b
    · subst h2
      simp [List.lt_irrefl]
    · simp [h, h2]
  · have h3 : ¬ ((a.length : Int) = (b.length : Int)) := by omega
    rw [if_neg h3]
    simp [h]
theorem le_key (k : α → List Int) : PySem.W.dataLe false (fun b => keyI (k b)) = fun p q => lotLe (k p) (k q) := by
  funext p q
  show (!PySem.W.dataLt (keyI (k q)) (keyI (k p))) = _
  rw [lt_key]
  unfold lotLe
  rcases Nat.lt_trichotomy (k p).length (k q).length with h | h | h
  · have h1 : ¬ (k q).length < (k p).length := by omega
    have h2 : ¬ (k q).length = (k p).length := by omega
    simp [h, h1, h2]
  · have h1 : ¬ (k q).length < (k p).length := by omega
    have h2 : ¬ (k p).length < (k q).length := by omega
    simp [h, Nat.lt_irrefl]
  · have h1 : ¬ (k p).length < (k q).length := by omega
    have h2 : ¬ (k p).length = (k q).length := by omega
    simp [h, h1, h2]
def lotsOf : List D → Option (List (List Int))
  | [] => some []
  | .tuple ds :: r => match intsOf ds, lotsOf r with
    | some is, some ls => some (is :: ls)
    | _, _ => none
  | _ :: _ => none
def tabAt (S : Sto) (j : Nat) (x z : String) : Bool := match S[j]? with
  | some (.tab x' z') => decide (x' = x) && decide (z' = z)
  | _ => false
theorem tabAt_ok {S : Sto} {j : Nat} {x z : String} (h : tabAt S j x z = true) : S[j]? = some (.tab x z) := by
  unfold tabAt at h
  split at h
  · rename_i x' z' e
    simp only [Bool.and_eq_true, decide_eq_true_eq] at h
    rw [e, h.1, h.2]
  · cases h
def fSortLot (j : Nat) (x z : String) (fe : SE) : SE := fun cf env S => (fe cf env S).bind fun w S1 => match w with
  | .d (.list ds) => (match lotsOf ds with
    | some ls => if tabAt S1 j x z = true then .ok (.d (.list ((sortLots ls).map lotI))) S1 else .stuck
    | none => .stuck)
  | _ => .stuck
section
variable {K : PySem.W.Frag} {mg : Str → Option Value} {H : Hp} {N : Addr → Prop}
theorem ints_of : ∀ {us : List D} {is : List Int}, intsOf us = some is → us = is.map .int
  | [], is, e => by
    simp only [intsOf, Option.some.injEq] at e
    subst e
    rfl
  | d :: us, is, e => by
    cases d with
    | int b =>
      simp only [intsOf] at e
      cases q : intsOf us with
      | none => rw [q] at e; cases e
      | some r =>
        rw [q] at e
        simp only [Option.map_some, Option.some.injEq] at e
        subst e
        rw [ints_of q]
        rfl
    | _ => cases e
/-- a tuple of whole numbers, as data -/
theorem lots_dn : ∀ {vs : List V} {ds : List D} {ls : List (List Int)}, DnAll K H N vs ds → lotsOf ds = some ls → ds = ls.map lotI ∧ ∀ p ∈ vs.zip ls, Dn K H N p.1 (lotI p.2) ∧ ∃ t, p.1 = .ref t ∧ SqT K H t (p.2.map V.int)
  | _, _, ls, .nil, e => by
    simp only [lotsOf, Option.some.injEq] at e
    subst e
    exact ⟨rfl, fun p hp => by simp at hp⟩
  | _, d :: ds, ls, .cons (v := v) (vs := vs) h t, e => by
    cases d with
    | tuple us =>
      simp only [lotsOf] at e
      cases e1 : intsOf us with
      | none => rw [e1] at e; cases e
      | some is =>
        cases e2 : lotsOf ds with
        | none => rw [e1, e2] at e; cases e
        | some r =>
          rw [e1, e2] at e
          simp only [Option.some.injEq] at e
          subst e
          obtain ⟨q1, q2⟩ := lots_dn t e2
          have hu := ints_of e1
          subst hu
          refine ⟨by rw [q1]; rfl, fun p hp => ?_⟩
          rw [List.zip_cons_cons] at hp
          rcases List.mem_cons.mp hp with rfl | hp
          · refine ⟨h, ?_⟩
            cases h with
            | tup h1 t1 =>
              have z := ints_dn t1 e1
              subst z
              exact ⟨_, rfl, h1.sq⟩
          · exact q2 p hp
    | _ => cases e
end
section
variable {X : Cx} {cf : CF} {EX : WX} {e : Expr} {fe : SE} {j c2 : Nat} {x z : String} {xn : Str} {params : Arguments} {scope : Scope} {p lp kp pos p1 p2 p3 p4 p5 : Pos} {c : Addr}
theorem vals_fst : ∀ {out : List Value} {bs : List (V × List Int)} {R : Value → V × List Int → Prop}, (∀ u b, R u b → RelV b.1 u) → PySem.W.EachIs R out bs → Vals (bs.map (·.1)) out
  | _, _, _, _, .nil => .nil
  | _, _, _, g, .cons h t => .cons (g _ _ h) (vals_fst g t)
theorem dn_fst {K : PySem.W.Frag} {H : Hp} {N : Addr → Prop} : ∀ {bs : List (V × List Int)}, (∀ b ∈ bs, Dn K H N b.1 (lotI b.2)) → DnAll K H N (bs.map (·.1)) ((bs.map (·.2)).map lotI)
  | [], _ => .nil
  | b :: bs, h => .cons (h b (by simp)) (dn_fst fun y hy => h y (by simp [hy]))
theorem each_zip {vs : List V} {us : List Value} {ls : List (List Int)} {G : Value → V × List Int → Prop} (r : Vals vs us) (hl : vs.length = ls.length) (h : ∀ u b, RelV b.1 u → b ∈ vs.zip ls → G u b) : PySem.W.EachIs G us (vs.zip ls) := by
  induction r generalizing ls with
  | nil => exact .nil
  | @cons v u vs us hr _ ih =>
    cases ls with
    | nil => simp at hl
    | cons l ls =>
      rw [List.zip_cons_cons] at h ⊢
      exact .cons (h _ _ hr (by simp)) (ih (by simpa using hl) fun u b q m => h u b q (by simp [m]))
theorem reads_ints {h : Heap} : ∀ {us : List Value} {l : List Int}, IntsAre us l → ReadsAll h us (l.map PyData.int) []
  | _, _, .nil => .nil
  | _, _, .cons n t r => ReadsAll.cons (as := []) (bs := []) (.int n t) (reads_ints r)
theorem key_turn {σ : L2.St} {H : Hp} {s : Shared} {A : Around} {pins : List (Addr × Obj)} {q : Str} {pm ctv : Value} {f c' t : Addr} {us : List Value} {l : List Int} {h : Heap} {tk : Nat} (I : Inv X pins σ H s) (L : KeyS params (.Tuple [.Call (.Name "len" p1) [.Name xn p2] [] p3, .Name xn p4] c2 p5) scope xn) (hm : X.mg ("len" : Str) = none)
    (hf : s.heap.get? f = some (PySem.W.kla_obj "<lambda>" q params (.Tuple [.Call (.Name "len" p1) [.Name xn p2] [] p3, .Name xn p4] c2 p5) scope [] pm c' ctv)) (hco : H c' = some (LamX.CodeO c' q)) (ht : IsTup s.heap t us.toArray) (hz : us.length ≤ sizeLine) (hi : IntsAre us l) (hA : A.depth < recursionLimit)
    (kp : ∀ b o, s.heap.get? b = some o → h.get? b = some o) :
    wpAny (model X.prog X.w) A (call (.ref f) [.ref t]) (PySem.W.KeyPure (keyI l) { s with heap := h, toks := tk }) (fun _ _ => False) { s with heap := h, toks := tk } := by
  refine wpAny_mono (lot_turn (A := A) I L hm hf hco ht hz hA kp) ?_ fun _ _ hF => hF
  rintro v s' ⟨h', tk', pp, cc, t1, e1, kk, e2, hpp⟩
  subst e1
  subst e2
  refine ⟨h', tk', rfl, kk, ?_⟩
  obtain ⟨o, ho, oc, n, od⟩ := (ht.keeps kp).keeps kk
  have hl : us.length = l.length := hi.length
  rw [hl] at hpp
  refine .tuple hpp rfl rfl ?_
  exact ReadsAll.cons (as := []) (bs := []) (.int _ _) (ReadsAll.cons (as := []) (bs := []) (.tuple ho oc od (reads_ints hi)) .nil)
theorem me_sortLot (TB : LamX.TabB X.base X.mg c (tabA X.K x)) (hcode : X.env.code = .ref c) (hq : lamQ z = X.env.qual ++ "<lambda>") (L : KeyS params (.Tuple [.Call (.Name "len" p1) [.Name xn p2] [] p3, .Name xn p4] c2 p5) scope xn) (hdef : defaultsOf params X.env = ([], [])) (hcl : cloFrom X.env.cells scope.names [] = [])
    (hg : Gl X "sorted") (hm : X.mg "sorted" = none) (hml : X.mg ("len" : Str) = none) {k0 : Nat} (hr : Room k0 X.A) (h : ME X cf EX e fe) (he : starEach [e] X.env = (false, eval e X.env) :: starEach [] X.env := by rfl) :
    ME X cf EX (.Call (.Name "sorted" p) [e] [⟨some "key", .Lambda params (.Tuple [.Call (.Name "len" p1) [.Name xn p2] [] p3, .Name xn p4] c2 p5) scope lp, kp⟩] pos) (fSortLot j x z fe) := by
  refine ⟨fun pins s σ H Q I hq0 => ?_⟩
  obtain ⟨env, S, μ, F, sim, post⟩ := hq0
  refine wpAny_Call_Name_kw (ld_blt I hg hm (by rfl) ?_)
  have he1 : backTo pos (starEach [e] X.env) = (false, eval e X.env) :: backTo pos (starEach [] X.env) := by
    rw [he]
    rfl
  have he2 : (backTo pos (starEach [e] X.env)).any (·.1) = false := by
    rw [he1]
    rfl
  refine PyProof.Rows.callWith_kw (kws := [⟨some "key", .Lambda params (.Tuple [.Call (.Name "len" p1) [.Name xn p2] [] p3, .Name xn p4] c2 p5) scope lp, kp⟩]) (e := e) (rest := []) (args_cons (thn (h.run pins s σ H (fun v H1 => ∃ w S1 μ1, Sim X.K X.mg F σ H1 env S1 μ1 ∧ RW X.K X.mg H1 (NN F μ1 σ env) μ1 v w ∧ Post X.K X.mg EX F σ env H1 μ1 (match w with
    | .d (.list ds) => (match lotsOf ds with
      | some ls => if tabAt S1 j x z = true then .ok (.d (.list ((sortLots ls).map lotI))) S1 else .stuck
      | none => .stuck)
    | _ => .stuck) fun w _ H' μ' => ∀ v, RW X.K X.mg H' (NN F μ' σ env) μ' v w → Q v H') I ⟨env, S, μ, F, sim, (Post.bind post).mono fun w S1 H1 μ1 s1 x1 q1 v rv => ⟨w, S1, μ1, s1, rv, q1⟩⟩) fun u s1 hu => ?_) he) he1 he2 rfl rfl
  obtain ⟨v, H1, I1, rv, w, S1, μ1, sim1, rw1, q1⟩ := hu
  refine args_nil ?_
  split at q1
  · rename_i ds
    split at q1
    · rename_i ls e1
      split at q1
      · rename_i ht
        obtain ⟨a, vs, rfl, na, ha, dn⟩ := rw_lst rw1
        obtain rfl : u = Value.ref a := rv
        have hS := tabAt_ok ht
        obtain ⟨hj, tn⟩ := sim1.tab hS
        have hfree : ∀ y ∈ scope.names, y.2 = .free → ∃ c, X.env.cells.lookup y.1 = some c := fun y hy e => absurd e (L.own y hy).2
        show wpAny _ _ (evalAll [(do let v ← eval (.Lambda params (.Tuple [.Call (.Name "len" p1) [.Name xn p2] [] p3, .Name xn p4] c2 p5) scope lp) X.env; standAt pos; pure v)]) _ _ _
        refine wpAny_evalAll_cons (wpAny_bind (lam_make3 I1 TB hcode hq tn (fun b hb => sim1.tracked hb) hdef hfree fun f c' pm ctv H2 s2 I2 same tn2 hf hfn hfr nc hco => ?_))
        refine wpAny_bind (wpAny_standAt (wpAny_pure ?_))
        refine wpAny_evalAll_nil ?_
        obtain ⟨sim2, x2⟩ := sim1.made hS same tn2
        have q2 := q1.ext x2
        have k2 := x2.nn F
        have dn2 := dn.keep k2
        have ha2 : H2 a = some (.lst vs) := (k2 a _ na ha).1
        obtain ⟨hds, hls⟩ := lots_dn dn2 e1
        have hll : vs.length = ls.length := by
          have := dn2.length
          rw [this, hds, List.length_map]
        obtain ⟨hz, its, n, rvs, hob⟩ := I2.hok a _ ha2
        rw [lamO, hcl] at hf
        rw [hq] at hco
        have hsz : sizeLine = 16777216 := sizeLine_eq
        show wpAny _ _ (call (.builtin "sorted") [.ref a] [("key", .ref f)]) _ _ _
        refine PySem.W.sorted_key_data (b := false) (vs := its) (bs := vs.zip ls) (R := fun u b => RelV b.1 u ∧ (∃ t us, u = .ref t ∧ IsTup s2.heap t us.toArray ∧ us.length ≤ sizeLine ∧ IntsAre us b.2)) (fun b => keyI b.2)
          ⟨_, hob, rfl, _, rfl⟩ (each_zip rvs hll fun u b r m => ?_) (PySem.W.AllAlike.of fun b b' => alike_key _ _) (PySem.W.Sortable.tuples fun b => ⟨_, _, rfl⟩) (by rw [List.length_zip]; omega) (fun b _ => ?_) (PyProof.Rows.ksk_s1 _ _) (fun _ => PyProof.Rows.ksk_l1 _ _) (fun _ => PyProof.Rows.ksk_t1 _ _) (fun u b hR _ h3 tk kp => ?_) fun out cc h3 tk kp fresh hD hlen eo => ?_
        · refine ⟨r, ?_⟩
          obtain ⟨_, t, et, ht⟩ := hls b m
          rw [et] at r
          obtain rfl : u = Value.ref t := r
          obtain ⟨us, r', pl, hz'⟩ := I2.tuple ht
          have hln := r'.length
          rw [List.length_map] at hln hz'
          exact ⟨t, us, rfl, pl, by omega, r'.ints⟩
        · have := hr.un
          have e2 : (keyI b.2).depth = 2 := by
            have : ∀ l : List Int, PyData.depthAll (l.map .int) = 0 := PySem.W.depth_ints
            simp [keyI, PyData.depth, PyData.depthAll, this]
          rw [e2]
          omega
        · obtain ⟨_, t, us, rfl, htt, hus, hi⟩ := hR
          have hdp : X.A.in1.in1.depth < recursionLimit := by
            have := hr.dp
            show X.A.depth < _
            omega
          exact key_turn I2 L hml hf hco htt hus hi hdp kp
        · rw [le_key (fun b : V × List Int => b.2)] at eo
          have em : ((vs.zip ls).mergeSort fun p q => lotLe p.2 q.2).map (·.2) = sortLots ls := by
            rw [List.map_mergeSort (s := lotLe) (fun a _ b _ => rfl), List.map_snd_zip (by omega), sortLots_eq]
          have hmem : ∀ b ∈ (vs.zip ls).mergeSort (fun p q => lotLe p.2 q.2), b ∈ vs.zip ls := fun b hb => (List.mergeSort_perm _ _).mem_iff.mp hb
          have dn3 := dn_fst fun b hb => (hls b (hmem b hb)).1
          rw [em] at dn3
          have rv3 := vals_fst (fun u b r => r.1) eo
          generalize ((vs.zip ls).mergeSort fun p q => lotLe p.2 q.2).map (·.1) = vs' at *
          have hD0 : H2 (s2.heap.objs.size + 1) = none := I2.hok.fresh (Nat.le_succ _)
          refine ⟨.ref (s2.heap.objs.size + 1), upd H2 (s2.heap.objs.size + 1) (.lst vs'), I2.laid (t' := tk) kp (Nat.le_succ _) ⟨?_, out, cc, rv3, hD⟩, rfl, post_lst sim2 dn3 q2 hD0⟩
          rw [rv3.length, hlen, List.length_zip]
          omega
      · exact q1.elim
    · exact q1.elim
  · exact q1.elim
end
end Q

namespace Q
open PySem PySem.Spec PyProof.Rows L2
section
variable {X : Cx} {cf : CF} {EX : WX} {k n : Nat} {p pos : Pos} {e : Expr} {es : List Expr} {ff : SE} {ha : SA} {t : TA} {tf : TE} {x : Str} {ys : List String}
/-- the call of what a name holds: one of these defs -/
def fCallV (ff : SE) (n : Nat) (ys : List String) (a : SA) : SE := fun cf env S => (ff cf env S).bind fun w S1 => match w with
  | .fn y => if y ∈ ys then (a cf env S1).bind fun ws S2 => arity n ws (cf y ws S2) else .stuck
  | _ => .stuck
@[simp] theorem x_callV {env : EnvQ} {S : Sto} (ff : SE) (n : Nat) (ys : List String) (a : SA) : fCallV ff n ys a cf env S = (ff cf env S).bind fun w S1 => match w with
  | .fn y => if y ∈ ys then (a cf env S1).bind fun ws S2 => arity n ws (cf y ws S2) else .stuck
  | _ => .stuck := rfl
end
end Q

namespace Q
open PySem PySem.Spec PyProof.Rows L2
def max2 (i j : Int) : Int := if i < j then j else i
def min2 (i j : Int) : Int := if j < i then j else i
def gMax3 : GN
  | [.d (.int i), .d (.int j), .d (.int l)], S => .ok (.d (.int (max2 (max2 i j) l))) S
  | _, _ => .stuck
def gMin3 : GN
  | [.d (.int i), .d (.int j), .d (.int l)], S => .ok (.d (.int (min2 (min2 i j) l))) S
  | _, _ => .stuck
section
variable {X : Cx} {cf : CF} {EX : WX} {e : Expr} {es : List Expr} {ha : SA} {p pos : Pos}
@[simp] theorem g_max3 (i j l : Int) (S : Sto) : gMax3 [.d (.int i), .d (.int j), .d (.int l)] S = .ok (.d (.int (max2 (max2 i j) l))) S := rfl
@[simp] theorem g_min3 (i j l : Int) (S : Sto) : gMin3 [.d (.int i), .d (.int j), .d (.int l)] S = .ok (.d (.int (min2 (min2 i j) l))) S := rfl
end
end Q

namespace Q
open PySem PySem.Spec PyProof.Rows L2
/-- what is handed in by names stands in the def's own order -/
def byIx {α : Type} (z : α) (idx : List Nat) (xs : List α) : List α := idx.map fun i => xs.getD i z
section
variable {X : Cx} {cf : CF} {k n : Nat} {f : Addr} {fd : FuncData} {ps ks : List Str} {idx : List Nat} {sp : Sp} {EX : WX} {x : Str} {p pos kpos : Pos} {kws : List Keyword} {t : TA} {e : Expr} {fa : SE} {ha : SA} {nm : Option Str}
theorem PK.weak {t' : TA} (h : PK X kws t) (w : ∀ σ H Q, t' σ H Q → t σ H Q) : PK X kws t' := ⟨fun pos pins s σ H Q I q => h.run pos pins s σ H Q I (w σ H Q q)⟩
def fCallK (x : String) (m : Nat) (idx : List Nat) (a : SA) : SE := fun cf env S => (a cf env S).bind fun ws S1 => if ws.length = m ∧ W.plains ws = true then cf x (byIx (.d .none) idx ws) S1 else .stuck
end
section
variable {P : Program} {w : World} {K : PySem.W.Frag} {mg : Str → Option Value} {base : Heap} {k : Nat} {T : Tab} {ks : List Str} {idx : List Nat} {x y z : String} {params : Arguments} {body : List Stmt} {scope : Scope} {N ps : List Str} {f : Addr} {fd : FuncData}
end
@[simp] theorem x_callK (x : String) (m : Nat) (idx : List Nat) (a : SA) (cf : CF) (env : EnvQ) (S : Sto) : fCallK x m idx a cf env S = (a cf env S).bind fun ws S1 => if ws.length = m ∧ W.plains ws = true then cf x (byIx (.d .none) idx ws) S1 else .stuck := rfl
end Q

namespace Q
open PySem PySem.Spec PyProof.Rows L2
def okShowX (d : D) : Bool := d.showable && decide (d.depth ≤ 60) && decide (d.shown.length ≤ LIM)
section
variable {X : Cx} {pins : List (Addr × Obj)} {σ : L2.St} {H : Hp} {s : Shared} {N : Addr → Prop} {cf : CF} {EX : WX} {e : Expr} {ha : SA} {p pos : Pos}
end
end Q

namespace Q
open PySem PySem.Spec PyProof.Rows L2
section
variable {X : Cx} {cf : CF} {EX : WX}
/-- == where one side is () or [] -/
def gEqZ : G2
  | .d (.tuple xs), .d (.tuple []), S => .ok (.d (.bool xs.isEmpty)) S
  | .d (.list xs), .d (.list []), S => .ok (.d (.bool xs.isEmpty)) S
  | x, y, S => gEq x y S
@[simp] theorem g_eqZT (xs : List D) (S : Sto) : gEqZ (.d (.tuple xs)) (.d (.tuple [])) S = .ok (.d (.bool xs.isEmpty)) S := rfl
@[simp] theorem g_eqZL (xs : List D) (S : Sto) : gEqZ (.d (.list xs)) (.d (.list [])) S = .ok (.d (.bool xs.isEmpty)) S := rfl
@[simp] theorem x_dic0 (cf : CF) (env : EnvQ) (S : Sto) : fDic0 cf env S = .ok (.d (.dict [])) S := rfl
end
end Q

namespace Q
open PySem PySem.Spec PyProof.Rows L2
section
variable {X : Cx} {cf : CF} {EX : WX}
variable {a b : Expr} {fa fb : SE} {pos : Pos}
end
end Q

namespace Q
open PySem PySem.Spec PyProof.Rows L2
section
variable {X : Cx} {cf : CF} {EX : WX}
variable {a b : Expr} {fa fb : SE} {pos : Pos}
end
end Q

namespace Q
open PySem PySem.Spec PyProof.Rows L2
section
variable {X : Cx} {cf : CF} {EX : WX}
end
end Q

namespace Q
open PySem PySem.Spec PyProof.Rows L2
section
variable {X : Cx} {cf : CF} {EX : WX}
end
end Q

namespace Q
open PySem PySem.Spec PyProof.Rows L2
section
variable {X : Cx} {cf : CF} {EX : WX} {a b c : Expr} {ha : SA} {p p2 pos q : Pos} {ta : TA}
def fLstRg3 (a : SA) : SE := fun cf env S => (a cf env S).bind fun ws S1 => match ws with
  | [.d (.int i), .d (.int j), .d (.int c)] => (match rng3 i j c with | some ds => if ds.length ≤ 16777216 then .ok (.d (.list ds)) S1 else .stuck | none => .stuck)
  | _ => .stuck
end
@[simp] theorem x_lstRg3 {cf : CF} {env : EnvQ} {S : Sto} (a : SA) : fLstRg3 a cf env S = (a cf env S).bind fun ws S1 => match ws with
  | [.d (.int i), .d (.int j), .d (.int c)] => (match rng3 i j c with | some ds => if ds.length ≤ 16777216 then .ok (.d (.list ds)) S1 else .stuck | none => .stuck)
  | _ => .stuck := rfl
end Q

namespace Q
open PySem PySem.Spec PyProof.Rows L2
def sAddO (i : Nat) (f : SE) : SS := fun cf env S => match env[i]? with
  | some (some (.own xs)) => (f cf env S).then env fun w S1 => (match w with
    | .d (.list ys) => if xs.length + ys.length ≤ LIM then .next (env.set i (some (.own (xs ++ ys)))) S1 else .stuck
    | _ => .stuck)
  | _ => .stuck
section
variable {X : Cx} {cf : CF} {EX : WX} {x : Str} {e : Expr} {fa : SE} {pos p1 pb pp : Pos}
end
@[simp] theorem y_addO {cf : CF} {env : EnvQ} {S : Sto} (i : Nat) (f : SE) : sAddO i f cf env S = (match env[i]? with
  | some (some (.own xs)) => (f cf env S).then env fun w S1 => (match w with
    | .d (.list ys) => if xs.length + ys.length ≤ LIM then .next (env.set i (some (.own (xs ++ ys)))) S1 else .stuck
    | _ => .stuck)
  | _ => .stuck) := rfl
end Q

namespace Q
open PySem PySem.Spec PyProof.Rows L2
section
variable {X : Cx} {cf : CF} {EX : WX} {e : Expr} {fa : SE} {p p2 q pos : Pos}
end
end Q

namespace Q
open PySem PySem.Spec PyProof.Rows L2
section
variable {X : Cx} {cf : CF} {EX : WX} {x : Str} {e e2 : Expr} {es : List Expr} {ha : SA} {p pos : Pos}
end
section
variable {cf : CF} {env : EnvQ} {S : Sto}
end
end Q

namespace Q
open PySem PySem.Spec PyProof.Rows L2
section
variable {K : PySem.W.Frag} {H : Hp} {N : Addr → Prop}
end
section
variable {X : Cx} {cf : CF} {EX : WX} {F : Addr → Prop} {σ : L2.St} {env : EnvQ} {S S' : Sto} {H H' : Hp} {μ μ' : List Addr} {K : PySem.W.Frag} {mg : Str → Option Value} {e c tg : Expr} {es : List Expr} {sts : List Stmt} {g : SS} {fa fb : SE} {pos p : Pos} {x : Str}
theorem KvF.length : ∀ {vs : List (Key × V)} {ds : List (D × D)}, KvF vs ds → vs.length = ds.length
  | _, _, .nil => rfl
  | _, _, .cons _ _ t => congrArg (· + 1) (KvF.length t)
end
end Q

namespace Q
open PySem PySem.Spec PyProof.Rows L2
section
variable {X : Cx} {cf : CF} {EX : WX} {F : Addr → Prop} {σ : L2.St} {env : EnvQ} {S S' : Sto} {H H' : Hp} {μ μ' : List Addr} {K : PySem.W.Frag} {mg : Str → Option Value} {e c tg : Expr} {es : List Expr} {fa fb : SE} {pos p : Pos} {x : Str}
end
end Q

namespace Q
open PySem PySem.Spec PyProof.Rows L2
section
variable {P : Program} {w : World} {A : Around} {E : Value → Shared → Prop} {s : Shared}
end
section
variable {X : Cx} {cf : CF} {EX : WX} {e : Expr} {fa : SE} {ta : TE} {ha : SA} {p p2 q pos : Pos}
end
end Q

namespace Q
open PySem PySem.Spec PyProof.Rows L2
section
variable {X : Cx} {cf : CF} {EX : WX} {o e : Expr} {fo fx : SE} {p p2 pos : Pos}
end
end Q

namespace Q
open PySem PySem.Spec PyProof.Rows L2
section
variable {X : Cx} {cf : CF} {EX : WX} {a b : Expr} {fa fb : SE} {pos : Pos}
end
end Q

namespace Q
open PySem PySem.Spec PyProof.Rows L2
section
variable {X : Cx} {cf : CF} {EX : WX} {a b : Expr} {fa fb : SE} {pos : Pos}
end
end Q

namespace Q
open PySem PySem.Spec PyProof.Rows L2
section
variable {X : Cx} {cf : CF} {EX : WX} {e : Expr} {ha : SA} {p pos : Pos}
end
end Q

namespace Q
open PySem PySem.Spec PyProof.Rows L2
def hasPart : D → Bool
  | .tuple (_ :: _) => true
  | _ => false
def okSortD (xs : List D) : Bool := (xs.all fun x => xs.all fun y => PySem.W.alike x y) && (xs.all hasPart && xs.all fun x => Nat.ble x.depth 50)
def sortND (xs : List D) : List D := xs.mergeSort (PySem.W.dataLe false fun d : D => d)
def gSortND : GN
  | [.d (.list xs)], S => if okSortD xs then (if xs.length ≤ LIM then .ok (.d (.list (sortND xs))) S else .stuck) else .stuck
  | _, _ => .stuck
mutual
theorem alike_nd : ∀ (x : D), PySem.W.alike x x = true → x.hasDict = false
  | .none, _ => rfl
  | .bool _, _ => rfl
  | .int _, _ => rfl
  | .str _, _ => rfl
  | .list xs, h => by rw [PyData.hasDict]; exact alikes_nd xs (by simpa [PySem.W.alike] using h)
  | .tuple xs, h => by rw [PyData.hasDict]; exact alikes_nd xs (by simpa [PySem.W.alike] using h)
  | .dict _, h => by simp [PySem.W.alike] at h
theorem alikes_nd : ∀ (xs : List D), PySem.W.alikeAll xs xs = true → PyData.hasDictAll xs = false
  | [], _ => rfl
  | x :: xs, h => by
    simp only [PySem.W.alikeAll, Bool.and_eq_true] at h
    rw [PyData.hasDictAll, alike_nd x h.1, alikes_nd xs h.2]
    rfl
end
section
variable {X : Cx} {cf : CF} {EX : WX} {e : Expr} {ha : SA} {p pos : Pos}
/-- sorted(xs) of data: whatever the things are (R) -/
def rSortND (K : PySem.W.Frag) : List V → Hp → VK → Prop := fun vs H Q => ∃ (a : Addr) (xs : List V) (ds : List D) (N : Addr → Prop), vs = [V.ref a] ∧ SqL K H a xs ∧ DnAll K H N xs ds ∧ okSortD ds = true ∧ ds.length ≤ sizeLine ∧
  ∀ ys p, DnAll K H N ys (sortND ds) → H p = none → Q (.ref p) (upd H p (.lst ys))
theorem dn_each {K : PySem.W.Frag} {H : Hp} {N : Addr → Prop} : ∀ {xs : List V} {ds : List D} {us : List Value}, DnAll K H N xs ds → Vals xs us → PySem.W.EachIs (fun u d => ∃ v, RelV v u ∧ Dn K H N v d) us ds
  | _, _, _, .nil, .nil => .nil
  | _, _, _, .cons h t, .cons r rt => .cons ⟨_, r, h⟩ (dn_each t rt)
theorem each_dn {K : PySem.W.Frag} {H : Hp} {N : Addr → Prop} : ∀ {us : List Value} {ds : List D}, PySem.W.EachIs (fun u d => ∃ v, RelV v u ∧ Dn K H N v d) us ds → ∃ xs, Vals xs us ∧ DnAll K H N xs ds
  | _, _, .nil => ⟨[], .nil, .nil⟩
  | _, _, .cons ⟨v, r, h⟩ t => by
    obtain ⟨xs, h1, h2⟩ := each_dn t
    exact ⟨v :: xs, .cons r h1, .cons h h2⟩
theorem each_reads {P : Cx} {pins : List (Addr × Obj)} {σ : L2.St} {H : Hp} {s : Shared} {N : Addr → Prop} (I : Inv P pins σ H s) : ∀ {us : List Value} {ds : List D}, (∀ d ∈ ds, d.hasDict = false) → PySem.W.EachIs (fun u d => ∃ v, RelV v u ∧ Dn P.K H N v d) us ds → PySem.W.EachIs (fun u d => ∃ as, Reads s.heap u d as) us ds
  | _, _, _, .nil => .nil
  | _, _, nd, .cons ⟨v, r, h⟩ t => .cons (Dp.reads I _ _ _ (dn_dp' h (nd _ (by simp))) r) (each_reads I (fun d hd => nd d (by simp [hd])) t)
theorem cr_sortND {k : Nat} (hr : Room k X.A) : CallR X (.builtin "sorted") (rSortND X.K) := by
  intro pins s σ H vs us Q I r h
  obtain ⟨a, xs, ds, N, rfl, hq, t, ok, hz, q⟩ := h
  obtain ⟨its, rv, hl, _⟩ := I.list hq
  obtain ⟨u, rfl, ru⟩ := vals1 r
  obtain rfl : u = Value.ref a := ru
  unfold okSortD at ok
  simp only [Bool.and_eq_true, List.all_eq_true] at ok
  obtain ⟨o1, o2, o3⟩ := ok
  have nd : ∀ d ∈ ds, d.hasDict = false := fun d hd => alike_nd d (o1 d hd d hd)
  have ea := dn_each t rv
  have mp : ds.map (fun d : D => d) = ds := List.map_id _
  refine PySem.W.sorted_data (enc := fun d : D => d) (R := fun u d => ∃ v, RelV v u ∧ Dn X.K H N v d) hl.isList ea (each_reads I nd ea) ?_ ?_ hz ?_ fun out _ eo => ?_
  · rw [mp]
    exact o1
  · rw [mp]
    exact .inl fun d hd => by
      have := o2 d hd
      unfold hasPart at this
      split at this
      · exact ⟨_, _, rfl⟩
      · cases this
  · intro d hd
    have := Nat.le_of_ble_eq_true (o3 d hd)
    have := hr.units
    show X.A.units + 2 + d.depth < cLine
    omega
  · obtain ⟨ys, h1, h2⟩ := each_dn eo
    obtain ⟨c, hc⟩ := sortedAll_at s.heap its out.toArray
    have len : ys.length ≤ sizeLine := by
      rw [h2.length, List.length_mergeSort]
      exact hz
    exact ⟨.ref (s.heap.objs.size + 1), upd H (s.heap.objs.size + 1) (.lst ys), I.laid (t' := s.toks) (fun b o z => sortedAll_old z) (Nat.le_succ _) ⟨len, out, c, h1, hc⟩, rfl, q ys _ h2 (I.hok.fresh (Nat.le_succ _))⟩
theorem co_sortND : CallOp X EX (rSortND X.K) gSortND := by
  intro F σ env S H μ vs ws Q s rvs q
  unfold gSortND at q
  split at q
  · obtain ⟨v, rfl, rv⟩ := rws1 rvs
    split at q
    · rename_i ok
      obtain ⟨a, us, rfl, na, ha, ta⟩ := rw_lst rv
      split at q
      · rename_i hz
        exact ⟨a, us, _, _, rfl, SqL.of ha, ta, ok, by rw [← lim_line]; exact hz, fun ys p hy n => q _ μ (s.new n) (ext_new n) _ (.d (.lst ⟨s.fresh n, upd_same⟩ (hy.keep fun a o na e => ⟨by rw [upd_ne (ne_of_none e n)]; exact e, na⟩)))⟩
      · exact q.elim
    · exact q.elim
  · exact q.elim
theorem me_sortND {k : Nat} (hr : Room k X.A) (hg : Gl X "sorted") (hm : X.mg "sorted" = none) (h : MA X cf EX [e] ha) (he : starEach [e] X.env = (false, eval e X.env) :: starEach [] X.env := by rfl) (hpl : (backTo pos (starEach [] X.env)).any (·.1) = false := by rfl) :
    ME X cf EX (.Call (.Name "sorted" p) [e] [] pos) (fB gSortND ha) := me_callB (cr_sortND hr) co_sortND hg hm (by decide +kernel) h (he := he) (hpl := hpl)
end
end Q

namespace Q
open PySem PySem.Spec PyProof.Rows L2

section
variable {cf : CF} {env : EnvQ} {S : Sto}
@[simp] theorem x_int (i : Int) : fInt i cf env S = .ok (.d (.int i)) S := rfl
@[simp] theorem x_bl (b : Bool) : fBl b cf env S = .ok (.d (.bool b)) S := rfl
@[simp] theorem x_non : fNon cf env S = .ok (.d .none) S := rfl
@[simp] theorem x_str (s : Str) : fStr s cf env S = .ok (.d (.str s)) S := rfl
@[simp] theorem x_var (i : Nat) : fVar i cf env S = (match env[i]? with | some (some w) => if w.plain then .ok w S else .stuck | _ => .stuck) := rfl
@[simp] theorem x_bin (g : G2) (a b : SE) : fBin g a b cf env S = (a cf env S).bind fun x S1 => (b cf env S1).bind fun y S2 => g x y S2 := rfl
@[simp] theorem x_isNone (a : SE) : fIsNone a cf env S = (a cf env S).bind fun x S1 => .ok (.d (.bool x.isNone)) S1 := rfl
@[simp] theorem x_notNone (a : SE) : fNotNone a cf env S = (a cf env S).bind fun x S1 => .ok (.d (.bool (!x.isNone))) S1 := rfl
@[simp] theorem x_cVal (a : SE) : cVal a cf env S = (a cf env S).bind fun x S1 => match x with | .d (.bool b) => .ok b S1 | _ => .stuck := rfl
@[simp] theorem x_cNot (a : ST) : cNot a cf env S = (a cf env S).bind fun b S1 => .ok (!b) S1 := rfl
@[simp] theorem x_cAnd (a b : ST) : cAnd a b cf env S = (a cf env S).bind fun x S1 => if x = true then b cf env S1 else .ok false S1 := rfl
@[simp] theorem x_cOr (a b : ST) : cOr a b cf env S = (a cf env S).bind fun x S1 => if x = true then .ok true S1 else b cf env S1 := rfl
@[simp] theorem x_and (a b : SE) : fAnd a b cf env S = (a cf env S).bind fun x S1 => match x with | .d (.bool c) => if c = true then b cf env S1 else .ok (.d (.bool false)) S1 | _ => .stuck := rfl
@[simp] theorem x_or (a b : SE) : fOr a b cf env S = (a cf env S).bind fun x S1 => match x with | .d (.bool c) => if c = true then .ok (.d (.bool true)) S1 else b cf env S1 | _ => .stuck := rfl
@[simp] theorem x_not (a : SE) : fNot a cf env S = (a cf env S).bind fun x S1 => match x with | .d (.bool c) => .ok (.d (.bool (!c))) S1 | _ => .stuck := rfl
@[simp] theorem x_neg (a : SE) : fNeg a cf env S = (a cf env S).bind fun x S1 => match x with | .d (.int i) => .ok (.d (.int (-i))) S1 | _ => .stuck := rfl
@[simp] theorem x_if (c : ST) (a b : SE) : fIf c a b cf env S = (c cf env S).bind fun x S1 => if x = true then a cf env S1 else b cf env S1 := rfl
@[simp] theorem x_nil : aNil cf env S = .ok [] S := rfl
@[simp] theorem x_cons (a : SE) (r : SA) : aCons a r cf env S = (a cf env S).bind fun x S1 => (r cf env S1).bind fun xs S2 => if x.plain then .ok (x :: xs) S2 else .stuck := rfl
@[simp] theorem x_one (a : SE) : aOne a cf env S = (a cf env S).bind fun x S1 => .ok [x] S1 := rfl
@[simp] theorem x_tup (a : SA) : fTup a cf env S = (a cf env S).bind fun ws S1 => if ws.length ≤ LIM then (match datas ws with | some ds => .ok (.d (.tuple ds)) S1 | none => .ok (.tw ws) S1) else .stuck := rfl
@[simp] theorem x_lst (a : SA) : fLst a cf env S = (a cf env S).bind fun ws S1 => if ws.length ≤ LIM then (match datas ws with | some ds => .ok (.d (.list ds)) S1 | none => .stuck) else .stuck := rfl
@[simp] theorem x_newL (a : SA) : fNewL a cf env S = (a cf env S).bind fun ws S1 => if ws.length ≤ LIM then (match datas ws with | some ds => .ok (.ref S1.length) (S1 ++ [.lst ds]) | none => .stuck) else .stuck := rfl
@[simp] theorem x_B (g : GN) (a : SA) : fB g a cf env S = (a cf env S).bind fun ws S1 => g ws S1 := rfl
@[simp] theorem x_callN (x : String) (n : Nat) (a : SA) : fCallN x n a cf env S = (a cf env S).bind fun ws S1 => arity n ws (cf x ws S1) := rfl
@[simp] theorem x_call0 (x : String) : fCall0 x cf env S = cf x [] S := rfl
@[simp] theorem x_isI (t : String) (a : SE) : fIsI t a cf env S = (a cf env S).bind fun x S1 => match x with | .d d => .ok (.d (.bool (isTy t d))) S1 | _ => .stuck := rfl
@[simp] theorem x_at (a b : SE) : fAt a b cf env S = (a cf env S).bind fun x S1 => if x.plain then (b cf env S1).bind fun y S2 => gAt x y S2 else .stuck := rfl
@[simp] theorem x_own (i : Nat) : fOwn i cf env S = (match env[i]? with | some (some (.own xs)) => .ok (.own xs) S | some (some (.ownd xs)) => .ok (.ownd xs) S | _ => .stuck) := rfl
@[simp] theorem x_atOwn (i : Nat) (b : SE) : fAtOwn i b cf env S = (match env[i]? with | some (some (.own xs)) => (b cf env S).bind fun y S2 => gAt (.own xs) y S2 | _ => .stuck) := rfl
@[simp] theorem x_chain (g g' : G2) (a b c : SE) : fChain g g' a b c cf env S = (a cf env S).bind fun x S1 => (b cf env S1).bind fun y S2 => (g x y S2).bind fun z S3 => match z with | .d (.bool k) => if k = true then (c cf env S3).bind fun w S4 => g' y w S4 else .ok (.d (.bool false)) S3 | _ => .stuck := rfl
@[simp] theorem x_oNone : oNone cf env S = .ok none S := rfl
@[simp] theorem x_oSome (a : SE) : oSome a cf env S = (a cf env S).bind fun x S1 => match x with | .d (.int i) => .ok (some i) S1 | _ => .stuck := rfl
@[simp] theorem x_sl (a : SE) (lo hi : SO) : fSl a lo hi cf env S = (a cf env S).bind fun x S1 => if x.plain then (lo cf env S1).bind fun l S2 => (hi cf env S2).bind fun u S3 => gSlice x l u S3 else .stuck := rfl
@[simp] theorem x_comp (vs : List Nat) (t : Tg) (it : SI) (c : ST) (f : SE) : fComp vs t it c f cf env S = if vs.all (notOwn env) then (it cf env S).bind fun ds S1 => (compL t (c cf) (f cf) (wipeE env vs) ds S1).bind fun xs S2 => if xs.length ≤ LIM then .ok (.d (.list xs)) S2 else .stuck else .stuck := rfl
@[simp] theorem x_yes : cYes cf env S = .ok true S := rfl
@[simp] theorem x_iSeq (f : SE) : iSeq f cf env S = (f cf env S).bind fun w S1 => match w with | .d (.list xs) => .ok xs S1 | .d (.tuple xs) => .ok xs S1 | .scr xs => .ok (xs.map PyData.int) S1 | _ => .stuck := rfl
@[simp] theorem x_range1 (a : SA) : iRange1 a cf env S = (a cf env S).bind fun ws S1 => match ws with | [.d (.int j)] => if inR j then .ok (rangeD 0 j.toNat) S1 else .stuck | _ => .stuck := rfl
@[simp] theorem x_range2 (a : SA) : iRange2 a cf env S = (a cf env S).bind fun ws S1 => match ws with | [.d (.int i), .d (.int j)] => if inR i && inR j then .ok (rangeD i (j - i).toNat) S1 else .stuck | _ => .stuck := rfl
@[simp] theorem y_next : sNext cf env S = .next env S := rfl
@[simp] theorem y_never : sNever cf env S = .stuck := rfl
@[simp] theorem y_raise (c : String) : sRaise c cf env S = .exc c env S := rfl
@[simp] theorem y_brk : sBreak cf env S = .brk env S := rfl
@[simp] theorem y_cont : sCont cf env S = .cont env S := rfl
@[simp] theorem y_seq (a b : SS) : sSeq a b cf env S = (a cf env S).seq fun env' S' => b cf env' S' := rfl
@[simp] theorem y_set (i : Nat) (f : SE) : sSet i f cf env S = (f cf env S).then env fun w S' => if w.plain then .next (env.set i (some w)) S' else .stuck := rfl
@[simp] theorem y_new (i : Nat) (a : SA) : sNew i a cf env S = (a cf env S).then env fun ws S' => if ws.length ≤ LIM then (match datas ws with | some ds => .next (env.set i (some (.own ds))) S' | none => .stuck) else .stuck := rfl
@[simp] theorem y_app (i : Nat) (f : SE) : sApp i f cf env S = (match env[i]? with | some (some (.own xs)) => (f cf env S).then env (fun w S' => (match w with | .d x => if xs.length < LIM then .next (env.set i (some (.own (xs ++ [x])))) S' else .stuck | _ => .stuck)) | _ => .stuck) := rfl
@[simp] theorem y_freeze (i : Nat) : sFreeze i cf env S = (match env[i]? with | some (some (.own xs)) => .next (env.set i (some (.d (.list xs)))) S | _ => .stuck) := rfl
@[simp] theorem y_retN : sRetN cf env S = .ret (.d .none) S := rfl
@[simp] theorem y_retP (f : SE) : sRetP f cf env S = (f cf env S).then env fun w S' => if w.plain then .ret w S' else .stuck := rfl
@[simp] theorem y_retO (i : Nat) : sRetO i cf env S = (match env[i]? with | some (some (.own xs)) => .ret (.d (.list xs)) S | _ => .stuck) := rfl
@[simp] theorem y_expr (f : SE) : sExpr f cf env S = (f cf env S).then env fun _ S' => .next env S' := rfl
@[simp] theorem y_if (c : ST) (a b : SS) : sIf c a b cf env S = (c cf env S).then env fun k S' => if k = true then a cf env S' else b cf env S' := rfl
@[simp] theorem y_for (t : Tg) (it : SI) (body : SS) : sFor t it body cf env S = (it cf env S).then env fun ds S' => forL t (body cf) ds env S' := rfl
@[simp] theorem y_while (n : Nat) (c : ST) (body : SS) : sWhile n c body cf env S = whileL (c cf) (body cf) n env S := rfl
@[simp] theorem y_par (is : List Nat) (a : SA) : sPar is a cf env S = (a cf env S).then env fun ws S' => if W.plains ws then (match setW is ws env with | some env' => .next env' S' | none => .stuck) else .stuck := rfl
@[simp] theorem y_unp (is : List Nat) (f : SE) : sUnp is f cf env S = (f cf env S).then env fun w S' => match w with | .d (.tuple ds) => (match setAll is ds env with | some env' => .next env' S' | none => .stuck) | _ => .stuck := rfl
@[simp] theorem y_aug (i : Nat) (g : G2) (f : SE) : sAug i g f cf env S = (match env[i]? with | some (some w) => if w.plain then (f cf env S).then env fun u S1 => (g w u S1).then env fun z S2 => if z.plain then .next (env.set i (some z)) S2 else .stuck else .stuck | _ => .stuck) := rfl
@[simp] theorem z_d (x : D) : W.plain (.d x) = true := rfl
@[simp] theorem z_ref (n : Nat) : W.plain (.ref n) = true := rfl
@[simp] theorem z_scr (n : List Int) : W.plain (.scr n) = true := rfl
@[simp] theorem z_own (n : List D) : W.plain (.own n) = false := rfl
@[simp] theorem z_nil : W.plains [] = true := rfl
@[simp] theorem z_cons (w : W) (ws : List W) : W.plains (w :: ws) = (w.plain && W.plains ws) := rfl
@[simp] theorem z_datas0 : datas [] = some [] := rfl
@[simp] theorem z_datas1 (x : D) (ws : List W) : datas (.d x :: ws) = (datas ws).map (x :: ·) := rfl
@[simp] theorem z_datas2 (n : Nat) (ws : List W) : datas (.ref n :: ws) = none := rfl
@[simp] theorem z_set0 (env : EnvQ) : setW [] [] env = some env := rfl
@[simp] theorem z_set1 (i : Nat) (is : List Nat) (w : W) (ws : List W) (env : EnvQ) : setW (i :: is) (w :: ws) env = setW is ws (env.set i (some w)) := rfl
@[simp] theorem z_setA0 (env : EnvQ) : setAll [] [] env = some env := rfl
@[simp] theorem z_setA1 (i : Nat) (is : List Nat) (w : D) (ws : List D) (env : EnvQ) : setAll (i :: is) (w :: ws) env = setAll is ws (env.set i (some (.d w))) := rfl
@[simp] theorem z_name (i : Nat) (d : D) (env : EnvQ) : Tg.set (.name i) d env = some (env.set i (some (.d d))) := rfl
@[simp] theorem z_names (is : List Nat) (ds : List D) (env : EnvQ) : Tg.set (.names is) (.tuple ds) env = setAll is ds env := rfl
@[simp] theorem z_wipe0 : wipeE env [] = env := rfl
@[simp] theorem z_wipe1 (v : Nat) (vs : List Nat) : wipeE env (v :: vs) = (wipeE env vs).set v none := rfl
@[simp] theorem z_arity (n : Nat) (ws : List W) (r : R W) : arity n ws r = if ws.length = n ∧ W.plains ws = true then r else .stuck := rfl
@[simp] theorem g_add (i j : Int) : gAdd (.d (.int i)) (.d (.int j)) S = .ok (.d (.int (i + j))) S := rfl
@[simp] theorem g_sub (i j : Int) : gSub (.d (.int i)) (.d (.int j)) S = .ok (.d (.int (i - j))) S := rfl
@[simp] theorem g_mul (i j : Int) : gMul2 (.d (.int i)) (.d (.int j)) S = if sm i || sm j then .ok (.d (.int (i * j))) S else .stuck := rfl
@[simp] theorem g_mod (i j : Int) : gMod (.d (.int i)) (.d (.int j)) S = if 0 < j then .ok (.d (.int (i % j))) S else .stuck := rfl
@[simp] theorem g_div (i j : Int) : gDiv (.d (.int i)) (.d (.int j)) S = if 0 < j ∧ Nat.ble j.natAbs 18446744073709551615 = true then .ok (.d (.int (i / j))) S else .stuck := rfl
@[simp] theorem g_pow (i j : Int) : gPow (.d (.int i)) (.d (.int j)) S = if 0 ≤ j ∧ j ≤ 1000000 ∧ i.natAbs < 2 ^ 64 then .ok (.d (.int (i ^ j.toNat))) S else .stuck := rfl
@[simp] theorem g_lt (i j : Int) : gLt (.d (.int i)) (.d (.int j)) S = .ok (.d (.bool (decide (i < j)))) S := rfl
@[simp] theorem g_le (i j : Int) : gLe (.d (.int i)) (.d (.int j)) S = .ok (.d (.bool (decide (i ≤ j)))) S := rfl
@[simp] theorem g_gt (i j : Int) : gGt (.d (.int i)) (.d (.int j)) S = .ok (.d (.bool (decide (j < i)))) S := rfl
@[simp] theorem g_ge (i j : Int) : gGe (.d (.int i)) (.d (.int j)) S = .ok (.d (.bool (decide (j ≤ i)))) S := rfl
@[simp] theorem g_lenT (xs : List D) : gLen [.d (.tuple xs)] S = .ok (.d (.int xs.length)) S := rfl
@[simp] theorem g_lenL (xs : List D) : gLen [.d (.list xs)] S = .ok (.d (.int xs.length)) S := rfl
@[simp] theorem g_tupL (xs : List D) : gTuple [.d (.list xs)] S = .ok (.d (.tuple xs)) S := rfl
@[simp] theorem g_tupT (xs : List D) : gTuple [.d (.tuple xs)] S = .ok (.d (.tuple xs)) S := rfl
@[simp] theorem g_tupO (xs : List D) : gTuple [.own xs] S = .ok (.d (.tuple xs)) S := rfl
@[simp] theorem g_max2 (i j : Int) : gMax2 [.d (.int i), .d (.int j)] S = .ok (.d (.int (if j > i then j else i))) S := rfl
@[simp] theorem g_min2 (i j : Int) : gMin2 [.d (.int i), .d (.int j)] S = .ok (.d (.int (if j < i then j else i))) S := rfl
@[simp] theorem g_repr (d : D) : gRepr [.d d] S = if okShow d then .ok (.d (.str d.shown)) S else .stuck := rfl
@[simp] theorem g_atT (xs : List D) (i : Int) : gAt (.d (.tuple xs)) (.d (.int i)) S = (match atI xs i with | some x => .ok (.d x) S | none => .stuck) := rfl
@[simp] theorem g_atL (xs : List D) (i : Int) : gAt (.d (.list xs)) (.d (.int i)) S = (match atI xs i with | some x => .ok (.d x) S | none => .stuck) := rfl
@[simp] theorem g_atO (xs : List D) (i : Int) : gAt (.own xs) (.d (.int i)) S = (match atI xs i with | some x => .ok (.d x) S | none => .stuck) := rfl
@[simp] theorem g_atR (n : Nat) (i : Int) : gAt (.ref n) (.d (.int i)) S = (match S[n]? with | some (.lst xs) => (match atI xs i with | some x => .ok (.d x) S | none => .stuck) | _ => .stuck) := rfl
@[simp] theorem g_atS (xs : List Int) (i : Int) : gAt (.scr xs) (.d (.int i)) S = (match atI xs i with | some x => .ok (.d (.int x)) S | none => .stuck) := rfl
@[simp] theorem g_eqI (i j : Int) : gEq (.d (.int i)) (.d (.int j)) S = .ok (.d (.bool (decide (i = j)))) S := by
  simp [gEq, okEq, PyData.canLay0, PyData.depth, PyData.eqv]
  rw [Bool.eq_iff_iff]; simp
@[simp] theorem g_neI (i j : Int) : gNe (.d (.int i)) (.d (.int j)) S = .ok (.d (.bool (!decide (i = j)))) S := by
  simp [gNe, okEq, PyData.canLay0, PyData.depth, PyData.eqv]
  rw [Bool.eq_iff_iff]; simp
@[simp] theorem g_neS (i j : Str) : gNe (.d (.str i)) (.d (.str j)) S = .ok (.d (.bool (!decide (i = j)))) S := rfl
@[simp] theorem g_eqS (i j : Str) : gEq (.d (.str i)) (.d (.str j)) S = .ok (.d (.bool (decide (i = j)))) S := rfl
@[simp] theorem g_all (xs : List D) : gAll [.d (.list xs)] S = (match bools xs with | some bs => .ok (.d (.bool (bs.all id))) S | none => .stuck) := rfl
@[simp] theorem g_any (xs : List D) : gAny [.d (.list xs)] S = (match bools xs with | some bs => .ok (.d (.bool (bs.any id))) S | none => .stuck) := rfl
@[simp] theorem g_sumL (xs : List D) : gSum [.d (.list xs)] S = (match intsOf xs with | some is => .ok (.d (.int is.sum)) S | none => .stuck) := rfl
@[simp] theorem g_sumT (xs : List D) : gSum [.d (.tuple xs)] S = (match intsOf xs with | some is => .ok (.d (.int is.sum)) S | none => .stuck) := rfl
@[simp] theorem g_slT (xs : List D) (lo hi : Option Int) : gSlice (.d (.tuple xs)) lo hi S = .ok (.d (.tuple (cutD xs lo hi))) S := rfl
@[simp] theorem g_slL (xs : List D) (lo hi : Option Int) : gSlice (.d (.list xs)) lo hi S = .ok (.d (.list (cutD xs lo hi))) S := rfl
@[simp] theorem g_slS (xs : List Int) (lo hi : Option Int) : gSlice (.scr xs) lo hi S = .ok (.d (.list ((cutD xs lo hi).map PyData.int))) S := rfl
@[simp] theorem fin_ret (w : W) : fin (.ret w S) = .ok w S := rfl
@[simp] theorem fin_next : fin (.next env S) = .ok (.d .none) S := rfl
@[simp] theorem fin_exc (c : String) : fin (.exc c env S) = .exc c S := rfl
@[simp] theorem calm_ok {α : Type} (a : α) : (R.ok a S).calm = .ok a S := rfl
@[simp] theorem ty_int (i : Int) : isTy "int" (.int i) = true := by simp [isTy, tyName]
@[simp] theorem ty_bool (i : Int) : isTy "bool" (.int i) = false := by simp [isTy, tyName]
@[simp] theorem ty_tup (xs : List D) : isTy "tuple" (.tuple xs) = true := by simp [isTy, tyName]
theorem y_setIx (o i f : SE) : sSetIx o i f cf env S = (f cf env S).then env fun w S1 => (o cf env S1).then env fun u S2 => (i cf env S2).then env fun k S3 => match w, u, k with
  | .d x, .ref n, .d (.int j) => (match S3[n]? with
    | some (.lst xs) => (match ixN xs.length j with
      | some m => .next env (S3.set n (.lst (xs.set m x)))
      | none => .stuck)
    | _ => .stuck)
  | _, _, _ => .stuck := rfl
end
theorem callQ_succ {T : Tab} {x : String} {d : FD} {k : Nat} {ws : List W} {S : Sto} (h : T x = some d) (hl : ws.length = d.n) (hp : W.plains ws = true) : callQ T (k + 1) x ws S = fin (d.body (callQ T k) (startQ d.slots ws) S) := by
  show (match T x with | none => R.stuck | some d => if ws.length = d.n ∧ W.plains ws = true then fin (d.body (callQ T k) (startQ d.slots ws) S) else .stuck) = _
  rw [h]
  exact if_pos ⟨hl, hp⟩
theorem sm_lt {i : Int} (h : 0 ≤ i) (h2 : i < 18446744073709551616) : sm i = true := by
  exact Nat.ble_eq_true_of_le (by omega)

theorem atI_nat {α : Type} (xs : List α) (i : Nat) : atI xs (i : Int) = xs[i]? := by
  simp [atI, ixN]
  by_cases h : i < xs.length
  · simp [h]
  · rw [List.getElem?_eq_none (by omega)]
    simp [h]
theorem inR_of {i : Int} (h : -4611686018427387904 < i) (h2 : i < 4611686018427387904) : inR i = true := by
  exact Nat.ble_eq_true_of_le (by omega)
theorem compL_on {α : Type} {i : Nat} {f : EnvQ → Sto → R W} {env : EnvQ} {S : Sto} {c : EnvQ → Sto → R Bool} (q g : α → D) : ∀ {xs : List α}, (∀ x ∈ xs, c (env.set i (some (.d (q x)))) S = .ok true S) → (∀ x ∈ xs, f (env.set i (some (.d (q x)))) S = .ok (.d (g x)) S) → compL (.name i) c f env (xs.map q) S = .ok (xs.map g) S
  | [], _, _ => rfl
  | x :: xs, hc, h => by
    have e := compL_on q g (xs := xs) (fun d hd => hc d (by simp [hd])) fun d hd => h d (by simp [hd])
    simp only [compL, z_name, List.map_cons]
    rw [hc x (by simp)]
    simp [e, h x (by simp)]
theorem forL_inv {t : Tg} {body : EnvQ → Sto → RS} (I : Nat → EnvQ → Sto → Prop) : ∀ {ds : List D} {n : Nat} {env : EnvQ} {S : Sto}, I n env S → (∀ i d env S, ds[i]? = some d → I (n + i) env S → ∃ env1 env2 S2, t.set d env = some env1 ∧ (body env1 S = .next env2 S2 ∨ body env1 S = .cont env2 S2) ∧ I (n + i + 1) env2 S2) → ∃ env' S', forL t body ds env S = .next env' S' ∧ I (n + ds.length) env' S'
  | [], n, env, S, h, _ => ⟨env, S, rfl, by simpa using h⟩
  | d :: ds, n, env, S, h, st => by
    obtain ⟨env1, env2, S2, e1, e2, i2⟩ := st 0 d env S rfl (by simpa using h)
    obtain ⟨env', S', e3, i3⟩ := forL_inv I (ds := ds) (n := n + 1) (env := env2) (S := S2) (by simpa using i2) fun i d env S hd hi => by
      have := st (i + 1) d env S (by simpa using hd) (by rw [show n + (i + 1) = n + 1 + i by omega]; exact hi)
      rw [show n + (i + 1) + 1 = n + 1 + i + 1 by omega] at this
      exact this
    refine ⟨env', S', ?_, by rw [show n + (d :: ds).length = n + 1 + ds.length by simp; omega]; exact i3⟩
    simp only [forL, e1]
    rcases e2 with e2 | e2 <;> rw [e2] <;> exact e3
theorem forL_inv0 {t : Tg} {body : EnvQ → Sto → RS} (I : Nat → EnvQ → Sto → Prop) {ds : List D} {env : EnvQ} {S : Sto} (h : I 0 env S) (st : ∀ i d env S, ds[i]? = some d → I i env S → ∃ env1 env2 S2, t.set d env = some env1 ∧ (body env1 S = .next env2 S2 ∨ body env1 S = .cont env2 S2) ∧ I (i + 1) env2 S2) : ∃ env' S', forL t body ds env S = .next env' S' ∧ I ds.length env' S' := by
  have := forL_inv I (n := 0) h fun i d env S hd hi => by
    have := st i d env S hd (by simpa using hi)
    simpa using this
  simpa using this
/-- each turn ends well -/
theorem forL_all {t : Tg} {body : EnvQ → Sto → RS} (I : EnvQ → Sto → Prop) {ds : List D} {env : EnvQ} {S : Sto} (h : I env S) (st : ∀ d ∈ ds, ∀ env S, I env S → ∃ env1 env2 S2, t.set d env = some env1 ∧ (body env1 S = .next env2 S2 ∨ body env1 S = .cont env2 S2) ∧ I env2 S2) : ∃ env' S', forL t body ds env S = .next env' S' ∧ I env' S' :=
  forL_inv (fun _ => I) (n := 0) h fun i d env S hd hi => st d (List.mem_of_getElem? hd) env S hi
theorem rangeD_mem {lo : Int} {n : Nat} {d : D} (h : d ∈ rangeD lo n) : ∃ i : Nat, i < n ∧ d = .int (lo + i) := by
  simp only [rangeD, List.mem_map, List.mem_range] at h
  obtain ⟨k, hk, rfl⟩ := h
  exact ⟨k, hk, rfl⟩
@[simp] theorem intsOf_map : ∀ (xs : List Int), intsOf (xs.map PyData.int) = some xs
  | [] => rfl
  | x :: xs => by simp [intsOf, intsOf_map xs]
theorem bools_on {α : Type} {g : α → D} (p : α → Bool) : ∀ {xs : List α}, (∀ x ∈ xs, g x = .bool (p x)) → bools (xs.map g) = some (xs.map p)
  | [], _ => rfl
  | x :: xs, h => by
    have e := bools_on p (xs := xs) fun y hy => h y (by simp [hy])
    simp [bools, h x (by simp), e]
theorem intsOf_on {α : Type} {g : α → D} (p : α → Int) : ∀ {xs : List α}, (∀ x ∈ xs, g x = .int (p x)) → intsOf (xs.map g) = some (xs.map p)
  | [], _ => rfl
  | x :: xs, h => by
    have e := intsOf_on p (xs := xs) fun y hy => h y (by simp [hy])
    simp [intsOf, h x (by simp), e]
@[simp] theorem bools_map : ∀ (xs : List Bool), bools (xs.map PyData.bool) = some xs
  | [] => rfl
  | x :: xs => by simp [bools, bools_map xs]

theorem sOk_iff {x : Str} : PyData.strOk x = true ↔ ∀ c ∈ x.cps.toList, c < 0x110000 := by
  unfold PyData.strOk
  rw [Array.all_eq_true_iff_forall_mem]
  simp
theorem sOk_of (s : String) : PyData.strOk (Str.ofString s) = true := by
  rw [sOk_iff, Str.ofString_eq_toList]
  intro c hc
  obtain ⟨z, _, rfl⟩ := List.mem_map.mp (by simpa using hc)
  have := z.valid
  unfold Nat.isValidChar at this
  have e : z.toNat = z.val.toNat := rfl
  rcases this with h | h <;> omega
theorem sOk_app {x y : Str} (h : PyData.strOk x = true) (h2 : PyData.strOk y = true) : PyData.strOk (x ++ y) = true := by
  rw [sOk_iff] at h h2 ⊢
  intro c hc
  have : (x ++ y).cps = x.cps ++ y.cps := rfl
  rw [this, Array.toList_append] at hc
  exact (List.mem_append.mp hc).elim (h c) (h2 c)
theorem sOk_from : ∀ {ts : List Str} {k : Nat} {acc : Str}, PyData.strOk acc = true → (∀ t ∈ ts, PyData.strOk t = true) → PyData.strOk (textFrom k acc ts) = true
  | [], _, _, h, _ => h
  | t :: ts, k, acc, h, ht => sOk_from (ts := ts) (sOk_app (sOk_app h (sOk_of _)) (ht t (by simp))) fun u hu => ht u (by simp [hu])
theorem sOk_join : ∀ {ts : List Str}, (∀ t ∈ ts, PyData.strOk t = true) → PyData.strOk (Str.join ", " ts) = true
  | [], _ => sOk_of ""
  | [x], h => h x (by simp)
  | x :: y :: r, h => sOk_app (sOk_app (h x (by simp)) (sOk_of _)) (sOk_join (ts := y :: r) fun t ht => h t (by simp at ht ⊢; right; exact ht))
structure Sh (n k : Nat) (d : D) : Prop where
  ok' : PyData.strOk d.shown = true
  sw : d.showable = true
  nd : d.hasDict = false
  dp : d.depth ≤ k
  ln : d.shown.length ≤ n
theorem Sh.mono {n k m l : Nat} {d : D} (h : Sh n k d) (h1 : n ≤ m) (h2 : k ≤ l) : Sh m l d := ⟨h.ok', h.sw, h.nd, Nat.le_trans h.dp h2, Nat.le_trans h.ln h1⟩
theorem Sh.ok {n k : Nat} {d : D} (h : Sh n k d) (hk : k ≤ 60) (hn : n ≤ 16777216) : okShow d = true := by
  have h1 := h.dp
  have h2 := h.ln
  simp [okShow, h.sw, h.nd]
  exact ⟨by omega, by show _ ≤ 16777216; omega⟩
theorem sh_int {i : Int} (h : i.natAbs < 10 ^ 12) : Sh 13 0 (.int i) := by
  refine ⟨sOk_of _, ?_, rfl, Nat.le_refl _, ?_⟩
  · simp only [PyData.showable, decide_eq_true_eq]
    by_cases h0 : i.natAbs = 0
    · rw [h0]; decide
    · rw [Nat.log2_lt h0]
      exact Nat.lt_of_lt_of_le h (by decide)
  · exact PyData.shown_int_le h
theorem sh_none : Sh 13 0 .none := ⟨sOk_of _, rfl, rfl, Nat.le_refl _, by decide⟩
theorem sh_all {n k : Nat} : ∀ {xs : List D}, (∀ x ∈ xs, Sh n k x) → (∀ t ∈ PyData.shownAll xs, PyData.strOk t = true) ∧ PyData.showableAll xs = true ∧ PyData.hasDictAll xs = false ∧ PyData.depthAll xs ≤ k ∧ ((PyData.shownAll xs).map (·.length)).sum + 2 * (PyData.shownAll xs).length ≤ xs.length * (n + 2)
  | [], _ => by simp [PyData.showableAll, PyData.hasDictAll, PyData.depthAll, PyData.shownAll]
  | x :: xs, h => by
    obtain ⟨h0, h1, h2, h3, h4⟩ := sh_all (xs := xs) fun y hy => h y (by simp [hy])
    have hx := h x (by simp)
    refine ⟨fun t ht => (List.mem_cons.mp ht).elim (fun e => e ▸ hx.ok') (h0 t), by simp [PyData.showableAll, hx.sw, h1], by simp [PyData.hasDictAll, hx.nd, h2], by have := hx.dp; simp only [PyData.depthAll]; omega, ?_⟩
    have := hx.ln
    simp only [PyData.shownAll, List.map_cons, List.sum_cons, List.length_cons, Nat.add_mul]
    omega
theorem sh_tup {n k : Nat} {xs : List D} (h : ∀ x ∈ xs, Sh n k x) : Sh (xs.length * (n + 2) + 3) (k + 1) (.tuple xs) := by
  obtain ⟨h0, h1, h2, h3, h4⟩ := sh_all h
  refine ⟨sOk_app (sOk_app (sOk_of _) (sOk_join h0)) (sOk_of _), by simp [PyData.showable, h1], by simp [PyData.hasDict, h2], by simp only [PyData.depth]; omega, ?_⟩
  have := tupleText_len_le (PyData.shownAll xs)
  simp only [PyData.shown]
  omega
def PenOk (S : Sto) (n : Nat) : Prop := ∃ a b c : Int, S[n]? = some (.lst [.int a, .int b, .int c]) ∧ 0 ≤ a ∧ 0 ≤ b ∧ b < 2147483648
def FDraw : SS := (sSeq (sIf (cVal (fBin gGt (fAt (fVar 0) (fInt 0)) (fInt 0)))
  (sSeq (sSet 2 (fBin gMod (fAt (fVar 0) (fInt 0)) (fVar 1)))
  (sSeq (sSetIx (fVar 0) (fInt 0) (fBin gDiv (fAt (fVar 0) (fInt 0)) (fVar 1)))
  (sRetP (fVar 2))))
  sNext)
  (sSeq (sSetIx (fVar 0) (fInt 2) (fBin gAdd (fAt (fVar 0) (fInt 2)) (fInt 1)))
  (sSeq (sSetIx (fVar 0) (fInt 1) (fBin gMod (fBin gAdd (fBin gAdd (fBin gMul2 (fAt (fVar 0) (fInt 1)) (fInt 48271)) (fBin gMul2 (fInt 1013) (fAt (fVar 0) (fInt 2)))) (fInt 11)) (fInt 2147483647)))
  (sSeq (sSet 3 (fBin gMod (fBin gAdd (fBin gAdd (fBin gMul2 (fAt (fVar 0) (fInt 1)) (fAt (fVar 0) (fInt 1))) (fBin gMul2 (fInt 40692) (fAt (fVar 0) (fInt 1)))) (fInt 7)) (fInt 2147483629)))
  (sRetP (fBin gMod (fBin gDiv (fBin gMod (fBin gMul2 (fVar 3) (fInt 69621)) (fInt 2147483647)) (fInt 16)) (fVar 1)))))))
theorem draw_spec {T : Tab} {k n : Nat} {m : Int} {S : Sto} (hT : T "_law_draw" = some ⟨2, 4, FDraw⟩) (h : PenOk S n) (h0 : 0 < m) (hm : m < 18446744073709551616) : ∃ r S', callQ T (k + 1) "_law_draw" [.ref n, .d (.int m)] S = .ok (.d (.int r)) S' ∧ 0 ≤ r ∧ r < m ∧ PenOk S' n ∧ ∃ o, S' = S.set n o := by
  obtain ⟨a, b, c, e, ha, hb, hb2⟩ := h
  have hl : n < S.length := (List.getElem?_eq_some_iff.mp e).1
  rw [callQ_succ hT rfl rfl]
  by_cases h1 : 0 < a
  · refine ⟨a % m, S.set n (.lst [.int (a / m), .int b, .int c]), ?_, Int.emod_nonneg _ (by omega), Int.emod_lt_of_pos _ h0, ⟨a / m, b, c, by simp [hl], Int.ediv_nonneg ha (by omega), hb, hb2⟩, _, rfl⟩
    have hm' : Nat.ble m.natAbs 18446744073709551615 = true := Nat.ble_eq_true_of_le (by omega)
    simp [FDraw, startQ, y_setIx, e, h1, h0, hm', atI, ixN, -Nat.ble_eq]
  · have hb' : 0 ≤ (b * 48271 + 1013 * (c + 1) + 11) % 2147483647 ∧ (b * 48271 + 1013 * (c + 1) + 11) % 2147483647 < 2147483647 := ⟨Int.emod_nonneg _ (by omega), Int.emod_lt_of_pos _ (by omega)⟩
    generalize hB : (b * 48271 + 1013 * (c + 1) + 11) % 2147483647 = B at hb'
    have hs : sm B = true := sm_lt hb'.1 (by omega)
    refine ⟨(B * B + 40692 * B + 7) % 2147483629 * 69621 % 2147483647 / 16 % m, S.set n (.lst [.int a, .int B, .int (c + 1)]), ?_, Int.emod_nonneg _ (by omega), Int.emod_lt_of_pos _ h0, ⟨a, B, c + 1, by simp [hl], ha, hb'.1, by omega⟩, _, rfl⟩
    have s1 : sm 48271 = true := by decide
    have s2 : sm 1013 = true := by decide
    have s3 : sm 40692 = true := by decide
    have s4 : sm 69621 = true := by decide
    have hg : ∀ o : O, (S.set n o)[n]? = some o := fun o => by simp [hl]
    simp [FDraw, startQ, y_setIx, e, h1, h0, hm, hg, atI, ixN, hB, hs, s1, s2, s3, s4]
end Q
namespace Q
open PySem PySem.Spec PyProof.Rows L2
theorem compL_tg {α : Type} {t : Tg} {f : EnvQ → Sto → R W} {env : EnvQ} {S : Sto} {c : EnvQ → Sto → R Bool} (q g : α → D) (u : α → EnvQ) : ∀ {xs : List α}, (∀ x ∈ xs, t.set (q x) env = some (u x)) → (∀ x ∈ xs, c (u x) S = .ok true S) → (∀ x ∈ xs, f (u x) S = .ok (.d (g x)) S) → compL t c f env (xs.map q) S = .ok (xs.map g) S
  | [], _, _, _ => rfl
  | x :: xs, ht, hc, h => by
    have e := compL_tg q g u (xs := xs) (fun d hd => ht d (by simp [hd])) (fun d hd => hc d (by simp [hd])) fun d hd => h d (by simp [hd])
    simp only [compL, List.map_cons]
    rw [ht x (by simp)]
    show ((c (u x) S).calm.bind _) = _
    rw [hc x (by simp)]
    simp [e, h x (by simp)]
/-- with a store that changes, by the turn's number -/
theorem compL_stI' {i : Nat} {f : EnvQ → Sto → R W} {env : EnvQ} {c : EnvQ → Sto → R Bool} (I : Nat → Sto → Prop) (P : D → Prop) (hc : ∀ d S, c (env.set i (some (.d d))) S = .ok true S) : ∀ {ds : List D} {n : Nat} {S : Sto}, I n S → (∀ j d S, ds[j]? = some d → I (n + j) S → ∃ x S', f (env.set i (some (.d d))) S = .ok (.d x) S' ∧ I (n + j + 1) S' ∧ P x) → ∃ xs S', compL (.name i) c f env ds S = .ok xs S' ∧ I (n + ds.length) S' ∧ xs.length = ds.length ∧ ∀ x ∈ xs, P x
  | [], n, S, hI, _ => ⟨[], S, rfl, hI, rfl, by simp⟩
  | d :: ds, n, S, hI, h => by
    obtain ⟨x, S1, e1, I1, p1⟩ := h 0 d S rfl hI
    obtain ⟨xs, S2, e2, I2, l2, p2⟩ := compL_stI' I P hc (ds := ds) (n := n + 1) I1 fun j d S hd hj => by
      have := h (j + 1) d S (by simpa using hd) (by rw [show n + (j + 1) = n + 1 + j by omega]; exact hj)
      rw [show n + (j + 1) + 1 = n + 1 + j + 1 by omega] at this
      exact this
    refine ⟨x :: xs, S2, ?_, by rw [show n + (d :: ds).length = n + 1 + ds.length by simp; omega]; exact I2, by simp [l2], fun y hy => ?_⟩
    · simp only [compL, z_name]
      rw [hc d S]
      simp [e1, e2]
    · rcases List.mem_cons.mp hy with rfl | hy
      · exact p1
      · exact p2 y hy
theorem compL_stI {i : Nat} {f : EnvQ → Sto → R W} {env : EnvQ} {c : EnvQ → Sto → R Bool} (I : Nat → Sto → Prop) (P : D → Prop) {ds : List D} {S : Sto} (hc : ∀ d S, c (env.set i (some (.d d))) S = .ok true S) (h0 : I 0 S) (h : ∀ j d S, ds[j]? = some d → I j S → ∃ x S', f (env.set i (some (.d d))) S = .ok (.d x) S' ∧ I (j + 1) S' ∧ P x) : ∃ xs S', compL (.name i) c f env ds S = .ok xs S' ∧ I ds.length S' ∧ xs.length = ds.length ∧ ∀ x ∈ xs, P x := by
  have := compL_stI' I P hc (ds := ds) (n := 0) h0 fun j d S hd hj => by
    have := h j d S hd (by simpa using hj)
    simpa using this
  simpa using this
/-- while: N turns, then none -/
theorem whileL_N {c : EnvQ → Sto → R Bool} {body : EnvQ → Sto → RS} (E : Nat → EnvQ) (S : Sto) (N : Nat) (hc : ∀ i, i < N → c (E i) S = .ok true S) (hb : ∀ i, i < N → body (E i) S = .next (E (i + 1)) S) (hN : c (E N) S = .ok false S) : ∀ (d fuel i : Nat), i + d = N → d < fuel → whileL c body fuel (E i) S = .next (E N) S
  | 0, fuel + 1, i, h, _ => by
    have : i = N := by omega
    subst this
    simp [whileL, hN]
  | d + 1, fuel + 1, i, h, hf => by
    simp only [whileL]
    rw [hc i (by omega)]
    simp only [R.then_ok, if_true]
    rw [hb i (by omega)]
    exact whileL_N E S N hc hb hN d fuel (i + 1) (by omega) (by omega)
  | _, 0, _, _, h => by omega
/-- the least from 1 on -/
theorem least_from {P : Nat → Prop} [DecidablePred P] : ∀ (M : Nat), 1 ≤ M → P M → ∃ N, 1 ≤ N ∧ N ≤ M ∧ P N ∧ ∀ j, 1 ≤ j → j < N → ¬ P j := by
  intro M
  induction M using Nat.strongRecOn with
  | ind M ih =>
    intro h1 hM
    by_cases h : ∃ j, 1 ≤ j ∧ j < M ∧ P j
    · obtain ⟨j, h2, h3, h4⟩ := h
      obtain ⟨N, a, b, c, d⟩ := ih j h3 h2 h4
      exact ⟨N, a, by omega, c, d⟩
    · exact ⟨M, h1, Nat.le_refl _, hM, fun j h2 h3 h4 => h ⟨j, h2, h3, h4⟩⟩
end Q

namespace Q
open PySem PySem.Spec PyProof.Rows L2
section
variable {cf : CF} {env : EnvQ} {S : Sto}
@[simp] theorem y_setCompO (i : Nat) (vs : List Nat) (t : Tg) (it : SI) (c : ST) (f : SE) : sSetCompO i vs t it c f cf env S = if vs.all (notOwn env) then (it cf env S).then env fun ds S1 => (compL t (c cf) (f cf) (wipeE env vs) ds S1).calm.then env fun xs S2 => if xs.length ≤ LIM then .next (env.set i (some (.own xs))) S2 else .stuck else .stuck := rfl
@[simp] theorem y_setIxO (i : Nat) (fk fe : SE) : sSetIxO i fk fe cf env S = (match env[i]? with
  | some (some (.own xs)) => (fe cf env S).then env fun w S1 => (match w with
    | .d x => (fk cf env S1).then env fun u S2 => (match u with
      | .d (.int j) => (match ixN xs.length j with
        | some m => .next (env.set i (some (.own (xs.set m x)))) S2
        | none => .stuck)
      | _ => .stuck)
    | _ => .stuck)
  | _ => .stuck) := rfl
@[simp] theorem y_newD (i : Nat) : sNewD i cf env S = .next (env.set i (some (.ownd []))) S := rfl
@[simp] theorem y_putD (i : Nat) (fk fe : SE) : sPutD i fk fe cf env S = (match env[i]? with
  | some (some (.ownd kvs)) => (fe cf env S).then env fun w S1 => (match w with
    | .d x => (fk cf env S1).then env fun u S2 => (match u with
      | .d y => (match keyOfD y with
        | some k => if kvs.length < LIM then .next (env.set i (some (.ownd (putD kvs k x)))) S2 else .stuck
        | none => .stuck)
      | _ => .stuck)
    | _ => .stuck)
  | _ => .stuck) := rfl
@[simp] theorem x_comp2 (vs : List Nat) (t : Tg) (it : SI) (c : ST) (g : SI) : fComp2 vs t it c g cf env S = if vs.all (notOwn env) then (it cf env S).bind fun ds S1 => (compL2 t (c cf) (g cf) (wipeE env vs) ds S1).calm.bind fun xs S2 => if xs.length ≤ LIM then .ok (.d (.list xs)) S2 else .stuck else .stuck := rfl
theorem x_inner (vs : List Nat) (t : Tg) (it : SI) (c : ST) (f : SE) : gInner vs t it c f cf env S = if vs.all (notOwn env) then (it cf env S).calm.bind fun ds S1 => compL t (c cf) (f cf) (wipeE env vs) ds S1 else .stuck := rfl
@[simp] theorem g_sortP (ps : List (Int × Int)) : gSortedP [.d (.list (ps.map pairD))] S = .ok (.d (.list ((sortP ps).map pairD))) S := by
  simp only [gSortedP, pairsOf_map]
@[simp] theorem g_sortDK (kvs : List (Key × D)) : gSortedDK [.ownd kvs] S = (match intKeys kvs with | some ks => if ks.length < 64 then .ok (.d (.list ((sortI ks).map PyData.int))) S else .stuck | none => .stuck) := rfl
/-- two fors, the store as it was -/
theorem compL2_on {α : Type} {t : Tg} {g : EnvQ → Sto → R (List D)} {c : EnvQ → Sto → R Bool} (q : α → D) (h : α → List D) (u : α → EnvQ) : ∀ {xs : List α}, (∀ x ∈ xs, t.set (q x) env = some (u x)) → (∀ x ∈ xs, c (u x) S = .ok true S) → (∀ x ∈ xs, g (u x) S = .ok (h x) S) → compL2 t c g env (xs.map q) S = .ok (xs.flatMap h) S
  | [], _, _, _ => rfl
  | x :: xs, h1, h2, h3 => by
    have ih := compL2_on (t := t) (g := g) (c := c) q h u (xs := xs) (fun y hy => h1 y (by simp [hy])) (fun y hy => h2 y (by simp [hy])) fun y hy => h3 y (by simp [hy])
    simp only [List.map_cons, compL2, h1 x (by simp), h2 x (by simp), h3 x (by simp), calm_ok, R.bind_ok, if_true, ih, List.flatMap_cons]
/-- a test, the store as it was -/
theorem compL_flt {α : Type} {t : Tg} {f : EnvQ → Sto → R W} {c : EnvQ → Sto → R Bool} (q : α → D) (g : α → D) (p : α → Bool) (u : α → EnvQ) : ∀ {xs : List α}, (∀ x ∈ xs, t.set (q x) env = some (u x)) → (∀ x ∈ xs, c (u x) S = .ok (p x) S) → (∀ x ∈ xs, p x = true → f (u x) S = .ok (.d (g x)) S) → compL t c f env (xs.map q) S = .ok ((xs.filter p).map g) S
  | [], _, _, _ => rfl
  | x :: xs, h1, h2, h3 => by
    have ih := compL_flt (t := t) (f := f) (c := c) q g p u (xs := xs) (fun y hy => h1 y (by simp [hy])) (fun y hy => h2 y (by simp [hy])) fun y hy => h3 y (by simp [hy])
    simp only [List.map_cons, compL, h1 x (by simp), h2 x (by simp), calm_ok, R.bind_ok]
    cases hp : p x
    · simp [ih, hp]
    · simp [ih, hp, h3 x (by simp) hp]
end
end Q

namespace Q
open PySem PySem.Spec PyProof.Rows L2
theorem canLayI (xs : List Int) : PyData.canLayAll0 (xs.map PyData.int) = true := by
  induction xs with
  | nil => rfl
  | cons x xs ih => simp [PyData.canLayAll0, PyData.canLay0, ih]
theorem depthI (xs : List Int) : PyData.depthAll (xs.map PyData.int) = 0 := by
  induction xs with
  | nil => rfl
  | cons x xs ih => simp [PyData.depthAll, PyData.depth, ih]
theorem flatI (xs : List Int) : (xs.map PyData.int).all flatD = true := by
  rw [List.all_eq_true]
  intro x hx
  obtain ⟨i, _, rfl⟩ := List.mem_map.mp hx
  rfl
theorem inI (i : Int) (xs : List Int) : inD (.int i) (xs.map PyData.int) = decide (i ∈ xs) := by
  rw [Bool.eq_iff_iff, decide_eq_true_iff]
  unfold inD
  rw [List.any_eq_true]
  constructor
  · rintro ⟨y, hy, e⟩
    obtain ⟨j, hj, rfl⟩ := List.mem_map.mp hy
    have : j = i := by simpa [PyData.eqv] using e
    exact this ▸ hj
  · intro h
    exact ⟨.int i, List.mem_map.mpr ⟨i, h, rfl⟩, by simp [PyData.eqv]⟩
theorem g_inT (S : Sto) (i : Int) (xs : List Int) : gIn (.d (.int i)) (.d (.tuple (xs.map PyData.int))) S = .ok (.d (.bool (decide (i ∈ xs)))) S := by
  have h := flatI xs
  have h2 : flatD (.int i) = true := rfl
  simp only [gIn, h, h2, Bool.and_self, if_true, inI]
theorem enumD_eq {α : Type} (g : α → D) (z : α) : ∀ (xs : List α) (k : Nat), enumD k (xs.map g) = (List.range xs.length).map fun n : Nat => PyData.tuple [.int ((k + n : Nat) : Int), g (xs.getD n z)]
  | [], k => rfl
  | x :: xs, k => by
    rw [List.length_cons, List.range_succ_eq_map]
    simp only [List.map_cons, enumD, enumD_eq g z xs, List.map_map]
    simp
    intro a _
    omega
@[simp] theorem intsOf_map' {α : Type} (p : α → Int) (xs : List α) : intsOf (xs.map fun x => PyData.int (p x)) = some (xs.map p) := intsOf_on p fun _ _ => rfl
@[simp] theorem bools_map' {α : Type} (p : α → Bool) (xs : List α) : bools (xs.map fun x => PyData.bool (p x)) = some (xs.map p) := bools_on p fun _ _ => rfl
theorem cutD_from {α : Type} (xs : List α) (k : Nat) : cutD xs (some (k : Int)) none = xs.drop k := by
  unfold cutD
  rw [HT.sIx_none, HT.sIx_nat]
  by_cases h : k ≤ xs.length
  · rw [Nat.min_eq_left h]
    exact List.take_of_length_le (by simp)
  · rw [Nat.min_eq_right (by omega)]
    simp
    omega
theorem cutD_to {α : Type} (xs : List α) (k : Nat) : cutD xs none (some (k : Int)) = xs.take k := by
  unfold cutD
  rw [HT.sIx_none, HT.sIx_nat]
  by_cases h : k ≤ xs.length
  · rw [Nat.min_eq_left h]; simp
  · rw [Nat.min_eq_right (by omega)]
    simp
    rw [List.take_of_length_le (by omega)]
end Q

namespace Q
open PySem PySem.Spec PyProof.Rows L2
section
variable {cf : CF} {env : EnvQ} {S : Sto}
@[simp] theorem x_rev (f : SE) : fRev f cf env S = (f cf env S).bind fun w S1 => match w with
  | .d (.list xs) => .ok (.d (.list xs.reverse)) S1
  | .d (.tuple xs) => .ok (.d (.tuple xs.reverse)) S1
  | _ => .stuck := rfl
@[simp] theorem x_W (w : W) : fW w cf env S = .ok w S := rfl
@[simp] theorem x_range3 (a : SA) : iRange3 a cf env S = (a cf env S).bind fun ws S1 => match ws with
  | [.d (.int i), .d (.int j), .d (.int c)] => (match rng3 i j c with | some ds => .ok ds S1 | none => .stuck)
  | _ => .stuck := rfl
@[simp] theorem x_lstRg (f : SE) : fLstRg f cf env S = (f cf env S).bind fun w S1 => match w with
  | .d (.int n) => if inR n && decide (n ≤ 16777216) then .ok (.d (.list (rangeD 0 n.toNat))) S1 else .stuck
  | _ => .stuck := rfl
@[simp] theorem x_tupRg (f : SE) : fTupRg f cf env S = (f cf env S).bind fun w S1 => match w with
  | .d (.int n) => if inR n && decide (n ≤ 16777216) then .ok (.d (.tuple (rangeD 0 n.toNat))) S1 else .stuck
  | _ => .stuck := rfl
@[simp] theorem x_zipS (a : SA) : iZipS a cf env S = (a cf env S).bind fun ws S1 => match ws with
  | [.d (.tuple xs), .d (.tuple ys)] => if xs.length = ys.length then .ok (zipD xs ys) S1 else .stuck
  | _ => .stuck := rfl
@[simp] theorem g_addT (xs ys : List D) : gAdd (.d (.tuple xs)) (.d (.tuple ys)) S = if xs.length + ys.length ≤ LIM then .ok (.d (.tuple (xs ++ ys))) S else .stuck := rfl
@[simp] theorem g_addL (xs ys : List D) : gAdd (.d (.list xs)) (.d (.list ys)) S = if xs.length + ys.length ≤ LIM then .ok (.d (.list (xs ++ ys))) S else .stuck := rfl
end
@[simp] theorem at0 {α : Type} (x : α) (xs : List α) : atI (x :: xs) 0 = some x := atI_nat _ 0
@[simp] theorem at1 {α : Type} (x y : α) (xs : List α) : atI (x :: y :: xs) 1 = some y := atI_nat _ 1
@[simp] theorem at2 {α : Type} (x y z : α) (xs : List α) : atI (x :: y :: z :: xs) 2 = some z := atI_nat _ 2
@[simp] theorem at3 {α : Type} (x y z w : α) (xs : List α) : atI (x :: y :: z :: w :: xs) 3 = some w := atI_nat _ 3
@[simp] theorem cut1 {α : Type} (x : α) (xs : List α) : cutD (x :: xs) (some 1) none = xs := cutD_from (x :: xs) 1
@[simp] theorem cut2 {α : Type} (x y : α) (xs : List α) : cutD (x :: y :: xs) (some 2) none = xs := cutD_from (x :: y :: xs) 2
@[simp] theorem cutTo1 {α : Type} (x : α) (xs : List α) : cutD (x :: xs) none (some 1) = [x] := cutD_to (x :: xs) 1
@[simp] theorem cutTo2 {α : Type} (x y : α) (xs : List α) : cutD (x :: y :: xs) none (some 2) = [x, y] := cutD_to (x :: y :: xs) 2
@[simp] theorem cutTo3 {α : Type} (x y z : α) (xs : List α) : cutD (x :: y :: z :: xs) none (some 3) = [x, y, z] := cutD_to (x :: y :: z :: xs) 3
structure Ly (k : Nat) (d : D) : Prop where
  lay : PyData.canLay0 d = true
  dp : PyData.depth d ≤ k
theorem Ly.mono {k l : Nat} {d : D} (h : Ly k d) (q : k ≤ l) : Ly l d := ⟨h.lay, Nat.le_trans h.dp q⟩
theorem Ly.ok {k : Nat} {d : D} (h : Ly k d) (q : k ≤ 64) : okEq d = true := by
  unfold okEq
  rw [h.lay, Bool.true_and]
  exact decide_eq_true (Nat.le_trans h.dp q)
theorem ly_int (i : Int) : Ly 0 (.int i) := ⟨by simp [PyData.canLay0], by simp [PyData.depth]⟩
theorem ly_all {k : Nat} : ∀ {xs : List D}, (∀ x ∈ xs, Ly k x) → PyData.canLayAll0 xs = true ∧ PyData.depthAll xs ≤ k
  | [], _ => by simp [PyData.canLayAll0, PyData.depthAll]
  | x :: xs, h => by
    obtain ⟨h1, h2⟩ := ly_all (xs := xs) fun y hy => h y (by simp [hy])
    have hx := h x (by simp)
    refine ⟨by simp [PyData.canLayAll0, hx.lay, h1], ?_⟩
    have := hx.dp
    simp only [PyData.depthAll]
    omega
theorem ly_tup {k : Nat} {xs : List D} (h : ∀ x ∈ xs, Ly k x) : Ly (k + 1) (.tuple xs) := by
  obtain ⟨h1, h2⟩ := ly_all h
  exact ⟨by simp [PyData.canLay0, h1], by simp only [PyData.depth]; omega⟩
theorem ly_ints (xs : List Int) : Ly 1 (.tuple (xs.map PyData.int)) := ly_tup fun x hx => by
  obtain ⟨i, _, rfl⟩ := List.mem_map.mp hx
  exact ly_int i
theorem eqv_refl {k : Nat} {a : D} (h : Ly k a) : PyData.eqv a a = true := PySem.SeqAt.eqv_refl a h.lay
mutual
def noB : D → Bool
  | .none => true
  | .bool _ => false
  | .int _ => true
  | .str _ => true
  | .list xs => noBs xs
  | .tuple xs => noBs xs
  | .dict _ => false
def noBs : List D → Bool
  | [] => true
  | x :: xs => noB x && noBs xs
end
mutual
theorem eqv_eq : ∀ {a b : D}, noB a = true → noB b = true → PyData.eqv a b = true → a = b
  | .none, b, _, h2, e => by cases b <;> simp [PyData.eqv, noB] at * 
  | .bool _, _, h, _, _ => by simp [noB] at h
  | .int i, b, _, h2, e => by cases b <;> simp [PyData.eqv, noB] at * <;> assumption
  | .str i, b, _, h2, e => by cases b <;> simp [PyData.eqv, noB] at * <;> assumption
  | .list xs, b, h, h2, e => by
    cases b <;> simp only [PyData.eqv, noB] at * <;> try contradiction
    rw [eqvs_eq h h2 e]
  | .tuple xs, b, h, h2, e => by
    cases b <;> simp only [PyData.eqv, noB] at * <;> try contradiction
    rw [eqvs_eq h h2 e]
  | .dict _, _, h, _, _ => by simp [noB] at h
theorem eqvs_eq : ∀ {a b : List D}, noBs a = true → noBs b = true → PyData.eqvAll a b = true → a = b
  | [], [], _, _, _ => rfl
  | [], _ :: _, _, _, e => by simp [PyData.eqvAll] at e
  | _ :: _, [], _, _, e => by simp [PyData.eqvAll] at e
  | x :: xs, y :: ys, h, h2, e => by
    simp only [noBs, Bool.and_eq_true] at h h2
    simp only [PyData.eqvAll, Bool.and_eq_true] at e
    rw [eqv_eq h.1 h2.1 e.1, eqvs_eq h.2 h2.2 e.2]
end
theorem eqv_iff {k l : Nat} {a b : D} (ha : Ly k a) (n1 : noB a = true) (n2 : noB b = true) : PyData.eqv a b = true ↔ a = b := ⟨eqv_eq n1 n2, fun e => e ▸ eqv_refl ha⟩
theorem noBs_all : ∀ {xs : List D}, (∀ x ∈ xs, noB x = true) → noBs xs = true
  | [], _ => rfl
  | x :: xs, h => by simp [noBs, h x (by simp), noBs_all (xs := xs) fun y hy => h y (by simp [hy])]
theorem noB_ints (xs : List Int) : noB (.tuple (xs.map PyData.int)) = true := by
  simp only [noB]
  exact noBs_all fun x hx => by obtain ⟨i, _, rfl⟩ := List.mem_map.mp hx; rfl
end Q

namespace Q
open PySem PySem.Spec PyProof.Rows L2
section
variable {prog : Program} {w : World}
/-- what hash a value has, and how many tokens that takes, as long as the heap stays -/
def HashOf (prog : Program) (w : World) (A : Around) (h : Heap) (v : Value) (n : Int) (d : Nat) : Prop :=
  ∀ (E : Value → Shared → Prop) (s : Shared) (Q : Int → Shared → Prop), s.heap = h → Q n { s with toks := s.toks + d } → wpAny (model prog w) A (pyHash v) Q E s
inductive HashesOf (prog : Program) (w : World) (A : Around) (h : Heap) : List Value → List Int → Nat → Prop
  | nil : HashesOf prog w A h [] [] 0
  | cons {v : Value} {vs : List Value} {n : Int} {ns : List Int} {d e : Nat} : HashOf prog w A h v n d → HashesOf prog w A h vs ns e → HashesOf prog w A h (v :: vs) (n :: ns) (d + e)
theorem hash_int (A : Around) (h : Heap) (k : Int) (t : Tok) : HashOf prog w A h (.int k t) (hashInt k) 1 := fun E s Q _ q => wpAny_pyHash_int q
theorem hash_tup {A : Around} {h : Heap} {a : Addr} {items : Array Value} {ns : List Int} {d : Nat} (ht : IsTup h a items) (hu : A.units < cLine) (hs : HashesOf prog w A.in1 h items.toList ns d) : HashOf prog w A h (.ref a) (reduceHash (Builtin.Tuple.tupleHashOf ns)) (d + 1) := by
  intro E s Q eh q
  subst eh
  show wpAny (model prog w) A (pyHashByItsType (.ref a)) Q E s
  refine PySem.W.pyHash_slot (T := "tuple") ht.typeIs PySem.F.slot_tuple_hash PySem.F.entry_tuple_hash (PySem.F.args_tuple_hash_1 _) (by decide) (.inr hu) ?_
  show wpAny _ _ (Builtin.Tuple.tupleItemsOf (.ref a) >>= _) _ _ _
  refine wpAny_bind (tupleItemsOf_ ht ?_)
  refine wpAny_bind (PySem.MeetsSeq2.wpAny_forIn_array (I := fun rest (b : Array Int) s' => ∃ (ms ns' : List Int) (e : Nat), b.toList = ms ∧ ms ++ ns' = ns ∧ HashesOf prog w A.in1 s.heap rest ns' e ∧ s' = { s with toks := s.toks + (d - e) } ∧ e ≤ d) _ _ ?_ ?_ items #[] ?_)
  · rintro x rest b s' ⟨ms, ns', e, hb, hn, hh, rfl, he⟩
    cases hh with
    | cons h1 h2 =>
      rename_i n ns'' d1 e1
      refine wpAny_bind (h1 E _ _ rfl ?_)
      refine wpAny_pure ?_
      exact ⟨ms ++ [n], ns'', e1, by simp [hb], by simpa using hn, h2, by congr 1; simp only; omega, by omega⟩
  · rintro b s' ⟨ms, ns', e, hb, hn, hh, rfl, he⟩
    cases hh
    have en : b.toList = ns := by rw [hb, ← hn]; simp
    show wpAny _ _ (retInt (Builtin.Tuple.tupleHashOf b.toList)) _ _ _
    rw [en]
    show wpAny _ _ (mkInt _ >>= _) _ _ _
    refine wpAny_bind (wpAny_mkInt ?_)
    exact wpAny_pure ⟨_, _, rfl, q⟩
  · exact ⟨[], ns, d, rfl, rfl, hs, by simp, Nat.le_refl _⟩
/-- whose == runs no code of one's own -/
def QuietAt (prog : Program) (w : World) (s : Shared) (n : Nat) (v : Value) : Prop := ∀ (A : Around) (E : Value → Shared → Prop) (Q : Bool → Shared → Prop), Q true s → wpAny (model prog w) A (eqIsQuiet n v) Q E s
theorem quiet_int (s : Shared) (n : Nat) (k : Int) (t : Tok) : QuietAt prog w s n (.int k t) := by
  intro A E Q q
  unfold eqIsQuiet
  exact wpAny_pure q
theorem quiet_tup {s : Shared} {n : Nat} {a : Addr} {items : Array Value} (ht : IsTup s.heap a items) (hq : ∀ v ∈ items.toList, QuietAt prog w s n v) : QuietAt prog w s (n + 1) (.ref a) := by
  intro A E Q q
  unfold eqIsQuiet
  refine wpAny_bind (wpAny_specialOf (T := "tuple") (r := some (.builtin "tuple.__eq__")) ht.typeIs PySem.F.slot_tuple_eq.lookup ?_)
  refine wpAny_bind (wpAny_isInstance (T := "tuple") (b := true) ht.typeIs (by kernel_rfl) ?_)
  obtain ⟨o, e0, e1, m, e2⟩ := ht
  show wpAny _ _ (seqItems? (.ref a) >>= _) _ _ _
  refine wpAny_bind (wpAny_seqItems e0 e2 ?_)
  refine wpAny_bind (PySem.MeetsSeq2.wpAny_forIn_array (I := fun rest (b : Option Bool × Unit) s' => s' = s ∧ b.1 = none ∧ ∀ v ∈ rest, QuietAt prog w s n v) _ _ ?_ ?_ items (none, ()) ⟨rfl, rfl, hq⟩)
  · rintro x rest b s' ⟨rfl, hb, hr⟩
    refine wpAny_bind (hr x (by simp) A E _ ?_)
    exact wpAny_pure ⟨rfl, rfl, fun v hv => hr v (by simp [hv])⟩
  · rintro ⟨b, u⟩ s' ⟨rfl, hb, -⟩
    simp only at hb
    subst hb
    exact wpAny_pure q
end
end Q

namespace Q
open PySem PySem.Spec PyProof.Rows L2
theorem enc1_inj : ∀ {a b : Int ⊕ List Int}, enc1 a = enc1 b → a = b
  | .inl i, .inl j, h => by simp [enc1] at h; rw [h]
  | .inl i, .inr ns, h => by simp [enc1] at h
  | .inr ns, .inl j, h => by simp [enc1] at h
  | .inr ns, .inr ms, h => by
    simp only [enc1, PyData.tuple.injEq] at h
    rw [List.map_inj_right (fun x y e => by cases e; rfl)] at h
    rw [h]
theorem encN_inj {a b : NK} (h : encN a = encN b) : a = b := by
  simp only [encN, PyData.tuple.injEq] at h
  rwa [List.map_inj_right (fun x y e => enc1_inj e)] at h
theorem nd_cons {x : D} {xs : List D} (h : PyData.hasDictAll (x :: xs) = false) : x.hasDict = false ∧ PyData.hasDictAll xs = false := by simpa [PyData.hasDictAll] using h
section
variable {h h' : Heap}
mutual
theorem reads_det : ∀ {v : Value} {d d' : D} {as bs : List Addr}, d.hasDict = false → Reads h v d as → Reads h v d' bs → d = d'
  | _, _, _, _, _, _, .none, r => by cases r; rfl
  | _, _, _, _, _, _, .bool b, r => by cases r; rfl
  | _, _, _, _, _, _, .int i t, r => by cases r; rfl
  | _, _, _, _, _, _, .str x t, r => by cases r; rfl
  | _, _, _, _, _, nd, .list e1 e2 e3 r1, r => by
    cases r with
    | list f1 f2 f3 r2 =>
      rw [e1] at f1; cases f1; rw [e3] at f3; cases f3
      rw [readsAll_det (by simpa [PyData.hasDict] using nd) r1 r2]
    | tuple f1 f2 f3 r2 => rw [e1] at f1; cases f1; rw [e2] at f2; exact absurd f2 (by decide)
    | dict f1 f2 f3 _ _ => rw [e1] at f1; cases f1; rw [e2] at f2; exact absurd f2 (by decide)
  | _, _, _, _, _, nd, .tuple e1 e2 e3 r1, r => by
    cases r with
    | list f1 f2 f3 r2 => rw [e1] at f1; cases f1; rw [e2] at f2; exact absurd f2 (by decide)
    | tuple f1 f2 f3 r2 =>
      rw [e1] at f1; cases f1; rw [e3] at f3; cases f3
      rw [readsAll_det (by simpa [PyData.hasDict] using nd) r1 r2]
    | dict f1 f2 f3 _ _ => rw [e1] at f1; cases f1; rw [e2] at f2; exact absurd f2 (by decide)
  | _, _, _, _, _, nd, .dict _ _ _ _ _, _ => by simp [PyData.hasDict] at nd
theorem readsAll_det : ∀ {vs : List Value} {ds ds' : List D} {as bs : List Addr}, PyData.hasDictAll ds = false → ReadsAll h vs ds as → ReadsAll h vs ds' bs → ds = ds'
  | _, _, _, _, _, _, .nil, r => by cases r; rfl
  | _, _, _, _, _, nd, .cons r1 t1, r => by
    cases r with
    | cons r2 t2 =>
      have nd' := nd_cons nd
      rw [reads_det nd'.1 r1 r2, readsAll_det nd'.2 t1 t2]
end
mutual
theorem reads_keep {d : Addr} {o : Obj} {es : Array DictEntry} {ep : Nat} (hd : h.get? d = some o) (ho : o.data = .dict es ep) (k : Heap.SameBut d h h') : ∀ {v : Value} {x : D} {as : List Addr}, x.hasDict = false → Reads h v x as → Reads h' v x as
  | _, _, _, _, .none => .none
  | _, _, _, _, .bool b => .bool b
  | _, _, _, _, .int i t => .int i t
  | _, _, _, _, .str x t => .str x t
  | _, _, _, nd, .list (a := a) e1 e2 e3 r => by
    refine .list ?_ e2 e3 (readsAll_keep hd ho k (by simpa [PyData.hasDict] using nd) r)
    rw [k.2 a fun e => by subst e; rw [hd] at e1; cases e1; rw [ho] at e3; cases e3]
    exact e1
  | _, _, _, nd, .tuple (a := a) e1 e2 e3 r => by
    refine .tuple ?_ e2 e3 (readsAll_keep hd ho k (by simpa [PyData.hasDict] using nd) r)
    rw [k.2 a fun e => by subst e; rw [hd] at e1; cases e1; rw [ho] at e3; cases e3]
    exact e1
  | _, _, _, nd, .dict _ _ _ _ _ => by simp [PyData.hasDict] at nd
theorem readsAll_keep {d : Addr} {o : Obj} {es : Array DictEntry} {ep : Nat} (hd : h.get? d = some o) (ho : o.data = .dict es ep) (k : Heap.SameBut d h h') : ∀ {vs : List Value} {xs : List D} {as : List Addr}, PyData.hasDictAll xs = false → ReadsAll h vs xs as → ReadsAll h' vs xs as
  | _, _, _, _, .nil => .nil
  | _, _, _, nd, .cons r t => by
    have nd' := nd_cons nd
    exact .cons (reads_keep hd ho k nd'.1 r) (readsAll_keep hd ho k nd'.2 t)
end
end
theorem ints_noDict (ns : List Int) : PyData.hasDictAll (ns.map PyData.int) = false := by
  induction ns with
  | nil => rfl
  | cons n ns ih => simp [PyData.hasDictAll, PyData.hasDict, ih]
theorem enc1_noDict (a : Int ⊕ List Int) : (enc1 a).hasDict = false := by
  cases a with
  | inl i => rfl
  | inr ns => simp only [enc1, PyData.hasDict]; exact ints_noDict ns
theorem encN_noDict (ks : NK) : (encN ks).hasDict = false := by
  simp only [encN, PyData.hasDict]
  induction ks with
  | nil => rfl
  | cons k ks ih => simp [PyData.hasDictAll, enc1_noDict, ih]
section
variable {prog : Program} {w : World} {A : Around} {h : Heap}
def draw1 : Int ⊕ List Int → Nat
  | .inl _ => 1
  | .inr ns => ns.length + 1
def drawsN (ks : NK) : Nat := (ks.map draw1).sum + 1
theorem hashes_ints : ∀ {ns : List Int} {vs : List Value} {as : List Addr}, ReadsAll h vs (ns.map PyData.int) as → HashesOf prog w A h vs (ns.map hashInt) ns.length
  | [], _, _, r => by cases r; exact .nil
  | n :: ns, _, _, r => by
    cases r with
    | cons r1 t =>
      cases r1 with
      | int _ tk =>
        have := HashesOf.cons (hash_int (prog := prog) (w := w) A h n tk) (hashes_ints t)
        rw [Nat.add_comm] at this
        exact this
theorem hash_enc1 (hu : A.units < cLine) {a : Int ⊕ List Int} {v : Value} {as : List Addr} (r : Reads h v (enc1 a) as) : HashOf prog w A h v (hash1 a) (draw1 a) := by
  cases a with
  | inl i => cases r with | int _ t => exact hash_int A h i t
  | inr ns => cases r with | tuple e1 e2 e3 t => exact hash_tup ⟨_, e1, e2, _, e3⟩ hu (hashes_ints t)
theorem hashes_enc (hu : A.units < cLine) : ∀ {ks : NK} {vs : List Value} {as : List Addr}, ReadsAll h vs (ks.map enc1) as → HashesOf prog w A h vs (ks.map hash1) (ks.map draw1).sum
  | [], _, _, r => by cases r; exact .nil
  | k :: ks, _, _, r => by
    cases r with
    | cons r1 t => exact HashesOf.cons (hash_enc1 hu r1) (hashes_enc hu t)
theorem hash_encN (hu : A.units < cLine) (hu1 : A.in1.units < cLine) {ks : NK} {a : Addr} {as : List Addr} (r : Reads h (.ref a) (encN ks) as) : HashOf prog w A h (.ref a) (hashN ks) (drawsN ks) := by
  cases r with | tuple e1 e2 e3 t => exact hash_tup ⟨_, e1, e2, _, e3⟩ hu (hashes_enc hu1 t)
theorem quiet_ints {s : Shared} (n : Nat) : ∀ {ns : List Int} {vs : List Value} {as : List Addr}, ReadsAll s.heap vs (ns.map PyData.int) as → ∀ v ∈ vs, QuietAt prog w s n v
  | [], _, _, r => by cases r; simp
  | _ :: ns, _, _, r => by
    cases r with
    | cons r1 t =>
      cases r1 with
      | int _ tk =>
        intro v hv
        rcases List.mem_cons.mp hv with rfl | hv
        · exact quiet_int s n _ tk
        · exact quiet_ints n t v hv
theorem quiet_enc {s : Shared} (n : Nat) : ∀ {ks : NK} {vs : List Value} {as : List Addr}, ReadsAll s.heap vs (ks.map enc1) as → ∀ v ∈ vs, QuietAt prog w s (n + 1) v
  | [], _, _, r => by cases r; simp
  | k :: ks, _, _, r => by
    cases r with
    | cons r1 t =>
      intro v hv
      rcases List.mem_cons.mp hv with rfl | hv
      · cases k with
        | inl i => cases r1 with | int _ tk => exact quiet_int s _ i tk
        | inr ns => cases r1 with | tuple e1 e2 e3 t1 => exact quiet_tup ⟨_, e1, e2, _, e3⟩ (quiet_ints n t1)
      · exact quiet_enc n t v hv
theorem quiet_encN {s : Shared} {ks : NK} {a : Addr} {as : List Addr} (r : Reads s.heap (.ref a) (encN ks) as) : QuietAt prog w s 8 (.ref a) := by
  cases r with | tuple e1 e2 e3 t => exact quiet_tup (n := 7) ⟨_, e1, e2, _, e3⟩ (quiet_enc 6 t)
theorem enc1_ly (a : Int ⊕ List Int) : Ly 1 (enc1 a) := by
  cases a with
  | inl i => exact ⟨(ly_int i).lay, by simp [enc1, PyData.depth]⟩
  | inr ns => exact ly_ints ns
theorem enc1_noB (a : Int ⊕ List Int) : noB (enc1 a) = true := by
  cases a with
  | inl i => rfl
  | inr ns => exact noB_ints ns
theorem encN_ly (ks : NK) : Ly 2 (encN ks) := ly_tup fun x hx => by obtain ⟨k, _, rfl⟩ := List.mem_map.mp hx; exact enc1_ly k
theorem encN_noB (ks : NK) : noB (encN ks) = true := by
  simp only [encN, noB]
  exact noBs_all fun x hx => by obtain ⟨k, _, rfl⟩ := List.mem_map.mp hx; exact enc1_noB k
theorem encN_eqv (x y : NK) : PyData.eqv (encN x) (encN y) = decide (x = y) := by
  rw [Bool.eq_iff_iff, eqv_iff (encN_ly x) (l := 2) (encN_noB x) (encN_noB y), decide_eq_true_iff]
  exact ⟨encN_inj, fun e => by rw [e]⟩
/-- such keys -/
def nestKind (prog : Program) (w : World) : HeapKind prog w NK where
  is := fun h ks a => ∃ as, Reads h (.ref a) (encN ks) as
  hash := hashN
  draws := drawsN
  room := fun A => A.units < cLine ∧ A.in1.units < cLine ∧ A.units + 2 < cLine
  inj := fun ⟨_, r1⟩ ⟨_, r2⟩ => encN_inj (reads_det (encN_noDict _) r1 r2)
  keeps := fun ⟨as, r⟩ hd ho k => ⟨as, reads_keep hd ho k (encN_noDict _) r⟩
  pyHash := fun hr ⟨_, r⟩ q => hash_encN hr.1 hr.2.1 r _ _ _ rfl q
  eqBool := by
    intro A E s x y a b Q hr ⟨_, r1⟩ ⟨_, r2⟩ q
    by_cases e : a = b
    · subst e
      have exy := encN_inj (reads_det (encN_noDict _) r1 r2)
      rw [decide_eq_true exy] at q
      exact SeqAt.EqAt.same _ prog w E Q q
    · have d1 := (encN_ly x).dp
      have rc := SeqAt.rcAt_reads (A := A) r1 r2 (encN_ly x).lay (encN_ly y).lay (by have := hr.2.2; omega)
      rw [encN_eqv] at rc
      exact SeqAt.EqAt.of_refs e rc prog w E Q q
  quiet := fun ⟨_, r⟩ q => quiet_encN r _ _ _ q
end
end Q

namespace Q
open PySem PySem.Spec PyProof.Rows L2
section
variable {X : Cx} {cf : CF} {EX : WX} {F : Addr → Prop} {σ : L2.St} {env : EnvQ} {S S' : Sto} {H H' : Hp} {μ μ' : List Addr} {K : PySem.W.Frag} {mg : Str → Option Value} {e a b c tg : Expr} {es : List Expr} {fa fb : SE} {ha hb : SA} {pos p : Pos} {x : Str}
theorem room_in1 {k : Nat} (hr : Room k X.A) : (nestKind X.prog X.w).room X.A.in1 := by
  have := hr.units
  refine ⟨?_, ?_, ?_⟩ <;> simp [Around.in1] <;> omega
def dec1 : D → Option (Int ⊕ List Int)
  | .int i => some (.inl i)
  | .tuple xs => (intsOf xs).map .inr
  | _ => none
def decs : List D → Option NK
  | [] => some []
  | x :: xs => match dec1 x, decs xs with | some k, some ks => some (k :: ks) | _, _ => none
theorem intsOf_ok : ∀ {xs : List D} {ns : List Int}, intsOf xs = some ns → xs = ns.map PyData.int
  | [], ns, h => by simp only [intsOf, Option.some.injEq] at h; subst h; rfl
  | .int b :: ds, ns, h => by
    simp only [intsOf, Option.map_eq_some_iff] at h
    obtain ⟨ms, h1, rfl⟩ := h
    rw [List.map_cons, ← intsOf_ok h1]
  | .none :: _, _, h => by simp [intsOf] at h
  | .bool _ :: _, _, h => by simp [intsOf] at h
  | .str _ :: _, _, h => by simp [intsOf] at h
  | .list _ :: _, _, h => by simp [intsOf] at h
  | .tuple _ :: _, _, h => by simp [intsOf] at h
  | .dict _ :: _, _, h => by simp [intsOf] at h
theorem dec1_ok {d : D} {k : Int ⊕ List Int} (h : dec1 d = some k) : d = enc1 k := by
  cases d with
  | int i => simp only [dec1, Option.some.injEq] at h; subst h; rfl
  | tuple xs =>
    simp only [dec1, Option.map_eq_some_iff] at h
    obtain ⟨ns, h1, rfl⟩ := h
    simp only [enc1]
    rw [intsOf_ok h1]
  | _ => simp [dec1] at h
theorem decs_ok : ∀ {xs : List D} {ks : NK}, decs xs = some ks → xs = ks.map enc1
  | [], ks, h => by simp only [decs, Option.some.injEq] at h; subst h; rfl
  | x :: xs, ks, h => by
    simp only [decs] at h
    split at h
    · rename_i k ks' h1 h2
      cases h
      rw [List.map_cons, dec1_ok h1, decs_ok h2]
    · cases h
end
end Q

namespace Q
open PySem PySem.Spec PyProof.Rows L2
section
variable {X : Cx} {cf : CF} {EX : WX} {F : Addr → Prop} {σ : L2.St} {env : EnvQ} {S S' : Sto} {H H' : Hp} {μ μ' : List Addr} {K : PySem.W.Frag} {mg : Str → Option Value} {e a b c tg : Expr} {es : List Expr} {fa fb : SE} {ha hb : SA} {pos p : Pos} {x : Str}
theorem Sim.allocM (s : Sim K mg F σ H env S μ) {p : Addr} (n : H p = none) : Sim K mg F σ (upd H p (.ext (NestM p []))) env (S ++ [.dcm []]) (μ ++ [p]) ∧ Ext σ env H μ (upd H p (.ext (NestM p []))) (μ ++ [p]) := by
  have kp : Keep (MM μ σ env) H (MM (μ ++ [p]) σ env) (upd H p (.ext (NestM p []))) := fun a o na e => by
    have ne : a ≠ p := ne_of_none e n
    refine ⟨by rw [upd_ne ne]; exact e, fun h => ?_⟩
    rcases h with h | h
    · rcases List.mem_append.mp h with h | h
      · exact na (.inl h)
      · exact ne (by simpa using h)
    · exact na (.inr h)
  have ex : Ext σ env H μ (upd H p (.ext (NestM p []))) (μ ++ [p]) := ⟨kp, List.prefix_append _ _⟩
  have kn := ex.nn F
  have np : ∀ a, NN F μ σ env a → a ≠ p := fun a h z => s.fresh n (z ▸ h)
  refine ⟨⟨s.len, fun i w e => ?_, s.fin, s.inj, fun i a h m => ?_, ⟨?_, ?_, fun k ob e => ?_⟩, fun a f => ?_, fun a f h => ?_⟩, ex⟩
  · obtain ⟨v, hv, r⟩ := s.slot i w e
    refine ⟨v, hv, ?_⟩
    by_cases po : w.isOwn = true
    · obtain ⟨b, ob, rfl, hb, tb⟩ := own_or_plain r po
      exact (tb.keep kn).rw (by rw [upd_ne (ne_of_none hb n)]; exact hb)
    · have pl : w.plain = true := by
        have fi := s.fin i w e
        unfold W.fine at fi
        simpa [po] using fi
      exact RW.keep kn ex.pre r pl
  · rcases List.mem_append.mp m with m | m
    · exact s.apart i a h m
    · exact np a (.inl (.inr ⟨i, h⟩)) (by simpa using m)
  · rw [List.length_append, List.length_append, s.st.len]
    rfl
  · refine List.nodup_append.mpr ⟨s.st.nd, by simp, fun a h1 b h2 z => ?_⟩
    subst z
    exact np a (.inl (.inl h1)) (by simpa using h2)
  · by_cases hk : k < S.length
    · rw [List.getElem?_append_left hk] at e
      obtain ⟨b, hb, r⟩ := s.st.obj k ob e
      refine ⟨b, pre_get ex.pre hb, ?_⟩
      cases r with
      | lst h t' => exact .lst (by rw [upd_ne (ne_of_none h n)]; exact h) (t'.keep kn)
      | ins g h m t' pl => exact .ins g (by rw [upd_ne (ne_of_none h n)]; exact h) m (RWs.keep kn ex.pre t' pl) pl
      | dct h t' => exact .dct (by rw [upd_ne (ne_of_none h n)]; exact h) fun e he => (t' e he).keep kn
      | dcm h t' => exact .dcm (by rw [upd_ne (ne_of_none h n)]; exact h) (t'.keep kn)
      | tab h0 t' => exact .tab h0 (t'.keep (fun h => by rw [upd_ne (ne_of_none h n)]; exact h) kn)
    · rw [List.getElem?_append_right (by omega)] at e
      have k0 : k - S.length = 0 := by
        have := (List.getElem?_eq_some_iff.mp e).1
        simp at this
        omega
      rw [k0] at e
      simp at e
      subst e
      refine ⟨p, ?_, .dcm (xs := []) upd_same .nil⟩
      rw [List.getElem?_append_right (by rw [s.st.len]; omega), s.st.len, k0]
      rfl
  · obtain ⟨u, hu⟩ := s.ftr a f
    exact ⟨u, by rw [upd_ne (ne_of_none hu n)]; exact hu⟩
  · rcases h with h | h
    · rcases List.mem_append.mp h with h | h
      · exact s.fdis a f (.inl h)
      · exact np a (.inr f) (by simpa using h)
    · exact s.fdis a f (.inr h)
theorem pe_newM : PE X (.Dict [] [] pos) (fun _ H Q => ∀ p, H p = none → Q (.ref p) (upd H p (.ext (NestM p [])))) := by
  constructor
  intro pins s σ H Q I h
  refine wpAny_Dict_empty ⟨.ref s.heap.objs.size, upd H s.heap.objs.size (.ext (NestM s.heap.objs.size [])), I.laid (fun b o q => Heap.get?_push_of_some _ q) (Nat.le_refl _) ?_, rfl, h _ (HOk.fresh I.hok (Nat.le_refl _))⟩
  have e := Heap.get?_push_size s.heap (o := { cls := .type "dict", data := .dict #[] }) rfl
  refine ⟨⟨?_, by simp, _, #[], _, e, ⟨rfl, rfl, rfl⟩, rfl, rfl⟩, ⟨_, e⟩, ?_⟩
  · exact beq_eq_false_iff_ne.mpr (Nat.ne_of_gt I.big)
  · rintro h1 h2 ⟨a1, a2, o, ar, ep, a3, a4, a5, a6⟩ k
    exact ⟨a1, a2, o, ar, ep, k o a3, a4, a5, a6⟩
def fNewM : SE := fun _ _ S => .ok (.ref S.length) (S ++ [.dcm []])
theorem me_newM : ME X cf EX (.Dict [] [] pos) fNewM :=
  PE.weak pe_newM fun σ H Q ⟨env, S, μ, F, s, q⟩ p n => by
    obtain ⟨s2, x2⟩ := s.allocM n
    refine q _ _ s2 x2 _ (.ref ?_)
    rw [← s.st.len, List.getElem?_append_right (Nat.le_refl _)]
    simp
def getM (ds : List (NK × D)) (k : NK) : Option D := (ds.find? fun x => decide (x.1 = k)).map (·.2)
def putM (ds : List (NK × D)) (k : NK) (d : D) : List (NK × D) := if (getM ds k).isSome then ds.map (fun x => if x.1 = k then (x.1, d) else x) else ds ++ [(k, d)]
theorem kvn_len {N : Addr → Prop} : ∀ {xs : List (NK × Addr × Value)} {ds : List (NK × D)}, KvN K H N xs ds → xs.length = ds.length
  | _, _, .nil => rfl
  | _, _, .cons _ _ _ t => by rw [List.length_cons, List.length_cons, kvn_len t]
theorem kvn_keys {N : Addr → Prop} : ∀ {xs : List (NK × Addr × Value)} {ds : List (NK × D)}, KvN K H N xs ds → ∀ x ∈ xs, Dn K H N (.ref x.2.1) (encN x.1)
  | _, _, .nil, _, h => by cases h
  | _, _, .cons a _ _ t, x, h => by
    rcases List.mem_cons.mp h with rfl | h
    · exact a
    · exact kvn_keys t x h
theorem kvn_at {N : Addr → Prop} (k : NK) : ∀ {xs : List (NK × Addr × Value)} {ds : List (NK × D)}, KvN K H N xs ds → (atKey xs k = none ∧ getM ds k = none) ∨ ∃ ka u v d, atKey xs k = some (ka, u) ∧ getM ds k = some d ∧ RelV v u ∧ Dn K H N v d
  | _, _, .nil => .inl ⟨rfl, rfl⟩
  | _, _, .cons (k := k1) (ka := ka) (u := u) (v := v) (d := d) a r g t => by
    by_cases h : k1 = k
    · exact .inr ⟨ka, u, v, d, by simp [atKey, h], by simp [getM, h], r, g⟩
    · rcases kvn_at k t with ⟨h1, h2⟩ | ⟨ka', u', v', d', h1, h2, h3, h4⟩
      · refine .inl ⟨?_, ?_⟩
        · simpa [atKey, h] using h1
        · simpa [getM, h] using h2
      · refine .inr ⟨ka', u', v', d', ?_, ?_, h3, h4⟩
        · simpa [atKey, h] using h1
        · simpa [getM, h] using h2
theorem kvn_map {N : Addr → Prop} {k : NK} {v : V} {u : Value} {d : D} (r : RelV v u) (g : Dn K H N v d) : ∀ {xs : List (NK × Addr × Value)} {ds : List (NK × D)}, KvN K H N xs ds → KvN K H N (xs.map (putAt k u)) (ds.map fun x => if x.1 = k then (x.1, d) else x)
  | _, _, .nil => .nil
  | _, _, .cons (k := k1) a1 r1 g1 t => by
    have ih := kvn_map (k := k) r g t
    rw [List.map_cons, List.map_cons]
    by_cases h : k1 = k
    · simp only [putAt, h, if_true]
      rw [← h]
      subst h
      exact .cons a1 r g (by simpa [putAt] using ih)
    · simp only [putAt, h, if_false]
      exact .cons a1 r1 g1 ih
theorem kvn_app {N : Addr → Prop} : ∀ {xs ys : List (NK × Addr × Value)} {ds es : List (NK × D)}, KvN K H N xs ds → KvN K H N ys es → KvN K H N (xs ++ ys) (ds ++ es)
  | _, _, _, _, .nil, h => h
  | _, _, _, _, .cons a r g t, h => .cons a r g (kvn_app t h)
theorem kvn_put {N : Addr → Prop} {k : NK} {ka : Addr} {v : V} {u : Value} {d : D} {xs : List (NK × Addr × Value)} {ds : List (NK × D)} (t : KvN K H N xs ds) (a : Dn K H N (.ref ka) (encN k)) (r : RelV v u) (g : Dn K H N v d) : KvN K H N (storedH xs k ka u) (putM ds k d) := by
  unfold storedH putM
  rcases kvn_at k t with ⟨h1, h2⟩ | ⟨ka', u', v', d', h1, h2, h3, h4⟩
  · rw [h1, h2]
    exact kvn_app t (.cons a r g .nil)
  · rw [h1, h2]
    exact kvn_map r g t
theorem nest_m {pins : List (Addr × Obj)} {s : Shared} {N : Addr → Prop} {d : Addr} {xs : List (NK × Addr × Value)} {ds : List (NK × D)} (I : Inv X pins σ H s) (hd : H d = some (.ext (NestM d xs))) (hk : KvN X.K H N xs ds) : (d == sysModules) = false ∧ Heap.DictOfH (nestKind X.prog X.w) s.heap d xs := by
  obtain ⟨⟨h1, h2, o, ar, ep, h3, h4, h5, h6⟩, -, -⟩ := I.hok d _ hd
  refine ⟨h1, o, ar, ep, h3, h4, h5, ?_, ?_, h2⟩
  · rw [h6]; rfl
  · intro x hx
    exact Dp.reads I _ _ _ (dn_dp' (kvn_keys hk x hx) (encN_noDict _)) rfl
theorem Sim.storeM (s : Sim K mg F σ H env S μ) {n : Nat} {a : Addr} {es es' : List (NK × Addr × Value)} {ds ds' : List (NK × D)} (hn : μ[n]? = some a) (hS : S[n]? = some (.dcm ds)) (ha : H a = some (.ext (NestM a es))) (t : KvN K H (NN F μ σ env) es' ds') :
    Sim K mg F σ (upd H a (.ext (NestM a es'))) env (S.set n (.dcm ds')) μ ∧ Ext σ env H μ (upd H a (.ext (NestM a es'))) μ := by
  have am : a ∈ μ := List.mem_of_getElem? hn
  have kp : Keep (MM μ σ env) H (MM μ σ env) (upd H a (.ext (NestM a es'))) := fun b o nb q => by
    have ne : b ≠ a := fun z => nb (z ▸ .inl am)
    exact ⟨by rw [upd_ne ne]; exact q, nb⟩
  have ex : Ext σ env H μ (upd H a (.ext (NestM a es'))) μ := ⟨kp, List.prefix_refl _⟩
  have kn := ex.nn F
  refine ⟨⟨s.len, fun i w e => ?_, s.fin, s.inj, s.apart, ⟨by simpa using s.st.len, s.st.nd, fun k ob e => ?_⟩, fun b f => ?_, s.fdis⟩, ex⟩
  · obtain ⟨v, hv, r⟩ := s.slot i w e
    refine ⟨v, hv, ?_⟩
    by_cases po : w.isOwn = true
    · obtain ⟨b, ob, rfl, hb, tb⟩ := own_or_plain r po
      have ne : b ≠ a := fun z => s.apart i b ⟨hv, _, e, po⟩ (z ▸ am)
      exact (tb.keep kn).rw (by rw [upd_ne ne]; exact hb)
    · have pl : w.plain = true := by
        have fi := s.fin i w e
        unfold W.fine at fi
        simpa [po] using fi
      exact RW.keep kn (List.prefix_refl _) r pl
  · rcases set_get e with ⟨z, y⟩ | ⟨nk, z⟩
    · subst z
      cases y
      exact ⟨a, hn, .dcm upd_same (t.keep kn)⟩
    · obtain ⟨b, hb, r⟩ := s.st.obj k ob z
      have ne : b ≠ a := fun y => nk (nd_ix s.st.nd hb (y ▸ hn))
      refine ⟨b, hb, ?_⟩
      cases r with
      | lst h t' => exact .lst (by rw [upd_ne ne]; exact h) (t'.keep kn)
      | ins g h m t' pl => exact .ins g (by rw [upd_ne ne]; exact h) m (RWs.keep kn (List.prefix_refl _) t' pl) pl
      | dct h t' => exact .dct (by rw [upd_ne ne]; exact h) fun e he => (t' e he).keep kn
      | dcm h t' => exact .dcm (by rw [upd_ne ne]; exact h) (t'.keep kn)
      | tab h0 t' => exact .tab h0 (t'.keep (fun h => by rw [upd_ne ne]; exact h) kn)
  · obtain ⟨u, hu⟩ := s.ftr b f
    have ne : b ≠ a := fun z => s.fdis b f (.inl (z ▸ am))
    exact ⟨u, by rw [upd_ne ne]; exact hu⟩
theorem write_m {pins : List (Addr × Obj)} {s : Shared} {d : Addr} {xs xs' : List (NK × Addr × Value)} {h' : Heap} {t : Nat} (I : Inv X pins σ H s) (hd : H d = some (.ext (NestM d xs))) (h1 : (d == sysModules) = false) (hh : h'.DictOfH (nestKind X.prog X.w) d xs') (sb : Heap.SameBut d s.heap h') : Inv X pins σ (upd H d (.ext (NestM d xs'))) { s with heap := h', toks := t } := by
  obtain ⟨o, ar, ep, a1, a2, a3, a4, a5, a6⟩ := hh
  refine I.write (e := d) (by rw [hd]; trivial) (.inl rfl) (fun b u ne e => by rw [sb.2 b ne]; exact e) ⟨o, a1⟩ ?_
  refine ⟨⟨h1, a6, o, ar, ep, a1, a2, a3, ?_⟩, ⟨o, a1⟩, ?_⟩
  · rw [a4]; rfl
  · rintro h1 h2 ⟨b1, b2, o, ar, ep, b3, b4, b5, b6⟩ kk
    exact ⟨b1, b2, o, ar, ep, kk o b3, b4, b5, b6⟩
theorem ndOf {h : Heap} {prog : Program} {w : World} {d : Addr} {xs : List (NK × Addr × Value)} (x : Heap.DictOfH (nestKind prog w) h d xs) : ∃ ob, h.get? d = some ob ∧ ob.dict = none := by
  obtain ⟨o, es, ep, e, c, _⟩ := x
  exact ⟨o, e, c.2.1⟩
def tSetdM (K : PySem.W.Frag) (td ty tx : TE) : TE := fun σ H Q => td σ H fun x H1 => ∃ (d : Addr) (xs0 : List (NK × Addr × Value)) (ds0 : List (NK × D)) (N0 : Addr → Prop), x = .ref d ∧ H1 d = some (.ext (NestM d xs0)) ∧ KvN K H1 N0 xs0 ds0 ∧ ty σ H1 fun y H2 => tx σ H2 fun z H3 => ∃ (N : Addr → Prop) (a : Addr) (xs : List (NK × Addr × Value)) (ds : List (NK × D)) (ks : NK), y = .ref a ∧ H3 d = some (.ext (NestM d xs)) ∧ xs.length ≤ sizeLine ∧ KvN K H3 N xs ds ∧ Dn K H3 N (.ref a) (encN ks) ∧
  (∀ v dd, getM ds ks = some dd → Dn K H3 N v dd → Q v H3) ∧ (getM ds ks = none → ∀ u, RelV z u → Q z (upd H3 d (.ext (NestM d (storedH xs ks a u)))))
theorem pe_setdM {k : Nat} (hr : Room k X.A) {o e f : Expr} {apos cpos : Pos} {td ty tx : TE} (ho : PE X o td) (he : PE X e ty) (hf : PE X f tx) (m : M2 X o "setdefault" apos e f cpos) : PE X (.Call (.Attribute o "setdefault" apos) [e, f] [] cpos) (tSetdM X.K td ty tx) := by
  refine ⟨fun pins s σ H Q I h => ?_⟩
  refine wpAny_Call_method m.base m.few m.line PySem.F.plainAttrs_dict PySem.F.slot_dict_setdefault PySem.F.type_dict_setdefault (thn (ho.run pins s σ H _ I h) fun u s1 ⟨x, H1, I1, rx, d, xs0, ds0, N0, ex, hd, hk, q1⟩ => ?_)
  subst ex
  obtain rfl : u = Value.ref d := rx
  obtain ⟨h1, h2⟩ := nest_m I1 hd hk
  refine ⟨h2.typeIs, fun b eb => by cases eb; exact ndOf h2, ?_⟩
  rw [m.trees]
  refine Calls.callWith_builtin rfl (Calls.evalArgs_plain (Calls.spliced_cons (thn (he.run pins s1 σ H1 _ I1 q1) fun iv s2 ⟨y, H2, I2, ry, q2⟩ =>
    Calls.spliced_cons (thn (hf.run pins s2 σ H2 _ I2 q2) fun fv s3 ⟨z, H3, I3, rz, N, a, xs, ds, ks, ey, hd3, hz, hk3, ha, g1, g2⟩ => Calls.spliced_nil ?_))))
  subst ey
  obtain rfl : iv = Value.ref a := ry
  obtain ⟨h3, h4⟩ := nest_m I3 hd3 hk3
  refine call_setdefault_heap (knd := nestKind X.prog X.w) (k := ks) (hsz := hz) (room_in1 hr) (Dp.reads I3 _ _ _ (dn_dp' ha (encN_noDict _)) rfl) h3 h4 (fun pr hp => ?_) fun hn h' hh sb => ?_
  · rcases kvn_at ks hk3 with ⟨e1, e2⟩ | ⟨ka, u, v, dd, e1, e2, e3, e4⟩
    · rw [e1] at hp; cases hp
    · rw [e1] at hp
      cases hp
      exact ⟨v, H3, I3.tok _, e3, g1 v dd e2 e4⟩
  · rcases kvn_at ks hk3 with ⟨e1, e2⟩ | ⟨ka, u, v, dd, e1, e2, e3, e4⟩
    · exact ⟨z, _, write_m I3 hd3 h3 hh sb, rz, g2 e2 fv rz⟩
    · rw [e1] at hn; cases hn
/-- o.setdefault(k, x), o a dict of the store -/
def fSetdM (o i f : SE) : SE := fun cf env S => (o cf env S).bind fun w S1 => match w with
  | .ref n => (match S1[n]? with
    | some (.dcm _) => (i cf env S1).bind fun u S2 => (f cf env S2).bind fun z S3 => match u, z with
      | .d (.tuple xs), .d dz => (match S3[n]?, decs xs with
        | some (.dcm l), some ks => if l.length ≤ LIM then (match getM l ks with
          | some dd => .ok (.d dd) S3
          | none => .ok (.d dz) (S3.set n (.dcm (putM l ks dz)))) else .stuck
        | _, _ => .stuck)
      | _, _ => .stuck
    | _ => .stuck)
  | _ => .stuck
theorem me_setdM {k : Nat} (hr : Room k X.A) {o e f : Expr} {fo fi fx : SE} {apos cpos : Pos} (ho : ME X cf EX o fo) (he : ME X cf EX e fi) (hf : ME X cf EX f fx) (m : M2 X o "setdefault" apos e f cpos := by exact ⟨rfl, rfl, rfl, rfl⟩) : ME X cf EX (.Call (.Attribute o "setdefault" apos) [e, f] [] cpos) (fSetdM fo fi fx) := by
  refine PE.weak (pe_setdM hr ho he hf m) fun σ H Q ⟨env, S, μ, F, s, q⟩ => ⟨env, S, μ, F, s, (Post.bind q).mono fun w S1 H1 μ1 s1 x1 q1 v rv => ?_⟩
  split at q1
  · rename_i n
    cases rv with
    | ref hn =>
      split at q1
      · rename_i l0 hS
        obtain ⟨d, hd, ro⟩ := s1.st.obj _ _ hS
        rw [hn] at hd
        cases hd
        generalize hll : O.dcm l0 = ob at ro
        cases ro with
        | lst _ _ => cases hll
        | ins _ _ _ _ _ => cases hll
        | dct _ _ => cases hll
        | tab _ _ => cases hll
        | @dcm xs ds hx hk =>
          cases hll
          refine ⟨_, xs, _, _, rfl, hx, hk, env, S1, μ1, F, s1, (Post.bind q1).mono fun u S2 H2 μ2 s2 x2 q2 v2 rv2 => ?_⟩
          refine ⟨env, S2, μ2, F, s2, (Post.bind q2).mono fun z S3 H3 μ3 s3 x3 q3 v3 rv3 => ?_⟩
          have hn3 := pre_get (x2.pre.trans x3.pre) hn
          split at q3
          · rename_i ys dz
            split at q3
            · rename_i l ks hS3 hks
              split at q3
              · rename_i hlim
                obtain ⟨d3, hd3, ro3⟩ := s3.st.obj _ _ hS3
                rw [hn3] at hd3
                cases hd3
                have ex := decs_ok hks
                subst ex
                generalize hll : O.dcm l = ob at ro3
                cases ro3 with
                | lst _ _ => cases hll
                | ins _ _ _ _ _ => cases hll
                | dct _ _ => cases hll
                | tab _ _ => cases hll
                | @dcm xs3 ds3 hx3 hk3 =>
                  cases hll
                  cases rv2 with
                  | d rk =>
                    cases rk with
                    | @tup ka _ _ r1 t1 =>
                      have rk3 : Dn X.K H3 (NN F μ3 σ env) (.ref ka) (encN ks) := Dn.keep (x3.nn F) (.tup r1 t1)
                      refine ⟨_, ka, xs3, l, ks, rfl, hx3, by rw [← lim_line, kvn_len hk3]; exact hlim, hk3, rk3, fun v dd e1 g1 => ?_, fun e1 u ru => ?_⟩
                      · rw [e1] at q3
                        exact q3 H3 μ3 s3 (Ext.refl _ _ _ _) _ (.d g1)
                      · rw [e1] at q3
                        cases rv3 with
                        | d rd =>
                          obtain ⟨s4, x4⟩ := s3.storeM (es' := storedH xs3 ks ka u) (ds' := putM l ks dz) hn3 hS3 hx3 (kvn_put hk3 rk3 ru rd)
                          exact q3 _ μ3 s4 x4 _ (.d (Dn.keep (x4.nn F) rd))
              · exact q3.elim
            · exact q3.elim
          · exact q3.elim
      · exact q1.elim
  · exact q1.elim
def rInM (K : PySem.W.Frag) : R2 := fun x y H Q => ∃ (N : Addr → Prop) (a d : Addr) (xs : List (NK × Addr × Value)) (ds : List (NK × D)) (ks : NK), x = .ref a ∧ y = .ref d ∧ H d = some (.ext (NestM d xs)) ∧ KvN K H N xs ds ∧ Dn K H N (.ref a) (encN ks) ∧ Q (.bl (getM ds ks).isSome) H
theorem op_inM {k : Nat} (hr : Room k X.A) : OpR X (compareOp .In) (rInM X.K) := by
  rintro pins s σ H x y v u Q I rx ry ⟨N, a, d, xs, ds, ks, rfl, rfl, hd, hk, ha, q⟩
  cases rx; cases ry
  obtain ⟨h1, h2⟩ := nest_m I hd hk
  refine wpAny_in_heap (knd := nestKind X.prog X.w) (k := ks) (room_in1 hr) (Dp.reads I _ _ _ (dn_dp' ha (encN_noDict _)) rfl) h1 h2 ?_
  rcases kvn_at ks hk with ⟨e1, e2⟩ | ⟨ka, u, v, dd, e1, e2, e3, e4⟩
  · rw [e1]
    rw [e2] at q
    exact ⟨.bl false, H, I.tok _, rfl, q⟩
  · rw [e1]
    rw [e2] at q
    exact ⟨.bl true, H, I.tok _, rfl, q⟩
def gInM : G2
  | .d (.tuple xs), .ref n, S => (match S[n]?, decs xs with
    | some (.dcm l), some ks => .ok (.d (.bool (getM l ks).isSome)) S
    | _, _ => .stuck)
  | x, y, S => gIn x y S
theorem cm_inM {k : Nat} (hr : Room k X.A) : Cm X EX .In gInM := by
  obtain ⟨⟨r0, h0, o0⟩, p0⟩ := (cm_in hr : Cm X EX .In gIn)
  refine ⟨⟨_, OpR.or (op_inM hr) h0, ?_⟩, ?_⟩
  · intro F σ env S H μ x y w u Q s rx pw ry pu q
    unfold gInM at q
    split at q
    · rename_i xs n
      split at q
      · rename_i l ks e1 e2
        cases rx with
        | d hx =>
          cases ry with
          | ref hm =>
            obtain ⟨d, hd, ro⟩ := s.st.obj _ _ e1
            rw [hm] at hd
            cases hd
            have ex := decs_ok e2
            subst ex
            generalize hll : O.dcm l = ob at ro
            cases ro with
            | lst _ _ => cases hll
            | ins _ _ _ _ _ => cases hll
            | dct _ _ => cases hll
            | tab _ _ => cases hll
            | @dcm ys ds he hk =>
              cases hll
              cases hx with
              | tup h1 t1 => exact .inl ⟨_, _, _, ys, l, ks, rfl, rfl, he, hk, .tup h1 t1, post_here (EX := EX) s (.d (.bl _)) q⟩
      · exact q.elim
    · exact .inr (o0 F σ env S H μ x y w u Q s rx pw ry pu q)
  · intro w u S h
    unfold gInM
    split
    · simp [W.plain] at h
    · exact p0 _ _ _ h
def tAtM (K : PySem.W.Frag) (td ty : TE) : TE := fun σ H Q => td σ H fun x H1 => ty σ H1 fun y H2 => ∃ (N : Addr → Prop) (a d : Addr) (xs : List (NK × Addr × Value)) (ds : List (NK × D)) (ks : NK) (dd : D), x = .ref d ∧ y = .ref a ∧ H2 d = some (.ext (NestM d xs)) ∧ KvN K H2 N xs ds ∧ Dn K H2 N (.ref a) (encN ks) ∧ getM ds ks = some dd ∧ ∀ v, Dn K H2 N v dd → Q v H2
theorem pe_atM {k : Nat} (hr : Room k X.A) {o i : Expr} {td ty : TE} (ho : PE X o td) (hi : PE X i ty) (hs : NoSl i) : PE X (.Subscript o i pos) (tAtM X.K td ty) := by
  refine ⟨fun pins s σ H Q I h => ?_⟩
  refine subD_of PySem.F.slot_dict_getitem.lookup hs (thn (ho.run pins s σ H _ I h) fun u s1 ⟨x, H1, I1, rx, q1⟩ => thn (hi.run pins s1 σ H1 _ I1 q1) fun iv s2 ⟨y, H2, I2, ry, N, a, d, xs, ds, ks, dd, ex, ey, hd, hk, ha, hg, q2⟩ => ?_)
  subst ex
  subst ey
  obtain rfl : u = Value.ref d := rx
  obtain rfl : iv = Value.ref a := ry
  obtain ⟨h1, h2⟩ := nest_m I2 hd hk
  rcases kvn_at ks hk with ⟨e1, e2⟩ | ⟨ka, u, v, d', e1, e2, e3, e4⟩
  · rw [e2] at hg; cases hg
  · rw [e2] at hg
    cases hg
    exact ⟨h2.typeIs, wpAny_getItem_heap (knd := nestKind X.prog X.w) (k := ks) (room_in1 hr) (Dp.reads I2 _ _ _ (dn_dp' ha (encN_noDict _)) rfl) h2 e1 ⟨v, H2, I2.tok _, e3, q2 v e4⟩⟩
/-- o[i], o a dict of the store -/
def fAtM (o i : SE) : SE := fun cf env S => (o cf env S).bind fun w S1 => match w with
  | .ref n => (i cf env S1).bind fun u S2 => (match u with
    | .d (.tuple xs) => (match S2[n]?, decs xs with
      | some (.dcm l), some ks => (match getM l ks with
        | some dd => .ok (.d dd) S2
        | none => .stuck)
      | _, _ => .stuck)
    | _ => .stuck)
  | _ => .stuck
theorem me_atM {k : Nat} (hr : Room k X.A) {o i : Expr} {fo fi : SE} (ho : ME X cf EX o fo) (hi : ME X cf EX i fi) (hs : NoSl i := by exact fun _ _ => rfl) : ME X cf EX (.Subscript o i pos) (fAtM fo fi) := by
  refine PE.weak (pe_atM hr ho hi hs) fun σ H Q ⟨env, S, μ, F, s, q⟩ => ⟨env, S, μ, F, s, (Post.bind q).mono fun w S1 H1 μ1 s1 x1 q1 v rv => ?_⟩
  split at q1
  · rename_i n
    cases rv with
    | ref hn =>
      refine ⟨env, S1, μ1, F, s1, (Post.bind q1).mono fun u S2 H2 μ2 s2 x2 q2 v2 rv2 => ?_⟩
      have hn2 := pre_get x2.pre hn
      split at q2
      · split at q2
        · rename_i l ks hS hks
          split at q2
          · rename_i dd hg
            obtain ⟨d, hd, ro⟩ := s2.st.obj _ _ hS
            rw [hn2] at hd
            cases hd
            have ex := decs_ok hks
            subst ex
            generalize hll : O.dcm l = ob at ro
            cases ro with
            | lst _ _ => cases hll
            | ins _ _ _ _ _ => cases hll
            | dct _ _ => cases hll
            | tab _ _ => cases hll
            | @dcm ys ds he hk =>
              cases hll
              cases rv2 with
              | d rk =>
                cases rk with
                | @tup ka _ _ r1 t1 => exact ⟨_, ka, _, ys, l, ks, dd, rfl, rfl, he, hk, .tup r1 t1, hg, fun v g => q2 H2 μ2 s2 (Ext.refl _ _ _ _) _ (.d g)⟩
          · exact q2.elim
        · exact q2.elim
      · exact q2.elim
  · exact q1.elim
theorem keys_valsM {es : Array DictEntry} {acc : Array Value} {n : Nat} : ∀ {xs : List (NK × Addr × Value)} {vs : List Value}, vs.length = xs.length → (∀ (j : Nat) (v : Value), vs[j]? = some v → ∃ y : NK × Addr × Value, xs[j]? = some y ∧ v = Value.ref y.2.1) → Vals (xs.map fun x => V.ref x.2.1) vs
  | [], [], _, _ => .nil
  | [], _ :: _, h, _ => by cases h
  | _ :: _, [], h, _ => by cases h
  | x :: xs, v :: vs, h, f => by
    obtain ⟨y, e1, e2⟩ := f 0 v rfl
    cases e1
    subst e2
    exact .cons rfl (keys_valsM (es := es) (acc := acc) (n := n) (Nat.succ.inj h) fun j v e => f (j + 1) v e)
theorem kvn_dns {N N2 : Addr → Prop} {H' : Hp} (kp : Keep N H N2 H') : ∀ {xs : List (NK × Addr × Value)} {ds : List (NK × D)}, KvN K H N xs ds → DnAll K H' N2 (xs.map fun x => V.ref x.2.1) (ds.map fun p => encN p.1)
  | _, _, .nil => .nil
  | _, _, .cons a _ _ t => .cons (Dn.keep kp a) (kvn_dns kp t)
def rKeysM (K : PySem.W.Frag) : List V → Hp → VK → Prop := fun vs H Q => ∃ (d : Addr) (N : Addr → Prop) (xs : List (NK × Addr × Value)) (ds : List (NK × D)), vs = [.ref d] ∧ H d = some (.ext (NestM d xs)) ∧ KvN K H N xs ds ∧ xs.length ≤ sizeLine ∧ ∀ p, H p = none → Q (.ref p) (upd H p (.lst (xs.map fun x => V.ref x.2.1)))
theorem cr_keysM (hcalm : X.calm = true) : CallR X (.type "list") (rKeysM X.K) := by
  intro pins s σ H vs us Q I r q
  obtain ⟨d, N, xs, ds, ex, hd, hk, hz, q⟩ := q
  subst ex
  obtain ⟨u, eu, rx⟩ := vals1 r
  subst eu
  cases rx
  obtain ⟨h1, h2⟩ := nest_m I hd hk
  obtain ⟨es, ep, hraw, hsz, hen⟩ := h2.raw
  refine PySem.W.kdl_call (KdlSrc.rawDict (es := es) (ep := ep) h1) (I.ok.hd hcalm) hraw (by omega) fun h' tk acc c' hkp hD hacc => ?_
  have hv : Vals (xs.map fun x => V.ref x.2.1) acc.toList := keys_valsM (es := es) (acc := acc) (n := c') (by rw [Array.length_toList, hacc.1, hsz]) fun j v e => by
    obtain ⟨hj, e2⟩ := hacc.2 j v (by rw [← Array.getElem?_toList]; exact e)
    obtain ⟨y, a1, a2, a3, _⟩ := hen j hj
    exact ⟨y, a1, by rw [e2, a2]⟩
  exact ⟨.ref s.heap.objs.size, upd H s.heap.objs.size (.lst (xs.map fun x => V.ref x.2.1)), I.laid (t' := tk) hkp (Nat.le_refl _)
    (show ObjOk X.prog X.w _ _ _ (.lst (xs.map fun x => V.ref x.2.1)) from ⟨by rw [List.length_map]; exact hz, acc.toList, c', hv, by rw [Array.toArray_toList]; exact hD⟩), rfl, q _ (I.hok.fresh (Nat.le_refl _))⟩
/-- list(o), o a dict of the store -/
def gKeysM : GN
  | [.ref n], S => (match S[n]? with
    | some (.dcm l) => if l.length ≤ LIM then .ok (.d (.list (l.map fun p => encN p.1))) S else .stuck
    | _ => .stuck)
  | _, _ => .stuck
theorem co_keysM : CallOp X EX (rKeysM X.K) gKeysM := by
  intro F σ env S H μ vs ws Q s rvs q
  unfold gKeysM at q
  split at q
  · obtain ⟨v, rfl, rv⟩ := rws1 rvs
    split at q
    · rename_i l hS
      split at q
      · rename_i hl
        cases rv with
        | ref hn =>
          obtain ⟨d, hd, ro⟩ := s.st.obj _ _ hS
          rw [hn] at hd
          cases hd
          generalize hll : O.dcm l = ob at ro
          cases ro with
          | lst _ _ => cases hll
          | ins _ _ _ _ _ => cases hll
          | dct _ _ => cases hll
          | tab _ _ => cases hll
          | @dcm xs ds he hk =>
            cases hll
            refine ⟨_, _, xs, l, rfl, he, hk, by rw [← lim_line, kvn_len hk]; exact hl, fun p n => ?_⟩
            exact q _ μ (s.new n) (ext_new n) _ (.d (.lst ⟨s.fresh n, upd_same⟩ (kvn_dns (fun a o na e => ⟨by rw [upd_ne (ne_of_none e n)]; exact e, na⟩) hk)))
      · exact q.elim
    · exact q.elim
  · exact q.elim
theorem me_keysM (hcalm : X.calm = true) (hg : Gl X "list") (hm : X.mg "list" = none) (h : MA X cf EX [e] ha) (he : starEach [e] X.env = (false, eval e X.env) :: starEach [] X.env := by rfl) (hpl : (backTo pos (starEach [] X.env)).any (·.1) = false := by rfl) :
    ME X cf EX (.Call (.Name "list" p) [e] [] pos) (fB gKeysM ha) := me_callTy (cr_keysM hcalm) co_keysM hg hm (by decide +kernel) h (he := he) (hpl := hpl)
end
end Q

namespace Q
open PySem PySem.Spec PyProof.Rows L2
section
variable {X : Cx} {cf : CF} {EX : WX} {e e1 e2 : Expr} {fa : SE} {pos p : Pos} {x : Str}
def tGW (K : PySem.W.Frag) (mg : Str → Option Value) (i : Nat) : TG := fun v σ H Q => ∃ F env S μ w, Sim K mg F σ H env S μ ∧ w.plain = true ∧ RW K mg H (NN F μ σ env) μ v w ∧ ∀ σ', Sim K mg F σ' H (env.set i (some w)) S μ → ExS σ env H μ σ' (env.set i (some w)) H μ → Q σ' H
theorem mg_nameW {i : Nat} (hN : X.N.Nodup) (hi : X.N[i]? = some x) (hx : Loc X.env.scope x) (hf : X.fn x = true ∨ X.env.scope.names.lookup x = some .local := by first | exact .inl rfl | exact .inr rfl | assumption) : PG X (.Name x pos) (tGW X.K X.mg i) :=
  PG.weak (pg_name hN hi hx hf) fun v σ H Q ⟨F, env, S, μ, w, s, pw, r, q⟩ => by
    obtain ⟨s2, x2⟩ := s.set (i := i) (w := w) pw r
    exact q _ s2 x2
def sUnpW (i j : Nat) (f : SE) : SS := fun cf env S => (f cf env S).then env fun w S' => match w with
  | .tw [w1, w2] => if (w1.plain && w2.plain) = true then .next ((env.set i (some w1)).set j (some w2)) S' else .stuck
  | _ => .stuck
theorem ms_unpW {i j : Nat} {k : Nat} (hc : X.calm = true) (h1 : ME X cf EX e fa) (ha : PG X e1 (tGW X.K X.mg i)) (hb : PG X e2 (tGW X.K X.mg j))
    (hp1 : (assignEach (e1 :: [e2]) X.env).map (·.2) = assign e1 X.env :: (assignEach [e2] X.env).map (·.2) := by rfl) (hp2 : (assignEach (e2 :: []) X.env).map (·.2) = assign e2 X.env :: (assignEach [] X.env).map (·.2) := by rfl)
    (hn : (assignEach [e1, e2] X.env).length = 2 := by rfl) (hst : (assignEach [e1, e2] X.env).findIdx? (·.1) = none := by rfl)
    (hs : swapsWithSole [.Tuple [e1, e2] k p] e pos.line X.env = pure false := by rfl) (hw : swappedStores [.Tuple [e1, e2] k p] e X.env = pure none := by rfl)
    (h3 : (assignEach [.Tuple [e1, e2] k p] X.env).map (·.2) = [assign (.Tuple [e1, e2] k p) X.env] := by rfl) : MS X cf EX (.Assign [.Tuple [e1, e2] k p] e pos) (sUnpW i j fa) := by
  refine PS.weak (ps_asg h1 (pg_tup hc (pgs_cons ha (pgs_cons hb pgs_nil hp2) hp1) hn hst) hs hw h3) fun D σ H ⟨env, S, μ, F, s, q⟩ => ⟨env, S, μ, F, s, (PostS.expr q).mono fun w S1 H1 μ1 s1 x1 q1 v rv => ?_⟩
  split at q1
  · rename_i w1 w2
    split at q1
    · rename_i hpl
      rw [Bool.and_eq_true] at hpl
      cases rv with
      | @tw a vs ws na ha ta =>
        cases ta with
        | cons r1 ta =>
          cases ta with
          | cons r2 ta =>
            cases ta
            refine ⟨a, _, rfl, .inl (.inl ha), rfl, _, _, rfl, F, env, S1, μ1, w1, s1, hpl.1, r1, fun σ' s' x' => ?_⟩
            refine ⟨_, _, rfl, F, _, S1, μ1, w2, s', hpl.2, RW.keep (x'.nn F) x'.pre r2 hpl.2, fun σ2 s2 x2 => ?_⟩
            exact ⟨rfl, q1 σ2 H1 μ1 s2 (x'.trans x2)⟩
    · exact q1.elim
  · exact q1.elim
end
@[simp] theorem x_unpW (i j : Nat) (f : SE) (cf : CF) (env : EnvQ) (S : Sto) : sUnpW i j f cf env S = (f cf env S).then env fun w S' => match w with
  | .tw [w1, w2] => if (w1.plain && w2.plain) = true then .next ((env.set i (some w1)).set j (some w2)) S' else .stuck
  | _ => .stuck := rfl
end Q

namespace Q
open PySem PySem.Spec PyProof.Rows L2
end Q

namespace Q
open PySem PySem.Spec PyProof.Rows L2
def F_is_whole : SS := (sRetP (fAnd (fIsI "int" (fVar 0)) (fNot (fIsI "bool" (fVar 0)))))
def F_is_among : SS := (sRetP (fAnd (fCallN "is_whole" 1 (aCons (fVar 0) aNil)) (fChain gLe gLe (fVar 1) (fVar 0) (fVar 2))))
def F_is_row : SS := (sRetP (fAnd (fIsI "tuple" (fVar 0)) (fChain gLe gLe (fVar 1) (fB gLen (aCons (fVar 0) aNil)) (fVar 2))))
def C_is_light_of_1 : SE := (fCallN "is_among" 3 (aCons (fVar 3) (aCons (fInt 0) (aCons (fBin gSub (fVar 2) (fInt 1)) aNil))))
def F_is_light_of : SS := (sSeq (sIf (cOr (cNot (cVal (fCallN "is_row" 3 (aCons (fVar 0) (aCons (fInt 3) (aCons (fInt 3) aNil)))))) (cNot (cVal (fCallN "is_among" 3 (aCons (fAt (fVar 0) (fInt 0)) (aCons (fInt 0) (aCons (fBin gSub (fVar 1) (fInt 1)) aNil)))))))
  (sRetP (fBl false))
  sNext)
  (sSeq (sIf (cOr (cNot (cVal (fCallN "is_among" 3 (aCons (fAt (fVar 0) (fInt 1)) (aCons (fNeg (fInt 9)) (aCons (fInt 9) aNil)))))) (cNot (cVal (fCallN "is_row" 3 (aCons (fAt (fVar 0) (fInt 2)) (aCons (fInt 1) (aCons (fInt 4) aNil)))))))
  (sRetP (fBl false))
  sNext)
  (sRetP (fB gAll (aCons (fComp [3] (.name 3) (iSeq (fAt (fVar 0) (fInt 2))) cYes C_is_light_of_1) aNil)))))
def C_is_sky_1 : SE := (fCallN "is_light_of" 3 (aCons (fVar 1) (aCons (fAt (fVar 0) (fInt 0)) (aCons (fAt (fVar 0) (fInt 1)) aNil))))
def F_is_sky : SS := (sSeq (sIf (cOr (cNot (cVal (fCallN "is_row" 3 (aCons (fVar 0) (aCons (fInt 3) (aCons (fInt 3) aNil)))))) (cNot (cVal (fCallN "is_among" 3 (aCons (fAt (fVar 0) (fInt 0)) (aCons (fInt 4) (aCons (fInt 12) aNil)))))))
  (sRetP (fBl false))
  sNext)
  (sSeq (sIf (cOr (cNot (cVal (fCallN "is_among" 3 (aCons (fAt (fVar 0) (fInt 1)) (aCons (fInt 1) (aCons (fInt 5) aNil)))))) (cNot (cVal (fCallN "is_row" 3 (aCons (fAt (fVar 0) (fInt 2)) (aCons (fInt 1) (aCons (fInt 6) aNil)))))))
  (sRetP (fBl false))
  sNext)
  (sRetP (fB gAll (aCons (fComp [1] (.name 1) (iSeq (fAt (fVar 0) (fInt 2))) cYes C_is_sky_1) aNil)))))
def F_need_sky : SS := (sIf (cNot (cVal (fCallN "is_sky" 1 (aCons (fVar 0) aNil))))
  (sRaise "NoSky")
  sNext)
def F_stands_by : SS := (sSeq (sUnp [3, 4, 5] (fVar 0))
  (sSeq (sUnp [6, 7, 8] (fAt (fVar 5) (fVar 1)))
  (sRetP (fTup (aCons (fBin gMod (fBin gAdd (fVar 6) (fBin gMul2 (fVar 7) (fVar 2))) (fVar 3)) (aCons (fAt (fVar 8) (fBin gMod (fVar 2) (fB gLen (aCons (fVar 8) aNil)))) aNil))))))
def C_is_back_1 : SE := (fBin gEq (fAt (fVar 5) (fBin gMod (fBin gAdd (fVar 6) (fVar 2)) (fB gLen (aCons (fVar 5) aNil)))) (fVar 7))
def F_is_back : SS := (sSeq (sUnp [3, 4, 5] (fVar 0))
  (sSeq (sIf (cVal (fBin gNe (fBin gMod (fBin gMul2 (fVar 4) (fVar 2)) (fVar 1)) (fInt 0)))
  (sRetP (fBl false))
  sNext)
  (sRetP (fB gAll (aCons (fComp [6, 7] (.names [6, 7]) (iEnumQ (aCons (fVar 5) aNil)) cYes C_is_back_1) aNil)))))
def C_round_of_1 : SE := (fCallN "is_back" 3 (aCons (fVar 5) (aCons (fVar 1) (aCons (fVar 4) aNil))))
def B_round_of_2 : SS := (sAug 4 gAddI (fInt 1))
def F_round_of : SS := (sSeq (sExpr (fCallN "need_sky" 1 (aCons (fVar 0) aNil)))
  (sSeq (sUnp [1, 2, 3] (fVar 0))
  (sSeq (sSet 4 (fInt 1))
  (sSeq (sWhile 1000000 (cNot (cVal (fB gAll (aCons (fComp [5] (.name 5) (iSeq (fVar 3)) cYes C_round_of_1) aNil))))
  B_round_of_2)
  (sRetP (fVar 4))))))
def F_half_of : SS := (sRetP (fBin gDiv (fAt (fVar 0) (fInt 0)) (fInt 2)))
def F_is_cell : SS := (sRetP (fAnd (fCallN "is_row" 3 (aCons (fVar 1) (aCons (fInt 2) (aCons (fInt 2) aNil)))) (fAnd (fCallN "is_among" 3 (aCons (fAt (fVar 1) (fInt 0)) (aCons (fInt 0) (aCons (fBin gSub (fCallN "half_of" 1 (aCons (fVar 0) aNil)) (fInt 1)) aNil)))) (fCallN "is_among" 3 (aCons (fAt (fVar 1) (fInt 1)) (aCons (fInt 0) (aCons (fBin gSub (fAt (fVar 0) (fInt 1)) (fInt 1)) aNil)))))))
def F_up_by : SS := (sSeq (sUnp [5, 6] (fCallN "stands_by" 3 (aCons (fVar 0) (aCons (fVar 1) (aCons (fVar 4) aNil)))))
  (sSeq (sSet 7 (fTup (aCons (fBin gMod (fBin gAdd (fVar 5) (fVar 2)) (fAt (fVar 0) (fInt 0))) (aCons (fBin gAdd (fVar 6) (fVar 3)) aNil))))
  (sRetP (fIf (cVal (fCallN "is_cell" 2 (aCons (fVar 0) (aCons (fVar 7) aNil)))) (fVar 7) fNon))))
def F_is_part : SS := (sSeq (sIf (cOr (cNot (cVal (fCallN "is_row" 3 (aCons (fVar 1) (aCons (fInt 2) (aCons (fInt 2) aNil)))))) (cNot (cVal (fCallN "is_among" 3 (aCons (fAt (fVar 1) (fInt 0)) (aCons (fInt 0) (aCons (fBin gSub (fB gLen (aCons (fAt (fVar 0) (fInt 2)) aNil)) (fInt 1)) aNil)))))))
  (sRetP (fBl false))
  sNext)
  (sRetP (fOr (fIsNone (fAt (fVar 1) (fInt 1))) (fCallN "is_cell" 2 (aCons (fVar 0) (aCons (fAt (fVar 1) (fInt 1)) aNil))))))
def C_need_report_1 : SE := (fCallN "is_part" 2 (aCons (fVar 0) (aCons (fVar 2) aNil)))
def F_need_report : SS := (sSeq (sExpr (fCallN "need_sky" 1 (aCons (fVar 0) aNil)))
  (sIf (cOr (cNot (cVal (fCallN "is_row" 3 (aCons (fVar 1) (aCons (fInt 0) (aCons (fInt 6) aNil)))))) (cNot (cVal (fB gAll (aCons (fComp [2] (.name 2) (iSeq (fVar 1)) cYes C_need_report_1) aNil)))))
  (sRaise "NoReport")
  sNext))
def C_places_of_1 : SE := (fTup (aCons (fVar 4) (aCons (fVar 5) aNil)))
def I_places_of_2 : SI := (gInner [5] (.name 5) (iRange2 (aCons (fNeg (fVar 2)) (aCons (fBin gAdd (fVar 2) (fInt 1)) aNil))) cYes C_places_of_1)
def F_places_of : SS := (sSeq (sUnp [1, 2, 3] (fVar 0))
  (sRetP (fComp2 [4, 5] (.name 4) (iRange1 (aCons (fVar 1) aNil)) cYes I_places_of_2)))
def C_all_views_1 : SE := (fBin gAdd (fTup (aCons (fVar 2) aNil)) (fVar 3))
def I_all_views_2 : SI := (gInner [3] (.name 3) (iSeq (fVar 1)) cYes C_all_views_1)
def F_all_views : SS := (sSeq (sSet 1 (fCallN "places_of" 1 (aCons (fVar 0) aNil)))
  (sRetP (fComp2 [2, 3] (.name 2) (iRange1 (aCons (fCallN "round_of" 1 (aCons (fVar 0) aNil)) aNil)) cYes I_all_views_2)))
def C_so_at_1 : SE := (fBin gEq (fCallN "up_by" 5 (aCons (fVar 0) (aCons (fVar 7) (aCons (fVar 4) (aCons (fVar 5) (aCons (fVar 3) aNil)))))) (fVar 8))
def D_so_at_2 : ST := (cVal (fVar 10))
def C_so_at_3 : SE := (fVar 9)
def F_so_at : SS := (sSeq (sUnp [3, 4, 5] (fVar 2))
  (sSeq (sSet 6 (fComp [7, 8] (.names [7, 8]) (iSeq (fVar 1)) cYes C_so_at_1))
  (sRetP (fB gTuple (aCons (fComp [9, 10] (.names [9, 10]) (iEnumQ (aCons (fVar 6) aNil)) D_so_at_2 C_so_at_3) aNil)))))
def B_lots_so_1 : SS := (sExpr (fSetdM (fVar 2) (fCallN "so_at" 3 (aCons (fVar 0) (aCons (fVar 1) (aCons (fVar 3) aNil)))) (fVar 3)))
def F_lots_so : SS := (sSeq (sSet 2 fNewM)
  (sSeq (sFor (.name 3) (iSeq (fCallN "all_views" 1 (aCons (fVar 0) aNil)))
  B_lots_so_1)
  (sRetP (fVar 2))))
def C_lots_of_1 : SE := (fBin gAdd (fVar 3) (fTup (aCons (fVar 2) aNil)))
def B_lots_of_2 : SS := (sSet 1 (fBin gAdd (fVar 1) (fComp [3] (.name 3) (iSeq (fVar 1)) cYes C_lots_of_1)))
def F_lots_of : SS := (sSeq (sSet 1 (fLst (aCons (fTup aNil) aNil)))
  (sSeq (sFor (.name 2) (iRange1 (aCons (fVar 0) aNil))
  B_lots_of_2)
  (sRetP (fSortLot 0 "lots_of" "lots_of" (fVar 1)))))
def C_are_apart_1 : SE := (fBin gIn (fVar 3) (fVar 2))
def C_are_apart_2 : SE := (fB gAll (aCons (fComp [3] (.name 3) (iSeq (fVar 0)) cYes C_are_apart_1) aNil))
def F_are_apart : SS := (sRetP (fNot (fB gAny (aCons (fComp [2] (.name 2) (iSeq (fVar 1)) cYes C_are_apart_2) aNil))))
def D_led_back_1 : ST := (cVal (fCallN "are_apart" 2 (aCons (fVar 4) (aCons (fB gKeysM (aCons (fVar 2) aNil)) aNil))))
def C_led_back_2 : SE := (fVar 4)
def F_led_back : SS := (sSeq (sExpr (fCallN "need_report" 2 (aCons (fVar 0) (aCons (fVar 1) aNil))))
  (sSeq (sUnpW 2 3 (fTup (aCons (fCallN "lots_so" 2 (aCons (fVar 0) (aCons (fVar 1) aNil))) (aCons (fTupRg (fB gLen (aCons (fVar 1) aNil))) aNil))))
  (sSeq (sIf (cVal (fBin gInM (fVar 3) (fVar 2)))
  (sRetP (fTup (aCons (fStr "seen") (aCons (fAtM (fVar 2) (fVar 3)) aNil))))
  sNext)
  (sRetP (fTup (aCons (fStr "never") (aCons (fAt (fComp [4] (.name 4) (iSeq (fCallN "lots_of" 1 (aCons (fB gLen (aCons (fVar 1) aNil)) aNil))) D_led_back_1 C_led_back_2) (fInt 0)) aNil)))))))
def F__law_cell_at : SS := (sSeq (sIf (cVal (fBin gLt (fVar 1) (fB gLen (aCons (fVar 0) aNil))))
  (sRetP (fAt (fVar 0) (fVar 1)))
  sNext)
  (sRetP (fInt 0)))
def F__law_pen : SS := (sRetP (fNewL (aCons (fB gMax2 (aCons (fInt 0) (aCons (fBin gSub (fVar 0) (fBin gPow (fInt 10) (fInt 18))) aNil))) (aCons (fBin gAdd (fBin gMod (fVar 0) (fInt 2147483629)) (fInt 1)) (aCons (fInt 0) aNil)))))
def F__law_draw : SS := (sSeq (sIf (cVal (fBin gGt (fAt (fVar 0) (fInt 0)) (fInt 0)))
  (sSeq (sSet 2 (fBin gMod (fAt (fVar 0) (fInt 0)) (fVar 1)))
  (sSeq (sSetIx (fVar 0) (fInt 0) (fBin gDiv (fAt (fVar 0) (fInt 0)) (fVar 1)))
  (sRetP (fVar 2))))
  sNext)
  (sSeq (sSetIx (fVar 0) (fInt 2) (fBin gAdd (fAt (fVar 0) (fInt 2)) (fInt 1)))
  (sSeq (sSetIx (fVar 0) (fInt 1) (fBin gMod (fBin gAdd (fBin gAdd (fBin gMul2 (fAt (fVar 0) (fInt 1)) (fInt 48271)) (fBin gMul2 (fInt 1013) (fAt (fVar 0) (fInt 2)))) (fInt 11)) (fInt 2147483647)))
  (sSeq (sSet 3 (fBin gMod (fBin gAdd (fBin gAdd (fBin gMul2 (fAt (fVar 0) (fInt 1)) (fAt (fVar 0) (fInt 1))) (fBin gMul2 (fInt 40692) (fAt (fVar 0) (fInt 1)))) (fInt 7)) (fInt 2147483629)))
  (sRetP (fBin gMod (fBin gDiv (fBin gMod (fBin gMul2 (fVar 3) (fInt 69621)) (fInt 2147483647)) (fInt 16)) (fVar 1)))))))
def F__law_pick : SS := (sRetP (fAt (fVar 1) (fCallN "_law_draw" 2 (aCons (fVar 0) (aCons (fB gLen (aCons (fVar 1) aNil)) aNil)))))
def C__law_sky_1 : SE := (fCallN "_law_draw" 2 (aCons (fVar 0) (aCons (fVar 3) aNil)))
def B__law_sky_2 : SS := (sSeq (sSet 7 (fIf (cVal (fBin gGt (fCallN "_law_draw" 2 (aCons (fVar 0) (aCons (fInt 4) aNil))) (fInt 0))) (fBin gSub (fCallN "_law_draw" 2 (aCons (fVar 0) (aCons (fInt 5) aNil))) (fInt 2)) (fBin gSub (fCallN "_law_draw" 2 (aCons (fVar 0) (aCons (fInt 19) aNil))) (fInt 9))))
  (sSeq (sSet 8 (fB gTuple (aCons (fComp [9] (.name 9) (iRange1 (aCons (fCallN "_law_pick" 2 (aCons (fVar 0) (aCons (fVar 5) aNil))) aNil)) cYes C__law_sky_1) aNil)))
  (sApp 4 (fTup (aCons (fCallN "_law_draw" 2 (aCons (fVar 0) (aCons (fVar 2) aNil))) (aCons (fVar 7) (aCons (fVar 8) aNil)))))))
def F__law_sky : SS := (sSeq (sParX [2, 3, 4] [.p (fCallN "_law_pick" 2 (aCons (fVar 0) (aCons (fLst (aCons (fInt 4) (aCons (fInt 4) (aCons (fInt 5) (aCons (fInt 6) (aCons (fInt 6) (aCons (fInt 8) (aCons (fInt 12) aNil)))))))) aNil))), .p (fBin gAdd (fInt 1) (fCallN "_law_draw" 2 (aCons (fVar 0) (aCons (fInt 5) aNil)))), .o aNil])
  (sSeq (sSet 5 (fCallN "_law_pick" 2 (aCons (fVar 0) (aCons (fLst (aCons (fLst (aCons (fInt 1) (aCons (fInt 2) aNil))) (aCons (fLst (aCons (fInt 1) (aCons (fInt 2) (aCons (fInt 4) aNil)))) (aCons (fLst (aCons (fInt 1) (aCons (fInt 3) aNil))) (aCons (fLst (aCons (fInt 1) (aCons (fInt 1) (aCons (fInt 2) aNil)))) aNil))))) aNil))))
  (sSeq (sFor (.name 6) (iRange1 (aCons (fBin gAdd (fInt 1) (fCallN "_law_draw" 2 (aCons (fVar 0) (aCons (fVar 1) aNil)))) aNil))
  B__law_sky_2)
  (sRetP (fTup (aCons (fVar 2) (aCons (fVar 3) (aCons (fB gTuple (aOne (fOwn 4))) aNil))))))))
def B__law_gcd_1 : SS := (sPar [0, 1] (aCons (fVar 1) (aCons (fBin gMod (fVar 0) (fVar 1)) aNil)))
def F__law_gcd : SS := (sSeq (sWhile 1000000 (cVal (fBin gGt (fVar 1) (fInt 0)))
  B__law_gcd_1)
  (sRetP (fVar 0)))
def D__law_round_1 : ST := (cVal (fBin gEq (fVar 4) (fBin gAdd (fSl (fVar 4) (oSome (fBin gMod (fVar 7) (fB gLen (aCons (fVar 4) aNil)))) oNone) (fSl (fVar 4) oNone (oSome (fBin gMod (fVar 7) (fB gLen (aCons (fVar 4) aNil))))))))
def C__law_round_2 : SE := (fVar 7)
def B__law_round_3 : SS := (sSet 1 (fBin gDiv (fBin gMul2 (fVar 1) (fVar 6)) (fCallN "_law_gcd" 2 (aCons (fVar 1) (aCons (fVar 6) aNil)))))
def B__law_round_4 : SS := (sSeq (sSet 5 (fComp [7] (.name 7) (iRange2 (aCons (fInt 1) (aCons (fBin gAdd (fB gLen (aCons (fVar 4) aNil)) (fInt 1)) aNil))) D__law_round_1 C__law_round_2))
  (sFor (.name 6) (iSeq (fLst (aCons (fBin gDiv (fAt (fVar 0) (fInt 0)) (fCallN "_law_gcd" 2 (aCons (fAt (fVar 0) (fInt 0)) (aCons (fB gAbs (aCons (fVar 3) aNil)) aNil)))) (aCons (fAt (fVar 5) (fInt 0)) aNil))))
  B__law_round_3))
def F__law_round : SS := (sSeq (sSet 1 (fInt 1))
  (sSeq (sFor (.names [2, 3, 4]) (iSeq (fAt (fVar 0) (fInt 2)))
  B__law_round_4)
  (sRetP (fVar 1))))
def F__law_cell : SS := (sSeq (sUnp [3, 4, 5] (fAt (fAt (fVar 0) (fInt 2)) (fVar 1)))
  (sSeq (sSet 6 (fBin gMod (fBin gAdd (fBin gAdd (fVar 3) (fBin gMul2 (fVar 4) (fAt (fVar 2) (fInt 0)))) (fAt (fVar 2) (fInt 1))) (fAt (fVar 0) (fInt 0))))
  (sSeq (sSet 7 (fBin gAdd (fAt (fVar 5) (fBin gMod (fAt (fVar 2) (fInt 0)) (fB gLen (aCons (fVar 5) aNil)))) (fAt (fVar 2) (fInt 2))))
  (sRetP (fIf (cAnd (cVal (fBin gLt (fVar 6) (fBin gDiv (fAt (fVar 0) (fInt 0)) (fInt 2)))) (cVal (fChain gLe gLt (fInt 0) (fVar 7) (fAt (fVar 0) (fInt 1))))) (fTup (aCons (fVar 6) (aCons (fVar 7) aNil))) fNon)))))
def C__law_places_1 : SE := (fTup (aCons (fVar 2) (aCons (fVar 3) aNil)))
def B__law_places_2 : SS := (sExt 1 (fComp [3] (.name 3) (iRange2 (aCons (fBin gSub (fInt 0) (fAt (fVar 0) (fInt 1))) (aCons (fBin gAdd (fAt (fVar 0) (fInt 1)) (fInt 1)) aNil))) cYes C__law_places_1))
def F__law_places : SS := (sSeq (sNew 1 aNil)
  (sSeq (sFor (.name 2) (iRange1 (aCons (fAt (fVar 0) (fInt 0)) aNil))
  B__law_places_2)
  (sRetO 1)))
def D__law_views_1 : ST := (cVal (fBin gEq (fCallN "_law_cell" 3 (aCons (fVar 0) (aCons (fVar 5) (aCons (fBin gAdd (fTup (aCons (fVar 3) aNil)) (fVar 7)) aNil)))) (fVar 6)))
def C__law_views_2 : SE := (fVar 7)
def B__law_views_3 : SS := (sSet 4 (fComp [7] (.name 7) (iSeq (fVar 4)) D__law_views_1 C__law_views_2))
def C__law_views_4 : SE := (fBin gAdd (fTup (aCons (fVar 3) aNil)) (fVar 7))
def B__law_views_5 : SS := (sSeq (sSet 4 (fCallN "_law_places" 1 (aCons (fVar 0) aNil)))
  (sSeq (sFor (.names [5, 6]) (iSeq (fVar 1))
  B__law_views_3)
  (sExt 2 (fComp [7] (.name 7) (iSeq (fVar 4)) cYes C__law_views_4))))
def F__law_views : SS := (sSeq (sNew 2 aNil)
  (sSeq (sFor (.name 3) (iRange1 (aCons (fCallN "_law_round" 1 (aCons (fVar 0) aNil)) aNil))
  B__law_views_5)
  (sRetO 2)))
def F__law_view : SS := (sSeq (sPar [2, 3] (aCons (fCallN "_law_draw" 2 (aCons (fVar 0) (aCons (fAt (fVar 1) (fInt 0)) aNil))) (aCons (fBin gSub (fCallN "_law_draw" 2 (aCons (fVar 0) (aCons (fBin gAdd (fBin gMul2 (fInt 2) (fAt (fVar 1) (fInt 1))) (fInt 1)) aNil))) (fAt (fVar 1) (fInt 1))) aNil)))
  (sRetP (fTup (aCons (fCallN "_law_draw" 2 (aCons (fVar 0) (aCons (fCallN "_law_round" 1 (aCons (fVar 1) aNil)) aNil))) (aCons (fVar 2) (aCons (fAt (fLst (aCons (fVar 3) (aCons (fInt 0) aNil))) (fCallN "_law_draw" 2 (aCons (fVar 0) (aCons (fInt 2) aNil)))) aNil))))))
def F__law_any_cell : SS := (sSeq (sSet 2 (fTup (aCons (fCallN "_law_draw" 2 (aCons (fVar 0) (aCons (fBin gDiv (fAt (fVar 1) (fInt 0)) (fInt 2)) aNil))) (aCons (fCallN "_law_draw" 2 (aCons (fVar 0) (aCons (fAt (fVar 1) (fInt 1)) aNil))) aNil))))
  (sRetP (fIf (cVal (fBin gEq (fCallN "_law_draw" 2 (aCons (fVar 0) (aCons (fInt 4) aNil))) (fInt 0))) fNon (fVar 2))))
def B__law_report_1 : SS := (sSeq (sSet 7 (fCallN "_law_draw" 2 (aCons (fVar 0) (aCons (fB gLen (aCons (fAt (fVar 1) (fInt 2)) aNil)) aNil))))
  (sSeq (sSet 8 (fCallN "_law_cell" 3 (aCons (fVar 1) (aCons (fVar 7) (aCons (fVar 4) aNil)))))
  (sSeq (sIf (cAnd (cVal (fBin gGt (fVar 3) (fInt 0))) (cVal (fBin gEq (fCallN "_law_draw" 2 (aCons (fVar 0) (aCons (fInt 3) aNil))) (fInt 0))))
  (sSet 8 (fCallN "_law_any_cell" 2 (aCons (fVar 0) (aCons (fVar 1) aNil))))
  sNext)
  (sApp 5 (fTup (aCons (fVar 7) (aCons (fVar 8) aNil)))))))
def F__law_report : SS := (sSeq (sParX [4, 5] [.p (fCallN "_law_view" 2 (aCons (fVar 0) (aCons (fVar 1) aNil))), .o aNil])
  (sSeq (sFor (.name 6) (iRange1 (aCons (fCallN "_law_draw" 2 (aCons (fVar 0) (aCons (fBin gAdd (fVar 2) (fInt 1)) aNil))) aNil))
  B__law_report_1)
  (sRetP (fB gTuple (aOne (fOwn 5))))))
def C__law_lots_1 : SE := (fBin gAdd (fVar 4) (fTup (aCons (fVar 2) aNil)))
def B__law_lots_2 : SS := (sSet 1 (fBin gAdd (fVar 1) (fComp [4] (.name 4) (iSeq (fVar 1)) cYes C__law_lots_1)))
def C__law_lots_3 : SE := (fTup (aCons (fB gLen (aCons (fVar 4) aNil)) (aCons (fVar 4) aNil)))
def C__law_lots_4 : SE := (fVar 4)
def F__law_lots : SS := (sSeq (sSet 1 (fLst (aCons (fTup aNil) aNil)))
  (sSeq (sFor (.name 2) (iRange1 (aCons (fVar 0) aNil))
  B__law_lots_2)
  (sRetP (fComp [3, 4] (.names [3, 4]) (iSeq (fB gSortND (aCons (fComp [4] (.name 4) (iSeq (fVar 1)) cYes C__law_lots_3) aNil))) cYes C__law_lots_4))))
def C__law_least_bar_1 : SE := (fAt (fVar 1) (fVar 3))
def B__law_least_bar_2 : SS := (sIf (cVal (fBin gEq (fCallN "_law_views" 2 (aCons (fVar 0) (aCons (fComp [3] (.name 3) (iSeq (fVar 2)) cYes C__law_least_bar_1) aNil))) (fLst aNil)))
  (sRetP (fVar 2))
  sNext)
def F__law_least_bar : SS := (sSeq (sFor (.name 2) (iSeq (fCallN "_law_lots" 1 (aCons (fB gLen (aCons (fVar 1) aNil)) aNil)))
  B__law_least_bar_2)
  (sRetP fNon))
def C_law_1 : SE := (fTup (aCons (fVar 12) (aCons (fVar 4) aNil)))
def B_law_2 : SS := (sIf (cOr (cVal (fBin gNe (fB gRepr (aCons (fCallN "led_back" 2 (aCons (fVar 3) (aCons (fVar 6) aNil))) aNil)) (fVar 9))) (cVal (fBin gNe (fB gRepr (aCons (fTup (aCons (fVar 3) (aCons (fVar 6) aNil))) aNil)) (fVar 7))))
  (sRetP (fBl false))
  sNext)
def B_law_3 : SS := (sSeq (sPar [7, 8] (aCons (fB gRepr (aCons (fTup (aCons (fVar 3) (aCons (fVar 6) aNil))) aNil)) (aCons (fCallN "_law_views" 2 (aCons (fVar 3) (aCons (fVar 6) aNil))) aNil)))
  (sSeq (sSet 9 (fB gRepr (aCons (fIf (cVal (fBin gNe (fVar 8) (fLst aNil))) (fTup (aCons (fStr "seen") (aCons (fAt (fVar 8) (fInt 0)) aNil))) (fTup (aCons (fStr "never") (aCons (fCallN "_law_least_bar" 2 (aCons (fVar 3) (aCons (fVar 6) aNil))) aNil)))) aNil)))
  (sFor (.name 10) (iRange1 (aCons (fInt 2) aNil))
  B_law_2)))
def B_law_4 : SS := (sSeq (sSet 2 (fCallN "_law_pen" 1 (aCons (fCallN "_law_cell_at" 2 (aCons (fVar 0) (aCons (fVar 1) aNil))) aNil)))
  (sSeq (sSet 3 (fCallN "_law_sky" 2 (aCons (fVar 2) (aCons (fInt 5) aNil))))
  (sSeq (sSet 4 (fCallN "_law_any_cell" 2 (aCons (fVar 2) (aCons (fVar 3) aNil))))
  (sSeq (sNew 5 (aCons (fCallN "_law_report" 4 (aCons (fVar 2) (aCons (fVar 3) (aCons (fInt 6) (aCons (fInt 0) aNil))))) (aCons (fCallN "_law_report" 4 (aCons (fVar 2) (aCons (fVar 3) (aCons (fInt 6) (aCons (fInt 1) aNil))))) (aCons (fCallN "_law_report" 4 (aCons (fVar 2) (aCons (fVar 3) (aCons (fInt 4) (aCons (fInt 1) aNil))))) aNil))))
  (sSeq (sApp 5 (fB gTuple (aCons (fComp [12] (.name 12) (iRange1 (aCons (fB gLen (aCons (fAt (fVar 3) (fInt 2)) aNil)) aNil)) cYes C_law_1) aNil)))
  (sSeq (sFreeze 5) (sFor (.name 6) (iSeq (fVar 5))
  B_law_3)))))))
def F_law : SS := (sSeq (sFor (.name 1) (iRange1 (aCons (fB gMax2 (aCons (fInt 1) (aCons (fB gMin2 (aCons (fB gLen (aCons (fVar 0) aNil)) (aCons (fInt 3) aNil))) aNil))) aNil))
  B_law_4)
  (sSeq (sSet 11 (fTup (aCons (fInt 4) (aCons (fInt 1) (aCons (fTup (aCons (fTup (aCons (fInt 0) (aCons (fInt 0) (aCons (fTup (aCons (fInt 0) aNil)) aNil)))) (aCons (fTup (aCons (fInt 1) (aCons (fInt 0) (aCons (fTup (aCons (fInt 0) aNil)) aNil)))) aNil))) aNil)))))
  (sSeq (sIf (cVal (fBin gNe (fCallN "led_back" 2 (aCons (fVar 11) (aCons (fTup (aCons (fTup (aCons (fInt 0) (aCons (fTup (aCons (fInt 0) (aCons (fInt 0) aNil))) aNil))) (aCons (fTup (aCons (fInt 1) (aCons (fTup (aCons (fInt 1) (aCons (fInt 0) aNil))) aNil))) (aCons (fTup (aCons (fInt 0) (aCons (fTup (aCons (fInt 1) (aCons (fInt 0) aNil))) aNil))) (aCons (fTup (aCons (fInt 1) (aCons (fTup (aCons (fInt 0) (aCons (fInt 0) aNil))) aNil))) aNil))))) aNil))) (fTup (aCons (fStr "never") (aCons (fTup (aCons (fInt 0) (aCons (fInt 2) aNil))) aNil)))))
  (sRetP (fBl false))
  sNext)
  (sSeq (sIf (cOr (cVal (fBin gNe (fCallN "led_back" 2 (aCons (fVar 11) (aCons (fTup (aCons (fTup (aCons (fInt 0) (aCons (fTup (aCons (fInt 0) (aCons (fInt 0) aNil))) aNil))) (aCons (fTup (aCons (fInt 1) (aCons fNon aNil))) aNil))) aNil))) (fTup (aCons (fStr "never") (aCons (fTup (aCons (fInt 0) (aCons (fInt 1) aNil))) aNil))))) (cVal (fBin gNe (fCallN "led_back" 2 (aCons (fVar 11) (aCons (fTup aNil) aNil))) (fTup (aCons (fStr "seen") (aCons (fTup (aCons (fInt 0) (aCons (fInt 0) (aCons (fNeg (fInt 1)) aNil)))) aNil))))))
  (sRetP (fBl false))
  sNext)
  (sRetP (fBin gEq (fCallN "led_back" 2 (aCons (fVar 11) (aCons (fTup (aCons (fTup (aCons (fInt 0) (aCons (fTup (aCons (fInt 0) (aCons (fInt 0) aNil))) aNil))) (aCons (fTup (aCons (fInt 1) (aCons (fTup (aCons (fInt 1) (aCons (fInt 0) aNil))) aNil))) aNil))) aNil))) (fTup (aCons (fStr "seen") (aCons (fTup (aCons (fInt 0) (aCons (fInt 0) (aCons (fInt 0) aNil)))) aNil)))))))))
def T : Tab := fun x => ([("is_whole", ⟨1, 1, F_is_whole⟩),
  ("is_among", ⟨3, 3, F_is_among⟩),
  ("is_row", ⟨3, 3, F_is_row⟩),
  ("is_light_of", ⟨3, 4, F_is_light_of⟩),
  ("is_sky", ⟨1, 2, F_is_sky⟩),
  ("need_sky", ⟨1, 1, F_need_sky⟩),
  ("stands_by", ⟨3, 9, F_stands_by⟩),
  ("is_back", ⟨3, 8, F_is_back⟩),
  ("round_of", ⟨1, 6, F_round_of⟩),
  ("half_of", ⟨1, 1, F_half_of⟩),
  ("is_cell", ⟨2, 2, F_is_cell⟩),
  ("up_by", ⟨5, 8, F_up_by⟩),
  ("is_part", ⟨2, 2, F_is_part⟩),
  ("need_report", ⟨2, 3, F_need_report⟩),
  ("places_of", ⟨1, 6, F_places_of⟩),
  ("all_views", ⟨1, 4, F_all_views⟩),
  ("so_at", ⟨3, 11, F_so_at⟩),
  ("lots_so", ⟨2, 4, F_lots_so⟩),
  ("lots_of", ⟨1, 4, F_lots_of⟩),
  ("are_apart", ⟨2, 4, F_are_apart⟩),
  ("led_back", ⟨2, 5, F_led_back⟩),
  ("_law_cell_at", ⟨2, 2, F__law_cell_at⟩),
  ("_law_pen", ⟨1, 1, F__law_pen⟩),
  ("_law_draw", ⟨2, 4, F__law_draw⟩),
  ("_law_pick", ⟨2, 2, F__law_pick⟩),
  ("_law_sky", ⟨2, 10, F__law_sky⟩),
  ("_law_gcd", ⟨2, 2, F__law_gcd⟩),
  ("_law_round", ⟨1, 8, F__law_round⟩),
  ("_law_cell", ⟨3, 8, F__law_cell⟩),
  ("_law_places", ⟨1, 4, F__law_places⟩),
  ("_law_views", ⟨2, 8, F__law_views⟩),
  ("_law_view", ⟨2, 4, F__law_view⟩),
  ("_law_any_cell", ⟨2, 3, F__law_any_cell⟩),
  ("_law_report", ⟨4, 9, F__law_report⟩),
  ("_law_lots", ⟨1, 5, F__law_lots⟩),
  ("_law_least_bar", ⟨2, 4, F__law_least_bar⟩),
  ("law", ⟨1, 13, F_law⟩)] : List (String × FD)).lookup x
theorem T_is_whole : T "is_whole" = some ⟨1, 1, F_is_whole⟩ := by simp [T, List.lookup]
theorem T_is_among : T "is_among" = some ⟨3, 3, F_is_among⟩ := by simp [T, List.lookup]
theorem T_is_row : T "is_row" = some ⟨3, 3, F_is_row⟩ := by simp [T, List.lookup]
theorem T_is_light_of : T "is_light_of" = some ⟨3, 4, F_is_light_of⟩ := by simp [T, List.lookup]
theorem T_is_sky : T "is_sky" = some ⟨1, 2, F_is_sky⟩ := by simp [T, List.lookup]
theorem T_need_sky : T "need_sky" = some ⟨1, 1, F_need_sky⟩ := by simp [T, List.lookup]
theorem T_stands_by : T "stands_by" = some ⟨3, 9, F_stands_by⟩ := by simp [T, List.lookup]
theorem T_is_back : T "is_back" = some ⟨3, 8, F_is_back⟩ := by simp [T, List.lookup]
theorem T_round_of : T "round_of" = some ⟨1, 6, F_round_of⟩ := by simp [T, List.lookup]
theorem T_half_of : T "half_of" = some ⟨1, 1, F_half_of⟩ := by simp [T, List.lookup]
theorem T_is_cell : T "is_cell" = some ⟨2, 2, F_is_cell⟩ := by simp [T, List.lookup]
theorem T_up_by : T "up_by" = some ⟨5, 8, F_up_by⟩ := by simp [T, List.lookup]
theorem T_is_part : T "is_part" = some ⟨2, 2, F_is_part⟩ := by simp [T, List.lookup]
theorem T_need_report : T "need_report" = some ⟨2, 3, F_need_report⟩ := by simp [T, List.lookup]
theorem T_places_of : T "places_of" = some ⟨1, 6, F_places_of⟩ := by simp [T, List.lookup]
theorem T_all_views : T "all_views" = some ⟨1, 4, F_all_views⟩ := by simp [T, List.lookup]
theorem T_so_at : T "so_at" = some ⟨3, 11, F_so_at⟩ := by simp [T, List.lookup]
theorem T_lots_so : T "lots_so" = some ⟨2, 4, F_lots_so⟩ := by simp [T, List.lookup]
theorem T_lots_of : T "lots_of" = some ⟨1, 4, F_lots_of⟩ := by simp [T, List.lookup]
theorem T_are_apart : T "are_apart" = some ⟨2, 4, F_are_apart⟩ := by simp [T, List.lookup]
theorem T_led_back : T "led_back" = some ⟨2, 5, F_led_back⟩ := by simp [T, List.lookup]
theorem T__law_cell_at : T "_law_cell_at" = some ⟨2, 2, F__law_cell_at⟩ := by simp [T, List.lookup]
theorem T__law_pen : T "_law_pen" = some ⟨1, 1, F__law_pen⟩ := by simp [T, List.lookup]
theorem T__law_draw : T "_law_draw" = some ⟨2, 4, F__law_draw⟩ := by simp [T, List.lookup]
theorem T__law_pick : T "_law_pick" = some ⟨2, 2, F__law_pick⟩ := by simp [T, List.lookup]
theorem T__law_sky : T "_law_sky" = some ⟨2, 10, F__law_sky⟩ := by simp [T, List.lookup]
theorem T__law_gcd : T "_law_gcd" = some ⟨2, 2, F__law_gcd⟩ := by simp [T, List.lookup]
theorem T__law_round : T "_law_round" = some ⟨1, 8, F__law_round⟩ := by simp [T, List.lookup]
theorem T__law_cell : T "_law_cell" = some ⟨3, 8, F__law_cell⟩ := by simp [T, List.lookup]
theorem T__law_places : T "_law_places" = some ⟨1, 4, F__law_places⟩ := by simp [T, List.lookup]
theorem T__law_views : T "_law_views" = some ⟨2, 8, F__law_views⟩ := by simp [T, List.lookup]
theorem T__law_view : T "_law_view" = some ⟨2, 4, F__law_view⟩ := by simp [T, List.lookup]
theorem T__law_any_cell : T "_law_any_cell" = some ⟨2, 3, F__law_any_cell⟩ := by simp [T, List.lookup]
theorem T__law_report : T "_law_report" = some ⟨4, 9, F__law_report⟩ := by simp [T, List.lookup]
theorem T__law_lots : T "_law_lots" = some ⟨1, 5, F__law_lots⟩ := by simp [T, List.lookup]
theorem T__law_least_bar : T "_law_least_bar" = some ⟨2, 4, F__law_least_bar⟩ := by simp [T, List.lookup]
theorem T_law : T "law" = some ⟨1, 13, F_law⟩ := by simp [T, List.lookup]
end Q

namespace Q
open PySem PySem.Spec PyProof.Rows L2
def P_is_whole : SS := (sRetP (fAnd (fIsI "int" (fVar 0)) (fNot (fIsI "bool" (fVar 0)))))
abbrev Has_is_whole (T : Tab) : Prop := T "is_whole" = some ⟨1, 1, P_is_whole⟩
def P_is_among : SS := (sRetP (fAnd (fCallN "is_whole" 1 (aCons (fVar 0) aNil)) (fChain gLe gLe (fVar 1) (fVar 0) (fVar 2))))
abbrev Has_is_among (T : Tab) : Prop := T "is_among" = some ⟨3, 3, P_is_among⟩
def P_is_row : SS := (sRetP (fAnd (fIsI "tuple" (fVar 0)) (fChain gLe gLe (fVar 1) (fB gLen (aCons (fVar 0) aNil)) (fVar 2))))
abbrev Has_is_row (T : Tab) : Prop := T "is_row" = some ⟨3, 3, P_is_row⟩
def PC_is_light_of_1 : SE := (fCallN "is_among" 3 (aCons (fVar 3) (aCons (fInt 0) (aCons (fBin gSub (fVar 2) (fInt 1)) aNil))))
def P_is_light_of : SS := (sSeq (sIf (cOr (cNot (cVal (fCallN "is_row" 3 (aCons (fVar 0) (aCons (fInt 3) (aCons (fInt 3) aNil)))))) (cNot (cVal (fCallN "is_among" 3 (aCons (fAt (fVar 0) (fInt 0)) (aCons (fInt 0) (aCons (fBin gSub (fVar 1) (fInt 1)) aNil)))))))
  (sRetP (fBl false))
  sNext)
  (sSeq (sIf (cOr (cNot (cVal (fCallN "is_among" 3 (aCons (fAt (fVar 0) (fInt 1)) (aCons (fNeg (fInt 9)) (aCons (fInt 9) aNil)))))) (cNot (cVal (fCallN "is_row" 3 (aCons (fAt (fVar 0) (fInt 2)) (aCons (fInt 1) (aCons (fInt 4) aNil)))))))
  (sRetP (fBl false))
  sNext)
  (sRetP (fB gAll (aCons (fComp [3] (.name 3) (iSeq (fAt (fVar 0) (fInt 2))) cYes PC_is_light_of_1) aNil)))))
abbrev Has_is_light_of (T : Tab) : Prop := T "is_light_of" = some ⟨3, 4, P_is_light_of⟩
def PC_is_sky_1 : SE := (fCallN "is_light_of" 3 (aCons (fVar 1) (aCons (fAt (fVar 0) (fInt 0)) (aCons (fAt (fVar 0) (fInt 1)) aNil))))
def P_is_sky : SS := (sSeq (sIf (cOr (cNot (cVal (fCallN "is_row" 3 (aCons (fVar 0) (aCons (fInt 3) (aCons (fInt 3) aNil)))))) (cNot (cVal (fCallN "is_among" 3 (aCons (fAt (fVar 0) (fInt 0)) (aCons (fInt 4) (aCons (fInt 12) aNil)))))))
  (sRetP (fBl false))
  sNext)
  (sSeq (sIf (cOr (cNot (cVal (fCallN "is_among" 3 (aCons (fAt (fVar 0) (fInt 1)) (aCons (fInt 1) (aCons (fInt 5) aNil)))))) (cNot (cVal (fCallN "is_row" 3 (aCons (fAt (fVar 0) (fInt 2)) (aCons (fInt 1) (aCons (fInt 6) aNil)))))))
  (sRetP (fBl false))
  sNext)
  (sRetP (fB gAll (aCons (fComp [1] (.name 1) (iSeq (fAt (fVar 0) (fInt 2))) cYes PC_is_sky_1) aNil)))))
abbrev Has_is_sky (T : Tab) : Prop := T "is_sky" = some ⟨1, 2, P_is_sky⟩
def P_need_sky : SS := (sIf (cNot (cVal (fCallN "is_sky" 1 (aCons (fVar 0) aNil))))
  (sRaise "NoSky")
  sNext)
abbrev Has_need_sky (T : Tab) : Prop := T "need_sky" = some ⟨1, 1, P_need_sky⟩
def P_stands_by : SS := (sSeq (sUnp [3, 4, 5] (fVar 0))
  (sSeq (sUnp [6, 7, 8] (fAt (fVar 5) (fVar 1)))
  (sRetP (fTup (aCons (fBin gMod (fBin gAdd (fVar 6) (fBin gMul2 (fVar 7) (fVar 2))) (fVar 3)) (aCons (fAt (fVar 8) (fBin gMod (fVar 2) (fB gLen (aCons (fVar 8) aNil)))) aNil))))))
abbrev Has_stands_by (T : Tab) : Prop := T "stands_by" = some ⟨3, 9, P_stands_by⟩
def PC_is_back_1 : SE := (fBin gEq (fAt (fVar 5) (fBin gMod (fBin gAdd (fVar 6) (fVar 2)) (fB gLen (aCons (fVar 5) aNil)))) (fVar 7))
def P_is_back : SS := (sSeq (sUnp [3, 4, 5] (fVar 0))
  (sSeq (sIf (cVal (fBin gNe (fBin gMod (fBin gMul2 (fVar 4) (fVar 2)) (fVar 1)) (fInt 0)))
  (sRetP (fBl false))
  sNext)
  (sRetP (fB gAll (aCons (fComp [6, 7] (.names [6, 7]) (iEnumQ (aCons (fVar 5) aNil)) cYes PC_is_back_1) aNil)))))
abbrev Has_is_back (T : Tab) : Prop := T "is_back" = some ⟨3, 8, P_is_back⟩
def PC_round_of_1 : SE := (fCallN "is_back" 3 (aCons (fVar 5) (aCons (fVar 1) (aCons (fVar 4) aNil))))
def PB_round_of_2 : SS := (sAug 4 gAddI (fInt 1))
def P_round_of : SS := (sSeq (sExpr (fCallN "need_sky" 1 (aCons (fVar 0) aNil)))
  (sSeq (sUnp [1, 2, 3] (fVar 0))
  (sSeq (sSet 4 (fInt 1))
  (sSeq (sWhile 1000000 (cNot (cVal (fB gAll (aCons (fComp [5] (.name 5) (iSeq (fVar 3)) cYes PC_round_of_1) aNil))))
  PB_round_of_2)
  (sRetP (fVar 4))))))
abbrev Has_round_of (T : Tab) : Prop := T "round_of" = some ⟨1, 6, P_round_of⟩
def P_half_of : SS := (sRetP (fBin gDiv (fAt (fVar 0) (fInt 0)) (fInt 2)))
abbrev Has_half_of (T : Tab) : Prop := T "half_of" = some ⟨1, 1, P_half_of⟩
def P_is_cell : SS := (sRetP (fAnd (fCallN "is_row" 3 (aCons (fVar 1) (aCons (fInt 2) (aCons (fInt 2) aNil)))) (fAnd (fCallN "is_among" 3 (aCons (fAt (fVar 1) (fInt 0)) (aCons (fInt 0) (aCons (fBin gSub (fCallN "half_of" 1 (aCons (fVar 0) aNil)) (fInt 1)) aNil)))) (fCallN "is_among" 3 (aCons (fAt (fVar 1) (fInt 1)) (aCons (fInt 0) (aCons (fBin gSub (fAt (fVar 0) (fInt 1)) (fInt 1)) aNil)))))))
abbrev Has_is_cell (T : Tab) : Prop := T "is_cell" = some ⟨2, 2, P_is_cell⟩
def P_up_by : SS := (sSeq (sUnp [5, 6] (fCallN "stands_by" 3 (aCons (fVar 0) (aCons (fVar 1) (aCons (fVar 4) aNil)))))
  (sSeq (sSet 7 (fTup (aCons (fBin gMod (fBin gAdd (fVar 5) (fVar 2)) (fAt (fVar 0) (fInt 0))) (aCons (fBin gAdd (fVar 6) (fVar 3)) aNil))))
  (sRetP (fIf (cVal (fCallN "is_cell" 2 (aCons (fVar 0) (aCons (fVar 7) aNil)))) (fVar 7) fNon))))
abbrev Has_up_by (T : Tab) : Prop := T "up_by" = some ⟨5, 8, P_up_by⟩
def PC_is_lamp_1 : SE := (fCallN "is_among" 3 (aCons (fVar 2) (aCons (fInt 0) (aCons (fBin gSub (fCallN "half_of" 1 (aCons (fVar 0) aNil)) (fInt 1)) aNil))))
def PC_is_lamp_2 : SE := (fCallN "is_among" 3 (aCons (fVar 2) (aCons (fInt 0) (aCons (fBin gSub (fAt (fVar 0) (fInt 1)) (fInt 1)) aNil))))
def P_is_lamp : SS := (sSeq (sIf (cOr (cNot (cVal (fCallN "is_row" 3 (aCons (fVar 1) (aCons (fInt 4) (aCons (fInt 4) aNil)))))) (cNot (cVal (fB gAll (aCons (fComp [2] (.name 2) (iSeq (fSl (fVar 1) oNone (oSome (fInt 2)))) cYes PC_is_lamp_1) aNil)))))
  (sRetP (fBl false))
  sNext)
  (sSeq (sIf (cNot (cVal (fB gAll (aCons (fComp [2] (.name 2) (iSeq (fSl (fVar 1) (oSome (fInt 2)) oNone)) cYes PC_is_lamp_2) aNil))))
  (sRetP (fBl false))
  sNext)
  (sRetP (fAnd (fBin gLe (fAt (fVar 1) (fInt 0)) (fAt (fVar 1) (fInt 1))) (fBin gLe (fAt (fVar 1) (fInt 2)) (fAt (fVar 1) (fInt 3)))))))
abbrev Has_is_lamp (T : Tab) : Prop := T "is_lamp" = some ⟨2, 3, P_is_lamp⟩
def PC_are_lamps_1 : SE := (fCallN "is_lamp" 2 (aCons (fVar 0) (aCons (fVar 2) aNil)))
def P_are_lamps : SS := (sRetP (fAnd (fCallN "is_row" 3 (aCons (fVar 1) (aCons (fInt 1) (aCons (fInt 6) aNil)))) (fB gAll (aCons (fComp [2] (.name 2) (iSeq (fVar 1)) cYes PC_are_lamps_1) aNil))))
abbrev Has_are_lamps (T : Tab) : Prop := T "are_lamps" = some ⟨2, 3, P_are_lamps⟩
def PC_is_show_1 : SE := (fCallN "is_among" 3 (aCons (fVar 2) (aCons (fNeg (fInt 9)) (aCons (fInt 9) aNil))))
def P_is_show : SS := (sSeq (sIf (cOr (cNot (cVal (fCallN "is_row" 3 (aCons (fVar 1) (aCons (fInt 3) (aCons (fInt 3) aNil)))))) (cOr (cNot (cVal (fCallN "are_lamps" 2 (aCons (fVar 0) (aCons (fAt (fVar 1) (fInt 0)) aNil))))) (cNot (cVal (fCallN "is_row" 3 (aCons (fAt (fVar 1) (fInt 1)) (aCons (fB gLen (aCons (fAt (fVar 1) (fInt 0)) aNil)) (aCons (fB gLen (aCons (fAt (fVar 1) (fInt 0)) aNil)) aNil))))))))
  (sRetP (fBl false))
  sNext)
  (sRetP (fAnd (fB gAll (aCons (fComp [2] (.name 2) (iSeq (fAt (fVar 1) (fInt 1))) cYes PC_is_show_1) aNil)) (fCallN "is_among" 3 (aCons (fAt (fVar 1) (fInt 2)) (aCons (fInt 0) (aCons (fInt 9) aNil)))))))
abbrev Has_is_show (T : Tab) : Prop := T "is_show" = some ⟨2, 3, P_is_show⟩
def P_need_show : SS := (sSeq (sExpr (fCallN "need_sky" 1 (aCons (fVar 0) aNil)))
  (sIf (cNot (cVal (fCallN "is_show" 2 (aCons (fVar 0) (aCons (fVar 1) aNil)))))
  (sRaise "NoShow")
  sNext))
abbrev Has_need_show (T : Tab) : Prop := T "need_show" = some ⟨2, 2, P_need_show⟩
def P_is_part : SS := (sSeq (sIf (cOr (cNot (cVal (fCallN "is_row" 3 (aCons (fVar 1) (aCons (fInt 2) (aCons (fInt 2) aNil)))))) (cNot (cVal (fCallN "is_among" 3 (aCons (fAt (fVar 1) (fInt 0)) (aCons (fInt 0) (aCons (fBin gSub (fB gLen (aCons (fAt (fVar 0) (fInt 2)) aNil)) (fInt 1)) aNil)))))))
  (sRetP (fBl false))
  sNext)
  (sRetP (fOr (fIsNone (fAt (fVar 1) (fInt 1))) (fCallN "is_cell" 2 (aCons (fVar 0) (aCons (fAt (fVar 1) (fInt 1)) aNil))))))
abbrev Has_is_part (T : Tab) : Prop := T "is_part" = some ⟨2, 2, P_is_part⟩
def PC_need_report_1 : SE := (fCallN "is_part" 2 (aCons (fVar 0) (aCons (fVar 2) aNil)))
def P_need_report : SS := (sSeq (sExpr (fCallN "need_sky" 1 (aCons (fVar 0) aNil)))
  (sIf (cOr (cNot (cVal (fCallN "is_row" 3 (aCons (fVar 1) (aCons (fInt 0) (aCons (fInt 6) aNil)))))) (cNot (cVal (fB gAll (aCons (fComp [2] (.name 2) (iSeq (fVar 1)) cYes PC_need_report_1) aNil)))))
  (sRaise "NoReport")
  sNext))
abbrev Has_need_report (T : Tab) : Prop := T "need_report" = some ⟨2, 3, P_need_report⟩
def PC_places_of_1 : SE := (fTup (aCons (fVar 4) (aCons (fVar 5) aNil)))
def PI_places_of_2 : SI := (gInner [5] (.name 5) (iRange2 (aCons (fNeg (fVar 2)) (aCons (fBin gAdd (fVar 2) (fInt 1)) aNil))) cYes PC_places_of_1)
def P_places_of : SS := (sSeq (sUnp [1, 2, 3] (fVar 0))
  (sRetP (fComp2 [4, 5] (.name 4) (iRange1 (aCons (fVar 1) aNil)) cYes PI_places_of_2)))
abbrev Has_places_of (T : Tab) : Prop := T "places_of" = some ⟨1, 6, P_places_of⟩
def PC_all_views_1 : SE := (fBin gAdd (fTup (aCons (fVar 2) aNil)) (fVar 3))
def PI_all_views_2 : SI := (gInner [3] (.name 3) (iSeq (fVar 1)) cYes PC_all_views_1)
def P_all_views : SS := (sSeq (sSet 1 (fCallN "places_of" 1 (aCons (fVar 0) aNil)))
  (sRetP (fComp2 [2, 3] (.name 2) (iRange1 (aCons (fCallN "round_of" 1 (aCons (fVar 0) aNil)) aNil)) cYes PI_all_views_2)))
abbrev Has_all_views (T : Tab) : Prop := T "all_views" = some ⟨1, 4, P_all_views⟩
def PC_so_at_1 : SE := (fBin gEq (fCallN "up_by" 5 (aCons (fVar 0) (aCons (fVar 7) (aCons (fVar 4) (aCons (fVar 5) (aCons (fVar 3) aNil)))))) (fVar 8))
def PD_so_at_2 : ST := (cVal (fVar 10))
def PC_so_at_3 : SE := (fVar 9)
def P_so_at : SS := (sSeq (sUnp [3, 4, 5] (fVar 2))
  (sSeq (sSet 6 (fComp [7, 8] (.names [7, 8]) (iSeq (fVar 1)) cYes PC_so_at_1))
  (sRetP (fB gTuple (aCons (fComp [9, 10] (.names [9, 10]) (iEnumQ (aCons (fVar 6) aNil)) PD_so_at_2 PC_so_at_3) aNil)))))
abbrev Has_so_at (T : Tab) : Prop := T "so_at" = some ⟨3, 11, P_so_at⟩
def PC_are_apart_1 : SE := (fBin gIn (fVar 3) (fVar 2))
def PC_are_apart_2 : SE := (fB gAll (aCons (fComp [3] (.name 3) (iSeq (fVar 0)) cYes PC_are_apart_1) aNil))
def P_are_apart : SS := (sRetP (fNot (fB gAny (aCons (fComp [2] (.name 2) (iSeq (fVar 1)) cYes PC_are_apart_2) aNil))))
abbrev Has_are_apart (T : Tab) : Prop := T "are_apart" = some ⟨2, 4, P_are_apart⟩
def PC_cells_of_1 : SE := (fTup (aCons (fVar 1) (aCons (fVar 2) aNil)))
def PI_cells_of_2 : SI := (gInner [2] (.name 2) (iRange1 (aCons (fAt (fVar 0) (fInt 1)) aNil)) cYes PC_cells_of_1)
def P_cells_of : SS := (sRetP (fComp2 [1, 2] (.name 1) (iRange1 (aCons (fCallN "half_of" 1 (aCons (fVar 0) aNil)) aNil)) cYes PI_cells_of_2))
abbrev Has_cells_of (T : Tab) : Prop := T "cells_of" = some ⟨1, 3, P_cells_of⟩
def P_covers : SS := (sSeq (sUnp [2, 3, 4, 5] (fVar 0))
  (sRetP (fAnd (fChain gLe gLe (fVar 2) (fAt (fVar 1) (fInt 0)) (fVar 3)) (fChain gLe gLe (fVar 4) (fAt (fVar 1) (fInt 1)) (fVar 5)))))
abbrev Has_covers (T : Tab) : Prop := T "covers" = some ⟨2, 6, P_covers⟩
def PD_covering_by_1 : ST := (cVal (fCallN "covers" 2 (aCons (fVar 3) (aCons (fVar 1) aNil))))
def PC_covering_by_2 : SE := (fVar 2)
def P_covering_by : SS := (sRetP (fB gTuple (aCons (fComp [2, 3] (.names [2, 3]) (iEnumQ (aCons (fVar 0) aNil)) PD_covering_by_1 PC_covering_by_2) aNil)))
abbrev Has_covering_by (T : Tab) : Prop := T "covering_by" = some ⟨2, 4, P_covering_by⟩
end Q

namespace Q
open PySem PySem.Spec PyProof.Rows L2
@[simp] theorem x_enumQ {cf : CF} {env : EnvQ} {S : Sto} (a : SA) : iEnumQ a cf env S = (a cf env S).bind fun ws S1 => match ws with | [.d (.list xs)] => .ok (enumD 0 xs) S1 | [.d (.tuple xs)] => .ok (enumD 0 xs) S1 | _ => .stuck := rfl
@[simp] theorem x_zipQ {cf : CF} {env : EnvQ} {S : Sto} (a : SA) : iZipQ a cf env S = (a cf env S).bind fun ws S1 => match ws with | [.d (.list xs), .d (.list ys)] => .ok (zipD xs ys) S1 | [.d (.tuple xs), .d (.tuple ys)] => .ok (zipD xs ys) S1 | _ => .stuck := rfl
@[simp] theorem y_parX {cf : CF} {env : EnvQ} {S : Sto} (is : List Nat) (es : List EL) : sParX is es cf env S = (elsE es cf env S).then env fun ws S' => if ws.length ≤ LIM then (match setW is ws env with | some env' => .next env' S' | none => .stuck) else .stuck := rfl
@[simp] theorem z_els0 {cf : CF} {env : EnvQ} {S : Sto} : elsE [] cf env S = .ok [] S := rfl
@[simp] theorem z_elsP {cf : CF} {env : EnvQ} {S : Sto} (f : SE) (r : List EL) : elsE (.p f :: r) cf env S = (f cf env S).bind fun w S1 => if w.plain then (elsE r cf env S1).bind fun ws S2 => .ok (w :: ws) S2 else .stuck := rfl
@[simp] theorem z_elsO {cf : CF} {env : EnvQ} {S : Sto} (a : SA) (r : List EL) : elsE (.o a :: r) cf env S = (a cf env S).bind fun ws S1 => if ws.length ≤ LIM then (match datas ws with | some ds => (elsE r cf env S1).bind fun us S2 => .ok (.own ds :: us) S2 | none => .stuck) else .stuck := rfl
structure BaseT (T : Tab) : Prop where
  whole : Has_is_whole T
  among : Has_is_among T
  row : Has_is_row T
structure SkyT (T : Tab) : Prop extends BaseT T where
  light_of : Has_is_light_of T
  sky : Has_is_sky T
  need_sky : Has_need_sky T
section
variable {T : Tab}
theorem p_whole (b : BaseT T) (k : Nat) (S : Sto) (z : Int) : callQ T (k + 1) "is_whole" [.d (.int z)] S = .ok (.d (.bool true)) S := by
  rw [callQ_succ b.whole rfl rfl]; simp [P_is_whole, startQ]
theorem p_among (b : BaseT T) (k : Nat) (S : Sto) (z l h : Int) : callQ T (k + 2) "is_among" [.d (.int z), .d (.int l), .d (.int h)] S = .ok (.d (.bool (decide (l ≤ z ∧ z ≤ h)))) S := by
  rw [callQ_succ b.among rfl rfl]; simp [P_is_among, startQ, p_whole b]
  by_cases h1 : l ≤ z <;> simp [h1]
theorem p_row (b : BaseT T) (k : Nat) (S : Sto) (xs : List D) (l h : Int) : callQ T (k + 1) "is_row" [.d (.tuple xs), .d (.int l), .d (.int h)] S = .ok (.d (.bool (decide (l ≤ xs.length ∧ (xs.length : Int) ≤ h)))) S := by
  rw [callQ_succ b.row rfl rfl]; simp [P_is_row, startQ]
  by_cases h1 : l ≤ xs.length <;> simp [h1]
structure Light where
  c : Int
  s : Int
  rows : List Int
structure Sky where
  w : Int
  h : Int
  ls : List Light
def Light.D (l : Light) : D := .tuple [.int l.c, .int l.s, .tuple (l.rows.map .int)]
def Sky.D (s : Sky) : D := .tuple [.int s.w, .int s.h, .tuple (s.ls.map Light.D)]
structure Light.Ok (l : Light) (w h : Int) : Prop where
  c0 : 0 ≤ l.c
  c1 : l.c < w
  s0 : -9 ≤ l.s
  s1 : l.s ≤ 9
  r0 : 1 ≤ l.rows.length
  r1 : l.rows.length ≤ 4
  r : ∀ r ∈ l.rows, 0 ≤ r ∧ r < h
structure Sky.Ok (s : Sky) : Prop where
  w0 : 4 ≤ s.w
  w1 : s.w ≤ 12
  h0 : 1 ≤ s.h
  h1 : s.h ≤ 5
  l0 : 1 ≤ s.ls.length
  l1 : s.ls.length ≤ 6
  l : ∀ l ∈ s.ls, l.Ok s.w s.h
theorem p_light_of (b : SkyT T) (k : Nat) (S : Sto) {l : Light} {w h : Int} (o : l.Ok w h) : callQ T (k + 3) "is_light_of" [.d l.D, .d (.int w), .d (.int h)] S = .ok (.d (.bool true)) S := by
  rw [callQ_succ b.light_of rfl rfl]
  have e : ∀ n, compL (.name 3) (cYes (callQ T (k + 2))) (PC_is_light_of_1 (callQ T (k + 2))) [some (.d l.D), some (.d (.int w)), some (.d (.int h)), n] (l.rows.map PyData.int) S = .ok (l.rows.map fun _ => PyData.bool true) S := by
    intro n
    refine compL_on _ _ (fun d hd => by simp) fun t ht => ?_
    obtain ⟨h4, h5⟩ := o.r t ht
    have h6 : t ≤ h - 1 := by omega
    simp [PC_is_light_of_1, p_among b.toBaseT, h4, h6]
  have hb : bools (l.rows.map fun _ => PyData.bool true) = some (l.rows.map fun _ => true) := bools_on _ fun _ _ => rfl
  have c0 := o.c0
  have c1 : l.c ≤ w - 1 := by have := o.c1; omega
  have s0 := o.s0
  have s1 := o.s1
  have r0 : (1 : Int) ≤ l.rows.length := by have := o.r0; omega
  have r1 : (l.rows.length : Int) ≤ 4 := by have := o.r1; omega
  have hl : l.rows.length ≤ 16777216 := by omega
  simp only [Light.D] at e ⊢
  simp [P_is_light_of, startQ, p_row b.toBaseT, p_among b.toBaseT, atI, ixN, c0, c1, s0, s1, r0, r1, notOwn, e, LIM, hl, hb]
theorem p_sky (b : SkyT T) (k : Nat) (S : Sto) {s : Sky} (o : s.Ok) : callQ T (k + 4) "is_sky" [.d s.D] S = .ok (.d (.bool true)) S := by
  rw [callQ_succ b.sky rfl rfl]
  have e : ∀ n, compL (.name 1) (cYes (callQ T (k + 3))) (PC_is_sky_1 (callQ T (k + 3))) [some (.d s.D), n] (s.ls.map Light.D) S = .ok (s.ls.map fun _ => PyData.bool true) S := by
    intro n
    refine compL_on _ _ (fun d hd => by simp) fun t ht => ?_
    simp [PC_is_sky_1, Sky.D, atI, ixN, p_light_of b k S (o.l t ht)]
  have hb : bools (s.ls.map fun _ => PyData.bool true) = some (s.ls.map fun _ => true) := bools_on _ fun _ _ => rfl
  have w0 := o.w0
  have w1 := o.w1
  have h0 := o.h0
  have h1 := o.h1
  have r0 : (1 : Int) ≤ s.ls.length := by have := o.l0; omega
  have r1 : (s.ls.length : Int) ≤ 6 := by have := o.l1; omega
  have hl : s.ls.length ≤ 16777216 := by omega
  simp only [Sky.D] at e ⊢
  simp [P_is_sky, startQ, p_row b.toBaseT, p_among b.toBaseT, atI, ixN, w0, w1, h0, h1, r0, r1, notOwn, e, LIM, hl, hb]
theorem p_need_sky (b : SkyT T) (k : Nat) (S : Sto) {s : Sky} (o : s.Ok) : callQ T (k + 5) "need_sky" [.d s.D] S = .ok (.d .none) S := by
  rw [callQ_succ b.need_sky rfl rfl]; simp [P_need_sky, startQ, p_sky b k S o]
/-- the row of a light at a moment -/
def Light.row (l : Light) (m : Int) : Int := l.rows.getD (m % l.rows.length).toNat 0
def Light.at (l : Light) (w m : Int) : PyData := .tuple [.int ((l.c + l.s * m) % w), .int (l.row m)]
theorem Light.Ok.at {l : Light} {w h : Int} (o : l.Ok w h) (m : Int) : atI (l.rows.map PyData.int) (m % (l.rows.length : Int)) = some (.int (l.row m)) := by
  have h0 := o.r0
  have a0 := Int.emod_nonneg m (b := (l.rows.length : Int)) (by omega)
  have a1 := Int.emod_lt_of_pos m (b := (l.rows.length : Int)) (by omega)
  obtain ⟨j, hj⟩ := Int.eq_ofNat_of_zero_le a0
  have hl : j < l.rows.length := by omega
  rw [hj, atI_nat]
  simp [Light.row, hj, hl]
theorem sh_light {l : Light} {w h : Int} (o : l.Ok w h) (h1 : w ≤ 12) (h2 : h ≤ 5) : Sh 300 2 l.D := by
  have hr : Sh 200 1 (.tuple (l.rows.map PyData.int)) := (sh_tup (n := 13) (k := 0) (xs := l.rows.map PyData.int) fun x hx => by
    obtain ⟨t, ht, rfl⟩ := List.mem_map.mp hx
    have := o.r t ht
    exact sh_int (by omega)).mono (by have := o.r1; simp; omega) (Nat.le_refl _)
  have := o.c0; have := o.c1; have := o.s0; have := o.s1
  refine (sh_tup (n := 63) (k := 1) (xs := [.int l.c, .int l.s, .tuple (l.rows.map PyData.int)]) fun x hx => ?_).mono (by simp) (Nat.le_refl _)
  simp at hx
  rcases hx with rfl | rfl | rfl
  · exact (sh_int (by omega)).mono (by omega) (by omega)
  · exact (sh_int (by omega)).mono (by omega) (by omega)
  · exact (sh_tup (n := 13) (k := 0) (xs := l.rows.map PyData.int) fun x hx => by
      obtain ⟨t, ht, rfl⟩ := List.mem_map.mp hx
      have := o.r t ht
      exact sh_int (by omega)).mono (by have := o.r1; simp; omega) (Nat.le_refl _)
theorem sh_sky {s : Sky} (o : s.Ok) : Sh 8000 4 s.D := by
  have w0 := o.w0; have w1 := o.w1; have h0 := o.h0; have h1 := o.h1
  refine (sh_tup (n := 2000) (k := 3) (xs := [.int s.w, .int s.h, .tuple (s.ls.map Light.D)]) fun x hx => ?_).mono (by simp) (Nat.le_refl _)
  simp at hx
  rcases hx with rfl | rfl | rfl
  · exact (sh_int (by omega)).mono (by omega) (by omega)
  · exact (sh_int (by omega)).mono (by omega) (by omega)
  · exact (sh_tup (n := 300) (k := 2) (xs := s.ls.map Light.D) fun x hx => by
      obtain ⟨t, ht, rfl⟩ := List.mem_map.mp hx
      exact sh_light (o.l t ht) w1 h1).mono (by have := o.l1; simp; omega) (Nat.le_refl _)
end
end Q

namespace Q
open PySem PySem.Spec PyProof.Rows L2
structure StandB (T : Tab) : Prop extends SkyT T where
  stands_by : Has_stands_by T
structure DomeT (T : Tab) : Prop extends StandB T where
  half : Has_half_of T
  cell : Has_is_cell T
  up : Has_up_by T
def Sky.cell (s : Sky) (x y : Int) : Bool := decide (0 ≤ x ∧ x < s.w / 2 ∧ 0 ≤ y ∧ y < s.h)
def Sky.at (s : Sky) (i : Nat) : Light := s.ls.getD i ⟨0, 0, []⟩
/-- where light i is seen from (e, n) at m -/
def Sky.up (s : Sky) (i : Nat) (e n m : Int) : Option (Int × Int) :=
  let l := s.at i
  let x := (l.c + l.s * m + e) % s.w
  let y := l.row m + n
  if s.cell x y = true then some (x, y) else none
def cellD : Option (Int × Int) → D
  | none => .none
  | some p => pairD p
section
variable {T : Tab}
theorem Sky.at_eq {s : Sky} {i : Nat} (hi : i < s.ls.length) : s.at i = s.ls[i] := by
  simp [Sky.at, hi]
theorem Sky.Ok.at {s : Sky} (o : s.Ok) {i : Nat} (hi : i < s.ls.length) : (s.at i).Ok s.w s.h := by
  rw [Sky.at_eq hi]
  exact o.l _ (List.getElem_mem hi)
theorem p_standB (b : StandB T) (k : Nat) (S : Sto) {s : Sky} (o : s.Ok) {i : Nat} (hi : i < s.ls.length) (m : Int) : callQ T (k + 1) "stands_by" [.d s.D, .d (.int i), .d (.int m)] S = .ok (.d ((s.at i).at s.w m)) S := by
  rw [callQ_succ b.stands_by rfl rfl, Sky.at_eq hi]
  have ol := o.l _ (List.getElem_mem hi)
  have hs : sm s.ls[i].s = true := by
    have := ol.s0
    have := ol.s1
    exact Nat.ble_eq_true_of_le (by omega)
  have w0 : 0 < s.w := by have := o.w0; omega
  have r0 : 0 < s.ls[i].rows.length := by have := ol.r0; omega
  have r0' : (0 : Int) < s.ls[i].rows.length := by omega
  have ha := ol.at m
  simp [P_stands_by, startQ, Sky.D, atI_nat, hi, Light.D, hs, w0, r0, r0', ha, LIM, Light.at, -atI]
theorem p_half (b : Has_half_of T) (k : Nat) (S : Sto) (s : Sky) : callQ T (k + 1) "half_of" [.d s.D] S = .ok (.d (.int (s.w / 2))) S := by
  rw [callQ_succ b rfl rfl]
  have a0 : ∀ {α : Type} (x y z : α), atI [x, y, z] 0 = some x := fun _ _ _ => rfl
  have hb : Nat.ble 2 18446744073709551615 = true := by decide
  simp [P_half_of, startQ, Sky.D, a0, hb, -Nat.ble_eq]
theorem p_cell (b : BaseT T) (hh : Has_half_of T) (hc : Has_is_cell T) (k : Nat) (S : Sto) (s : Sky) (x y : Int) : callQ T (k + 3) "is_cell" [.d s.D, .d (.tuple [.int x, .int y])] S = .ok (.d (.bool (s.cell x y))) S := by
  rw [callQ_succ hc rfl rfl]
  have a0 : ∀ {α : Type} (x y : α), atI [x, y] 0 = some x := fun _ _ => rfl
  have a1 : ∀ {α : Type} (x y : α), atI [x, y] 1 = some y := fun _ _ => rfl
  have b1 : ∀ {α : Type} (x y z : α), atI [x, y, z] 1 = some y := fun _ _ _ => rfl
  have hr : gAt (.d s.D) (.d (.int 1)) S = .ok (.d (.int s.h)) S := rfl
  by_cases h1 : 0 ≤ x ∧ x ≤ s.w / 2 - 1
  · have e : s.cell x y = (decide (0 ≤ y) && decide (y ≤ s.h - 1)) := by
      unfold Sky.cell
      rw [Bool.eq_iff_iff]
      simp
      omega
    simp [P_is_cell, startQ, p_row b, p_among b, p_half hh, a0, a1, hr, h1, e]
  · have e : s.cell x y = false := by
      unfold Sky.cell
      simp
      omega
    simp [P_is_cell, startQ, p_row b, p_among b, p_half hh, a0, a1, hr, h1, e]
theorem p_up (b : DomeT T) (k : Nat) (S : Sto) {s : Sky} (o : s.Ok) {i : Nat} (hi : i < s.ls.length) (e n m : Int) : callQ T (k + 4) "up_by" [.d s.D, .d (.int i), .d (.int e), .d (.int n), .d (.int m)] S = .ok (.d (cellD (s.up i e n m))) S := by
  rw [callQ_succ b.up rfl rfl]
  have w0 : 0 < s.w := by have := o.w0; omega
  have hr : gAt (.d s.D) (.d (.int 0)) S = .ok (.d (.int s.w)) S := rfl
  by_cases hc : s.cell (((s.at i).c + (s.at i).s * m + e) % s.w) ((s.at i).row m + n) = true <;> simp [P_up_by, startQ, p_standB b.toStandB (k + 2) S o hi m, Light.at, hr, w0, LIM, p_cell b.toBaseT b.half b.cell k, Sky.up, hc, cellD, pairD]
/-- a cell in the dome is small -/
theorem Sky.up_lt {s : Sky} {i : Nat} {e n m : Int} {p : Int × Int} (h : s.up i e n m = some p) : 0 ≤ p.1 ∧ p.1 < s.w / 2 ∧ 0 ≤ p.2 ∧ p.2 < s.h := by
  unfold Sky.up at h
  simp only at h
  split at h
  · rename_i hc
    cases h
    exact of_decide_eq_true hc
  · cases h
theorem sh_pair {p : Int × Int} (h1 : p.1.natAbs < 10 ^ 12) (h2 : p.2.natAbs < 10 ^ 12) : Sh 33 1 (pairD p) := by
  refine sh_tup (n := 13) (k := 0) (xs := [.int p.1, .int p.2]) fun x hx => ?_
  simp at hx
  rcases hx with rfl | rfl
  · exact sh_int h1
  · exact sh_int h2
end
end Q

namespace Q
open PySem PySem.Spec PyProof.Rows L2
structure RoundT (T : Tab) : Prop extends SkyT T where
  back : Has_is_back T
  round : Has_round_of T
def Light.back (l : Light) (w : Int) (many : Nat) : Bool := decide (l.s * many % w = 0) && (List.range l.rows.length).all fun n => decide (l.row (n + many) = l.rows.getD n 0)
theorem enumD_ints (xs : List Int) : ∀ k, enumD k (xs.map PyData.int) = (List.range xs.length).map fun n : Nat => PyData.tuple [.int ((k + n : Nat) : Int), .int (xs.getD n 0)] := by
  induction xs with
  | nil => intro k; rfl
  | cons x xs ih =>
    intro k
    rw [List.length_cons, List.range_succ_eq_map]
    simp only [List.map_cons, enumD, ih, List.map_map]
    simp
    intro a _
    omega
section
variable {T : Tab}
theorem p_back (b : RoundT T) (k : Nat) (S : Sto) {l : Light} {w h : Int} (o : l.Ok w h) (many : Nat) : callQ T (k + 1) "is_back" [.d l.D, .d (.int w), .d (.int many)] S = .ok (.d (.bool (l.back w many))) S := by
  rw [callQ_succ b.back rfl rfl]
  have w0 : 0 < w := by have := o.c0; have := o.c1; omega
  have r0 := o.r0
  have r1 := o.r1
  have hs : sm l.s = true := by
    have := o.s0
    have := o.s1
    exact Nat.ble_eq_true_of_le (by omega)
  have e : compL (.names [6, 7]) (cYes (callQ T k)) (PC_is_back_1 (callQ T k)) [some (.d l.D), some (.d (.int w)), some (.d (.int many)), some (.d (.int l.c)), some (.d (.int l.s)), some (.d (.tuple (l.rows.map PyData.int))), none, none] ((List.range l.rows.length).map fun n : Nat => PyData.tuple [.int ((0 + n : Nat) : Int), .int (l.rows.getD n 0)]) S = .ok ((List.range l.rows.length).map fun n : Nat => PyData.bool (decide (l.row (n + many) = l.rows.getD n 0))) S := by
    refine compL_tg (t := .names [6, 7]) (fun n : Nat => PyData.tuple [.int ((0 + n : Nat) : Int), .int (l.rows.getD n 0)]) _ (fun n : Nat => [some (.d l.D), some (.d (.int w)), some (.d (.int many)), some (.d (.int l.c)), some (.d (.int l.s)), some (.d (.tuple (l.rows.map PyData.int))), some (.d (.int ((0 + n : Nat) : Int))), some (.d (.int (l.rows.getD n 0)))]) (fun x hx => rfl) (fun x hx => rfl) fun n hn => ?_
    have hl : (0 : Int) < l.rows.length := by omega
    have hl2 : 0 < l.rows.length := by omega
    have ha := o.at (n + many)
    simp [PC_is_back_1, hl2, ha]
  have hb : bools ((List.range l.rows.length).map fun n : Nat => PyData.bool (decide (l.row (n + many) = l.rows.getD n 0))) = some ((List.range l.rows.length).map fun n : Nat => decide (l.row (n + many) = l.rows.getD n 0)) := bools_on _ fun _ _ => rfl
  have hli : l.rows.length ≤ 16777216 := by omega
  rw [← enumD_ints] at e
  simp only [List.getD_eq_getElem?_getD] at hb
  by_cases c : l.s * many % w = 0
  · simp [P_is_back, startQ, Light.D] at e ⊢
    simp [hs, w0, c, notOwn, e, LIM, hli, hb, Light.back, List.all_map, Function.comp_def]
  · simp [P_is_back, startQ, Light.D, hs, w0, c, Light.back]
def Sky.back (s : Sky) (many : Nat) : Bool := s.ls.all fun l => l.back s.w many
theorem p_round (b : RoundT T) (k : Nat) (S : Sto) {s : Sky} (o : s.Ok) {N : Nat} (h1 : 1 ≤ N) (h2 : N ≤ 1000) (hN : s.back N = true) (hj : ∀ j, 1 ≤ j → j < N → s.back j = false) : callQ T (k + 6) "round_of" [.d s.D] S = .ok (.d (.int N)) S := by
  rw [callQ_succ b.round rfl rfl]
  have l1 := o.l1
  have hc : ∀ i : Nat, (cNot (cVal (fB gAll (aCons (fComp [5] (.name 5) (iSeq (fVar 3)) cYes PC_round_of_1) aNil)))) (callQ T (k + 5)) [some (.d s.D), some (.d (.int s.w)), some (.d (.int s.h)), some (.d (.tuple (s.ls.map Light.D))), some (.d (.int ((1 + i : Nat) : Int))), none] S = .ok (!s.back (1 + i)) S := by
    intro i
    have e : compL (.name 5) (cYes (callQ T (k + 5))) (PC_round_of_1 (callQ T (k + 5))) [some (.d s.D), some (.d (.int s.w)), some (.d (.int s.h)), some (.d (.tuple (s.ls.map Light.D))), some (.d (.int ((1 + i : Nat) : Int))), none] (s.ls.map Light.D) S = .ok (s.ls.map fun l => PyData.bool (l.back s.w (1 + i))) S := by
      refine compL_on _ _ (fun d hd => rfl) fun l hl => ?_
      have hq := p_back b (k + 4) S (o.l l hl) (1 + i)
      simp at hq
      simp [PC_round_of_1, hq]
    have hb : bools (s.ls.map fun l => PyData.bool (l.back s.w (1 + i))) = some (s.ls.map fun l => l.back s.w (1 + i)) := bools_on _ fun _ _ => rfl
    have hl : s.ls.length ≤ 16777216 := by omega
    simp at e
    simp [notOwn, e, LIM, hl, hb, Sky.back, List.all_map, Function.comp_def]
  have hw := whileL_N (c := (cNot (cVal (fB gAll (aCons (fComp [5] (.name 5) (iSeq (fVar 3)) cYes PC_round_of_1) aNil)))) (callQ T (k + 5))) (body := PB_round_of_2 (callQ T (k + 5))) (fun i => [some (.d s.D), some (.d (.int s.w)), some (.d (.int s.h)), some (.d (.tuple (s.ls.map Light.D))), some (.d (.int ((1 + i : Nat) : Int))), none]) S (N - 1)
    (fun i hi => by rw [hc, hj (1 + i) (by omega) (by omega)]; rfl) (fun i hi => by
      simp [PB_round_of_2, gAddI]
      omega) (by rw [hc, show 1 + (N - 1) = N by omega, hN]; rfl) (N - 1) 1000000 0 (by omega) (by omega)
  rw [show 1 + (N - 1) = N by omega] at hw
  have hw2 : whileL ((cNot (cVal (fB gAll (aCons (fComp [5] (.name 5) (iSeq (fVar 3)) cYes PC_round_of_1) aNil)))) (callQ T (k + 5))) (PB_round_of_2 (callQ T (k + 5))) 1000000 [some (.d s.D), some (.d (.int s.w)), some (.d (.int s.h)), some (.d (.tuple (s.ls.map Light.D))), some (.d (.int 1)), none] S = .next [some (.d s.D), some (.d (.int s.w)), some (.d (.int s.h)), some (.d (.tuple (s.ls.map Light.D))), some (.d (.int N)), none] S := hw
  have hs : s.D = .tuple [.int s.w, .int s.h, .tuple (s.ls.map Light.D)] := rfl
  have hn := p_need_sky b.toSkyT k S o
  rw [hs] at hw2 hn ⊢
  simp [P_round_of, startQ, hn, -x_cNot]
  rw [hw2]
  rfl
theorem Light.row_mul (l : Light) (m : Int) (j : Nat) : l.row (m + l.rows.length * j) = l.row m := by
  unfold Light.row
  rw [Int.add_mul_emod_self_left]
theorem Light.Ok.back12 {l : Light} {w h : Int} (o : l.Ok w h) {W : Nat} (hW : (W : Int) = w) : l.back w (12 * W) = true := by
  have r0 := o.r0
  have r1 := o.r1
  unfold Light.back
  rw [Bool.and_eq_true]
  refine ⟨decide_eq_true ?_, List.all_eq_true.mpr fun n hn => decide_eq_true ?_⟩
  · rw [show l.s * ((12 * W : Nat) : Int) = w * (l.s * 12) by rw [← hW]; push_cast; rw [Int.mul_comm 12, ← Int.mul_assoc, Int.mul_comm l.s, Int.mul_assoc]]
    exact Int.mul_emod_right _ _
  · have hn : n < l.rows.length := by simpa using hn
    have : ∃ q, 12 = l.rows.length * q := by
      have : l.rows.length = 1 ∨ l.rows.length = 2 ∨ l.rows.length = 3 ∨ l.rows.length = 4 := by omega
      rcases this with h | h | h | h <;> rw [h]
      · exact ⟨12, rfl⟩
      · exact ⟨6, rfl⟩
      · exact ⟨4, rfl⟩
      · exact ⟨3, rfl⟩
    obtain ⟨q, hq⟩ := this
    rw [hq, Nat.mul_assoc]
    push_cast
    rw [← Int.natCast_mul q W]
    rw [Light.row_mul]
    unfold Light.row
    rw [Int.emod_eq_of_lt (by omega) (by omega)]
    rfl
theorem Sky.Ok.round {s : Sky} (o : s.Ok) : ∃ N : Nat, 1 ≤ N ∧ (N : Int) ≤ 12 * s.w ∧ s.back N = true ∧ ∀ j, 1 ≤ j → j < N → s.back j = false := by
  have w0 := o.w0
  obtain ⟨W, hW⟩ := Int.eq_ofNat_of_zero_le (show 0 ≤ s.w by omega)
  have hb : s.back (12 * W) = true := List.all_eq_true.mpr fun l hl => (o.l l hl).back12 hW.symm
  obtain ⟨N, a, b, c, d⟩ := least_from (P := fun n => s.back n = true) (12 * W) (by omega) hb
  exact ⟨N, a, by omega, c, fun j h1 h2 => by simpa using d j h1 h2⟩
end
end Q

namespace Q
open PySem PySem.Spec PyProof.Rows L2
structure ViewB (T : Tab) : Prop extends DomeT T where
  is_part : Has_is_part T
  need_report : Has_need_report T
  places_of : Has_places_of T
  all_views : Has_all_views T
  so_at : Has_so_at T
  back : Has_is_back T
  round : Has_round_of T
abbrev Part := Nat × Option (Int × Int)
def partD (p : Part) : D := .tuple [.int (p.1 : Int), cellD p.2]
def repD (r : List Part) : D := .tuple (r.map partD)
structure PartOk (p : Part) (s : Sky) : Prop where
  l : p.1 < s.ls.length
  c : ∀ q, p.2 = some q → s.cell q.1 q.2 = true
structure RepOk (r : List Part) (s : Sky) : Prop where
  l : r.length ≤ 6
  p : ∀ p ∈ r, PartOk p s
abbrev View := Int × Int × Int
def viewD (v : View) : D := .tuple [.int v.1, .int v.2.1, .int v.2.2]
def places (s : Sky) : List (Int × Int) := (List.range s.w.toNat).flatMap fun e : Nat => (List.range (2 * s.h + 1).toNat).map fun j : Nat => ((e : Int), -s.h + (j : Int))
def allViews (s : Sky) (N : Nat) : List View := (List.range N).flatMap fun m : Nat => (places s).map fun p => ((m : Int), p.1, p.2)
def partAt (s : Sky) (v : View) (p : Part) : Bool := decide (s.up p.1 v.2.1 v.2.2 v.1 = p.2)
def okAt (s : Sky) (r : List Part) (v : View) : Bool := r.all (partAt s v)
def viewsOf (s : Sky) (N : Nat) (r : List Part) : List View := (allViews s N).filter (okAt s r)
theorem sum_same' (n c : Nat) : ((List.range n).map fun _ => c).sum = n * c := by
  induction n with
  | zero => simp
  | succ n ih => rw [List.range_succ, List.map_append, List.sum_append, ih]; simp [Nat.add_mul]
theorem places_len {s : Sky} (o : s.Ok) : (places s).length ≤ 132 := by
  unfold places
  rw [List.length_flatMap]
  simp only [List.length_map, List.length_range]
  rw [sum_same']
  have w1 := o.w1; have h1 := o.h1
  have : s.w.toNat * (2 * s.h + 1).toNat ≤ 12 * 11 := Nat.mul_le_mul (by omega) (by omega)
  omega
theorem views_len {s : Sky} (o : s.Ok) (N : Nat) : (allViews s N).length ≤ N * 132 := by
  unfold allViews
  rw [List.length_flatMap]
  simp only [List.length_map]
  rw [sum_same']
  exact Nat.mul_le_mul_left _ (places_len o)
section
variable {T : Tab}
theorem g_eqCell (S : Sto) (a b : Option (Int × Int)) : gEq (.d (cellD a)) (.d (cellD b)) S = .ok (.d (.bool (decide (a = b)))) S := by
  cases a with
  | none => cases b <;> simp [cellD, pairD, gEq, okEq, PyData.canLay0, PyData.canLayAll0, PyData.depth, PyData.depthAll, PyData.eqv, PyData.eqvAll]
  | some p =>
    cases b with
    | none => simp [cellD, pairD, gEq, okEq, PyData.canLay0, PyData.canLayAll0, PyData.depth, PyData.depthAll, PyData.eqv, PyData.eqvAll]
    | some q =>
      simp [cellD, pairD, gEq, okEq, PyData.canLay0, PyData.canLayAll0, PyData.depth, PyData.depthAll, PyData.eqv, PyData.eqvAll]
      rw [Bool.eq_iff_iff]
      simp [Prod.ext_iff]
theorem p_places (b : ViewB T) (k : Nat) (S : Sto) {s : Sky} (o : s.Ok) : callQ T (k + 1) "places_of" [.d s.D] S = .ok (.d (.list ((places s).map pairD))) S := by
  rw [callQ_succ b.places_of rfl rfl]
  have w0 := o.w0; have w1 := o.w1; have h0 := o.h0; have h1 := o.h1
  have hr1 : inR s.w = true := inR_of (by omega) (by omega)
  have hr2 : inR (-s.h) = true := inR_of (by omega) (by omega)
  have hr3 : inR (s.h + 1) = true := inR_of (by omega) (by omega)
  have hn : (s.h + 1 - -s.h).toNat = (2 * s.h + 1).toNat := by omega
  have hn' : (s.h + 1 + s.h).toNat = (2 * s.h + 1).toNat := by omega
  have hs : s.D = .tuple [.int s.w, .int s.h, .tuple (s.ls.map Light.D)] := rfl
  have inner : ∀ (e : Nat) (e5 : Option W), PI_places_of_2 (callQ T k) [some (.d s.D), some (.d (.int s.w)), some (.d (.int s.h)), some (.d (.tuple (s.ls.map Light.D))), some (.d (.int (0 + (e : Int)))), none] S = .ok ((List.range (2 * s.h + 1).toNat).map fun j : Nat => pairD ((e : Int), -s.h + (j : Int))) S := by
    intro e e5
    have e' : compL (.name 5) (cYes (callQ T k)) (PC_places_of_1 (callQ T k)) [some (.d s.D), some (.d (.int s.w)), some (.d (.int s.h)), some (.d (.tuple (s.ls.map Light.D))), some (.d (.int (0 + (e : Int)))), none] (rangeD (-s.h) (2 * s.h + 1).toNat) S = .ok ((List.range (2 * s.h + 1).toNat).map fun j : Nat => pairD ((e : Int), -s.h + (j : Int))) S := by
      unfold rangeD
      refine compL_tg (t := .name 5) (fun j : Nat => PyData.int (-s.h + (j : Int))) _ (fun j : Nat => [some (.d s.D), some (.d (.int s.w)), some (.d (.int s.h)), some (.d (.tuple (s.ls.map Light.D))), some (.d (.int (0 + (e : Int)))), some (.d (.int (-s.h + (j : Int))))]) (fun x hx => rfl) (fun x hx => rfl) fun j hj => ?_
      simp [PC_places_of_1, LIM, pairD]
    simp at e'
    simp [PI_places_of_2, x_inner, notOwn, hr2, hr3, hn, hn', e']
  have e : compL2 (.name 4) (cYes (callQ T k)) (PI_places_of_2 (callQ T k)) [some (.d s.D), some (.d (.int s.w)), some (.d (.int s.h)), some (.d (.tuple (s.ls.map Light.D))), none, none] (rangeD 0 s.w.toNat) S = .ok ((List.range s.w.toNat).flatMap fun e : Nat => (List.range (2 * s.h + 1).toNat).map fun j : Nat => pairD ((e : Int), -s.h + (j : Int))) S := by
    unfold rangeD
    exact compL2_on (t := .name 4) (fun i : Nat => PyData.int (0 + (i : Int))) _ (fun i : Nat => [some (.d s.D), some (.d (.int s.w)), some (.d (.int s.h)), some (.d (.tuple (s.ls.map Light.D))), some (.d (.int (0 + (i : Int)))), none]) (fun x hx => rfl) (fun x hx => rfl) fun i hi => inner i none
  have e' : ((List.range s.w.toNat).flatMap fun e : Nat => (List.range (2 * s.h + 1).toNat).map fun j : Nat => pairD ((e : Int), -s.h + (j : Int))) = (places s).map pairD := by
    rw [places, List.map_flatMap]
    congr 1
    funext c
    rw [List.map_map]
    rfl
  rw [e'] at e
  have hl : (places s).length ≤ 16777216 := by have := places_len o; omega
  rw [hs] at e ⊢
  simp [P_places_of, startQ, notOwn, hr1, e, LIM, hl]
theorem p_all_views (b : ViewB T) (k : Nat) (S : Sto) {s : Sky} (o : s.Ok) {N : Nat} (h1 : 1 ≤ N) (h2 : N ≤ 1000) (hN : s.back N = true) (hj : ∀ j, 1 ≤ j → j < N → s.back j = false) : callQ T (k + 7) "all_views" [.d s.D] S = .ok (.d (.list ((allViews s N).map viewD))) S := by
  rw [callQ_succ b.all_views rfl rfl]
  have bR : RoundT T := ⟨b.toSkyT, b.back, b.round⟩
  have hr := p_round bR k S o h1 h2 hN hj
  have hrN : inR (N : Int) = true := inR_of (by omega) (by omega)
  have inner : ∀ (m : Nat), PI_all_views_2 (callQ T (k + 6)) [some (.d s.D), some (.d (.list ((places s).map pairD))), some (.d (.int (0 + (m : Int)))), none] S = .ok ((places s).map fun p => viewD ((m : Int), p.1, p.2)) S := by
    intro m
    have e' : compL (.name 3) (cYes (callQ T (k + 6))) (PC_all_views_1 (callQ T (k + 6))) [some (.d s.D), some (.d (.list ((places s).map pairD))), some (.d (.int (0 + (m : Int)))), none] ((places s).map pairD) S = .ok ((places s).map fun p => viewD ((m : Int), p.1, p.2)) S := by
      refine compL_tg (t := .name 3) pairD _ (fun p => [some (.d s.D), some (.d (.list ((places s).map pairD))), some (.d (.int (0 + (m : Int)))), some (.d (pairD p))]) (fun x hx => rfl) (fun x hx => rfl) fun p hp => ?_
      have hadd : gAdd (.d (.tuple [.int (m : Int)])) (.d (pairD p)) S = .ok (.d (viewD ((m : Int), p.1, p.2))) S := rfl
      simp [PC_all_views_1, LIM, hadd]
    simp at e'
    simp [PI_all_views_2, x_inner, notOwn, e']
  have e : compL2 (.name 2) (cYes (callQ T (k + 6))) (PI_all_views_2 (callQ T (k + 6))) [some (.d s.D), some (.d (.list ((places s).map pairD))), none, none] (rangeD 0 N) S = .ok ((List.range N).flatMap fun m : Nat => (places s).map fun p => viewD ((m : Int), p.1, p.2)) S := by
    unfold rangeD
    exact compL2_on (t := .name 2) (fun i : Nat => PyData.int (0 + (i : Int))) _ (fun i : Nat => [some (.d s.D), some (.d (.list ((places s).map pairD))), some (.d (.int (0 + (i : Int)))), none]) (fun x hx => rfl) (fun x hx => rfl) fun i hi => inner i
  have e' : ((List.range N).flatMap fun m : Nat => (places s).map fun p => viewD ((m : Int), p.1, p.2)) = (allViews s N).map viewD := by
    rw [allViews, List.map_flatMap]
    congr 1
    funext c
    rw [List.map_map]
    rfl
  rw [e'] at e
  have hl : (allViews s N).length ≤ 16777216 := by have := views_len o N; omega
  simp [P_all_views, startQ, p_places b (k + 5) S o, hr, hrN, notOwn, e, LIM, hl]
theorem p_part (b : ViewB T) (k : Nat) (S : Sto) {s : Sky} {p : Part} (o : PartOk p s) : callQ T (k + 4) "is_part" [.d s.D, .d (partD p)] S = .ok (.d (.bool true)) S := by
  rw [callQ_succ b.is_part rfl rfl]
  have r2 : callQ T (k + 3) "is_row" [.d (partD p), .d (.int 2), .d (.int 2)] S = .ok (.d (.bool true)) S := by
    rw [partD, p_row b.toBaseT]; rfl
  have q0 : gAt (.d (partD p)) (.d (.int 0)) S = .ok (.d (.int (p.1 : Int))) S := rfl
  have q1 : gAt (.d (partD p)) (.d (.int 1)) S = .ok (.d (cellD p.2)) S := rfl
  have q2 : gAt (.d s.D) (.d (.int 2)) S = .ok (.d (.tuple (s.ls.map Light.D))) S := rfl
  have hl := o.l
  have x1 : (p.1 : Int) ≤ s.ls.length - 1 := by omega
  cases hp : p.2 with
  | none =>
    rw [hp] at q1
    simp [P_is_part, startQ, r2, q0, q1, q2, p_among b.toBaseT, x1, cellD, W.isNone]
  | some q =>
    have hc := p_cell b.toBaseT b.half b.cell k S s q.1 q.2
    rw [o.c q hp] at hc
    rw [hp] at q1
    have hn : W.isNone (.d (cellD (some q))) = false := rfl
    have hcell : cellD (some q) = .tuple [.int q.1, .int q.2] := rfl
    rw [← hcell] at hc
    simp [P_is_part, startQ, r2, q0, q1, q2, p_among b.toBaseT, x1, hn, hc]
theorem p_need_report (b : ViewB T) (k : Nat) (S : Sto) {s : Sky} (os : s.Ok) {r : List Part} (o : RepOk r s) : callQ T (k + 6) "need_report" [.d s.D, .d (repD r)] S = .ok (.d .none) S := by
  rw [callQ_succ b.need_report rfl rfl]
  have hrep : repD r = .tuple (r.map partD) := rfl
  rw [hrep]
  have e : ∀ n, compL (.name 2) (cYes (callQ T (k + 5))) (PC_need_report_1 (callQ T (k + 5))) [some (.d s.D), some (.d (.tuple (r.map partD))), n] (r.map partD) S = .ok (r.map fun _ => PyData.bool true) S := by
    intro n
    refine compL_on _ _ (fun d hd => by simp) fun t ht => ?_
    simp [PC_need_report_1, p_part b (k + 1) S (o.p t ht)]
  have hb : bools (r.map fun _ => PyData.bool true) = some (r.map fun _ => true) := bools_on _ fun _ _ => rfl
  have hl := o.l
  have h3 : r.length ≤ 16777216 := by omega
  have h4 : (r.length : Int) ≤ 6 := by omega
  simp [P_need_report, startQ, p_need_sky b.toSkyT k S os, p_row b.toBaseT, h4, notOwn, e, LIM, h3, hb]
theorem p_so_at (b : ViewB T) (k : Nat) (S : Sto) {s : Sky} (os : s.Ok) {r : List Part} (o : RepOk r s) (v : View) : callQ T (k + 5) "so_at" [.d s.D, .d (repD r), .d (viewD v)] S = .ok (.d (.tuple (((List.range r.length).filter fun i => (r.map (partAt s v)).getD i false).map fun i : Nat => PyData.int ((0 + i : Nat) : Int)))) S := by
  rw [callQ_succ b.so_at rfl rfl]
  have hrep : repD r = .tuple (r.map partD) := rfl
  have hv : viewD v = .tuple [.int v.1, .int v.2.1, .int v.2.2] := rfl
  rw [hrep, hv]
  have e : ∀ e6 e9 e10, compL (.names [7, 8]) (cYes (callQ T (k + 4))) (PC_so_at_1 (callQ T (k + 4))) [some (.d s.D), some (.d (.tuple (r.map partD))), some (.d (.tuple [.int v.1, .int v.2.1, .int v.2.2])), some (.d (.int v.1)), some (.d (.int v.2.1)), some (.d (.int v.2.2)), e6, none, none, e9, e10] (r.map partD) S = .ok ((r.map (partAt s v)).map PyData.bool) S := by
    intro e6 e9 e10
    rw [List.map_map]
    refine compL_tg (t := .names [7, 8]) partD _ (fun p => [some (.d s.D), some (.d (.tuple (r.map partD))), some (.d (.tuple [.int v.1, .int v.2.1, .int v.2.2])), some (.d (.int v.1)), some (.d (.int v.2.1)), some (.d (.int v.2.2)), e6, some (.d (.int (p.1 : Int))), some (.d (cellD p.2)), e9, e10]) (fun x hx => rfl) (fun x hx => rfl) fun p hp => ?_
    have hu := p_up b.toDomeT k S os (o.p p hp).l v.2.1 v.2.2 v.1
    simp [PC_so_at_1, hu, g_eqCell, partAt]
  have e2 : compL (.names [9, 10]) (PD_so_at_2 (callQ T (k + 4))) (PC_so_at_3 (callQ T (k + 4))) [some (.d s.D), some (.d (.tuple (r.map partD))), some (.d (.tuple [.int v.1, .int v.2.1, .int v.2.2])), some (.d (.int v.1)), some (.d (.int v.2.1)), some (.d (.int v.2.2)), some (.d (.list ((r.map (partAt s v)).map PyData.bool))), none, none, none, none] ((List.range (r.map (partAt s v)).length).map fun n : Nat => PyData.tuple [.int ((0 + n : Nat) : Int), .bool ((r.map (partAt s v)).getD n false)]) S = .ok (((List.range (r.map (partAt s v)).length).filter fun i => (r.map (partAt s v)).getD i false).map fun i : Nat => PyData.int ((0 + i : Nat) : Int)) S := by
    refine compL_flt (t := .names [9, 10]) (fun n : Nat => PyData.tuple [.int ((0 + n : Nat) : Int), .bool ((r.map (partAt s v)).getD n false)]) (fun n : Nat => PyData.int ((0 + n : Nat) : Int)) (fun i => (r.map (partAt s v)).getD i false) (fun n : Nat => [some (.d s.D), some (.d (.tuple (r.map partD))), some (.d (.tuple [.int v.1, .int v.2.1, .int v.2.2])), some (.d (.int v.1)), some (.d (.int v.2.1)), some (.d (.int v.2.2)), some (.d (.list ((r.map (partAt s v)).map PyData.bool))), none, none, some (.d (.int ((0 + n : Nat) : Int))), some (.d (.bool ((r.map (partAt s v)).getD n false)))]) (fun x hx => rfl) (fun x hx => ?_) (fun x hx _ => ?_)
    · simp only [PD_so_at_2, x_cVal, x_var]
      rfl
    · simp only [PC_so_at_3, x_var]
      rfl
  rw [← enumD_eq PyData.bool false] at e2
  have hl := o.l
  have h3 : r.length ≤ 16777216 := by omega
  have h4 : ((List.range (r.map (partAt s v)).length).filter fun i => (r.map (partAt s v)).getD i false).length ≤ 16777216 := by
    refine Nat.le_trans (List.length_filter_le _ _) ?_
    rw [List.length_range, List.length_map]
    omega
  have hlen : (r.map (partAt s v)).length = r.length := List.length_map _
  rw [hlen] at e2 h4
  generalize hL : ((List.range r.length).filter fun i => (r.map (partAt s v)).getD i false) = L at e2 h4 ⊢
  generalize (r.map (partAt s v)) = B at e e2 hlen
  simp [P_so_at, startQ, notOwn, e, LIM, h3, hlen, e2, h4]
theorem filter_all (B : List Bool) : (((List.range B.length).filter fun i => B.getD i false).length = B.length) ↔ B.all id = true := by
  have h1 : (List.range B.length).filter (fun i => B.getD i false) = List.range B.length ↔ B.all id = true := by
    rw [List.filter_eq_self, List.all_eq_true]
    constructor
    · intro h x hx
      obtain ⟨i, hi⟩ := List.getElem?_of_mem hx
      obtain ⟨hl, e⟩ := List.getElem?_eq_some_iff.mp hi
      have := h i (by simpa using hl)
      simpa [hi] using this
    · intro h i hi
      have hl : i < B.length := by simpa using hi
      have := h B[i] (List.getElem_mem hl)
      simpa [hl] using this
  constructor
  · intro h
    refine h1.mp (List.Sublist.eq_of_length List.filter_sublist (by rw [h, List.length_range]))
  · intro h
    rw [h1.mpr h, List.length_range]
end
end Q

namespace Q
open PySem PySem.Spec PyProof.Rows L2
def PC_lots_of_1 : SE := (fBin gAdd (fVar 3) (fTup (aCons (fVar 2) aNil)))
def PB_lots_of_2 : SS := (sSet 1 (fBin gAdd (fVar 1) (fComp [3] (.name 3) (iSeq (fVar 1)) cYes PC_lots_of_1)))
def P_lots_of : SS := (sSeq (sSet 1 (fLst (aCons (fTup aNil) aNil)))
  (sSeq (sFor (.name 2) (iRange1 (aCons (fVar 0) aNil))
  PB_lots_of_2)
  (sRetP (fSortLot 0 "lots_of" "lots_of" (fVar 1)))))
abbrev Has_lots_of (T : Tab) : Prop := T "lots_of" = some ⟨1, 4, P_lots_of⟩
end Q

namespace Q
open PySem PySem.Spec PyProof.Rows L2
structure Lamp where
  a : Int
  b : Int
  c : Int
  d : Int
structure Show where
  lamps : List Lamp
  offs : List Int
  slack : Int
structure State where
  m : Int
  e : Int
  n : Int
  hid : List Int
def Lamp.D (l : Lamp) : D := .tuple [.int l.a, .int l.b, .int l.c, .int l.d]
def Show.D (s : Show) : D := .tuple [.tuple (s.lamps.map Lamp.D), .tuple (s.offs.map PyData.int), .int s.slack]
def State.D (s : State) : D := .tuple [.int s.m, .int s.e, .int s.n, .tuple (s.hid.map PyData.int)]
structure Lamp.Ok (l : Lamp) (s : Sky) : Prop where
  a0 : 0 ≤ l.a
  ab : l.a ≤ l.b
  b1 : l.b < s.w / 2
  c0 : 0 ≤ l.c
  cd : l.c ≤ l.d
  d1 : l.d < s.h
structure Show.Ok (h : Show) (s : Sky) : Prop where
  l0 : 1 ≤ h.lamps.length
  l1 : h.lamps.length ≤ 6
  l : ∀ l ∈ h.lamps, l.Ok s
  o : h.offs.length = h.lamps.length
  o1 : ∀ o ∈ h.offs, -9 ≤ o ∧ o ≤ 9
  s0 : 0 ≤ h.slack
  s1 : h.slack ≤ 9
structure State.Ok (t : State) (s : Sky) : Prop where
  h : ∀ h ∈ t.hid, 0 ≤ h ∧ h < s.ls.length
  pw : t.hid.Pairwise (· < ·)
  l : t.hid.length ≤ 6
  m1 : t.m.natAbs < 10 ^ 12
  e1 : t.e.natAbs < 10 ^ 12
  n1 : t.n.natAbs < 10 ^ 12
structure LampT (T : Tab) : Prop extends DomeT T where
  is_lamp : Has_is_lamp T
  are_lamps : Has_are_lamps T
  is_show : Has_is_show T
  need_show : Has_need_show T
  cells_of : Has_cells_of T
  covers : Has_covers T
  covering_by : Has_covering_by T
structure CoverT (T : Tab) : Prop extends DomeT T where
  covers : Has_covers T
  covering_by : Has_covering_by T
theorem LampT.cv {T : Tab} (b : LampT T) : CoverT T := ⟨b.toDomeT, b.covers, b.covering_by⟩
def Lamp.covers (l : Lamp) (p : Int × Int) : Bool := decide (l.a ≤ p.1 ∧ p.1 ≤ l.b) && decide (l.c ≤ p.2 ∧ p.2 ≤ l.d)
def lamp0 : Lamp := ⟨0, 0, 0, 0⟩
def Show.over (h : Show) (p : Int × Int) : List Nat := (List.range h.lamps.length).filter fun i => (h.lamps.getD i lamp0).covers p
def Show.own (h : Show) (p : Int × Int) : List Int := (h.over p).map fun i => h.offs.getD i 0
def Sky.seen (s : Sky) (t : State) (i : Nat) : Option (Int × Int) := if ((i : Nat) : Int) ∈ t.hid then none else s.up i t.e t.n t.m
def Show.at (h : Show) (p : Int × Int) : List (Int × Int) := (h.over p).map fun i => (p.1 + h.offs.getD i 0, (i : Int))
def atD (h : Show) : Option (Int × Int) → D
  | none => .tuple []
  | some p => .tuple ((sortP (h.at p)).map pairD)
section
variable {T : Tab}
end
end Q

namespace Q
open PySem PySem.Spec PyProof.Rows L2
section
variable {T : Tab}
end
end Q

namespace Q
open PySem PySem.Spec PyProof.Rows L2
section
variable {T : Tab}
def rawL : Nat → List (List Int)
  | 0 => [[]]
  | n + 1 => rawL n ++ (rawL n).map fun l => l ++ [(n : Int)]
def lotsN (n : Nat) : List (List Int) := sortLots (rawL n)
theorem raw_len : ∀ n, (rawL n).length = 2 ^ n
  | 0 => rfl
  | n + 1 => by
    rw [rawL, List.length_append, List.length_map, raw_len n, Nat.pow_succ]
    omega
theorem raw_lots : ∀ (ls : List (List Int)), lotsOf (ls.map lotI) = some ls
  | [] => rfl
  | l :: ls => by
    have := raw_lots ls
    simp only [List.map_cons, lotsOf, intsOf_map, this]
theorem raw_lt : ∀ {n : Nat} {L : List Int}, L ∈ rawL n → L.length ≤ n ∧ ∀ i ∈ L, 0 ≤ i ∧ i < n
  | 0, L, h => by
    simp [rawL] at h
    subst h
    simp
  | n + 1, L, h => by
    rw [rawL] at h
    rcases List.mem_append.mp h with h | h
    · obtain ⟨a, b⟩ := raw_lt h
      exact ⟨by omega, fun i hi => by have := b i hi; omega⟩
    · obtain ⟨L', h', rfl⟩ := List.mem_map.mp h
      obtain ⟨a, b⟩ := raw_lt h'
      refine ⟨by simp; omega, fun i hi => ?_⟩
      rcases List.mem_append.mp hi with hi | hi
      · have := b i hi; omega
      · rw [List.mem_singleton] at hi
        omega
theorem mem_lots {n : Nat} {L : List Int} : L ∈ lotsN n ↔ L ∈ rawL n := (sortLots_perm _).mem_iff
end
end Q

namespace Q
open PySem PySem.Spec PyProof.Rows L2
def EB_lots_so_1 : SS := (sExpr (fSetdM (fVar 2) (fCallN "so_at" 3 (aCons (fVar 0) (aCons (fVar 1) (aCons (fVar 3) aNil)))) (fVar 3)))
def E_lots_so : SS := (sSeq (sSet 2 fNewM)
  (sSeq (sFor (.name 3) (iSeq (fCallN "all_views" 1 (aCons (fVar 0) aNil)))
  EB_lots_so_1)
  (sRetP (fVar 2))))
abbrev HasE_lots_so (T : Tab) : Prop := T "lots_so" = some ⟨2, 4, E_lots_so⟩
def ED_led_back_1 : ST := (cVal (fCallN "are_apart" 2 (aCons (fVar 4) (aCons (fB gKeysM (aCons (fVar 2) aNil)) aNil))))
def EC_led_back_2 : SE := (fVar 4)
def E_led_back : SS := (sSeq (sExpr (fCallN "need_report" 2 (aCons (fVar 0) (aCons (fVar 1) aNil))))
  (sSeq (sUnpW 2 3 (fTup (aCons (fCallN "lots_so" 2 (aCons (fVar 0) (aCons (fVar 1) aNil))) (aCons (fTupRg (fB gLen (aCons (fVar 1) aNil))) aNil))))
  (sSeq (sIf (cVal (fBin gInM (fVar 3) (fVar 2)))
  (sRetP (fTup (aCons (fStr "seen") (aCons (fAtM (fVar 2) (fVar 3)) aNil))))
  sNext)
  (sRetP (fTup (aCons (fStr "never") (aCons (fAt (fComp [4] (.name 4) (iSeq (fCallN "lots_of" 1 (aCons (fB gLen (aCons (fVar 1) aNil)) aNil))) ED_led_back_1 EC_led_back_2) (fInt 0)) aNil)))))))
abbrev HasE_led_back (T : Tab) : Prop := T "led_back" = some ⟨2, 5, E_led_back⟩
def nkI (l : List Int) : NK := l.map .inl
theorem encN_nkI (l : List Int) : encN (nkI l) = lotI l := by
  unfold encN nkI
  rw [List.map_map]
  rfl
theorem decs_ints : ∀ l : List Int, decs (l.map PyData.int) = some (nkI l)
  | [] => rfl
  | x :: l => by
    rw [List.map_cons, decs, decs_ints l]
    rfl
theorem nkI_inj : ∀ {a b : List Int}, nkI a = nkI b → a = b
  | [], [], _ => rfl
  | [], _ :: _, h => by simp [nkI] at h
  | _ :: _, [], h => by simp [nkI] at h
  | x :: a, y :: b, h => by
    simp only [nkI, List.map_cons, List.cons.injEq, Sum.inl.injEq] at h
    rw [h.1, nkI_inj h.2]
theorem getM_app (a : List (NK × D)) (k k' : NK) (d : D) : getM (a ++ [(k, d)]) k' = (getM a k').or (if k = k' then some d else none) := by
  unfold getM
  rw [List.find?_append]
  cases h : a.find? fun x => decide (x.1 = k') with
  | some x => simp
  | none => by_cases hk : k = k' <;> simp [hk]
theorem getM_key (a : List (NK × D)) (k : NK) : (getM a k).isSome = true ↔ k ∈ a.map Prod.fst := by
  unfold getM
  rw [Option.isSome_map, List.find?_isSome]
  simp
section
variable (f : View → List Int)
def stM (a : List (NK × D)) (v : View) : List (NK × D) := if (getM a (nkI (f v))).isSome then a else a ++ [(nkI (f v), viewD v)]
def stK (a : List (List Int)) (v : View) : List (List Int) := if f v ∈ a then a else a ++ [f v]
def ldM (vs : List View) : List (NK × D) := vs.foldl (stM f) []
def ldK (vs : List View) : List (List Int) := vs.foldl (stK f) []
theorem stM_get (l : List Int) : ∀ (vs : List View) (a : List (NK × D)), getM (vs.foldl (stM f) a) (nkI l) = (getM a (nkI l)).or ((vs.find? fun v => decide (f v = l)).map viewD)
  | [], a => by simp
  | v :: vs, a => by
    rw [List.foldl_cons, stM_get l vs]
    have e : getM (stM f a v) (nkI l) = (getM a (nkI l)).or (if f v = l then some (viewD v) else none) := by
      unfold stM
      by_cases h : f v = l
      · rw [h, if_pos rfl]
        cases hg : getM a (nkI l) with
        | some x => simp [hg]
        | none => simp [hg, getM_app]
      · rw [if_neg h, Option.or_none]
        split
        · rfl
        · rw [getM_app, if_neg (fun e => h (nkI_inj e)), Option.or_none]
    rw [e, List.find?_cons]
    by_cases h : f v = l
    · simp [h]
    · simp [h]
theorem ldM_get (vs : List View) (l : List Int) : getM (ldM f vs) (nkI l) = (vs.find? fun v => decide (f v = l)).map viewD := by
  unfold ldM
  rw [stM_get]
  rfl
theorem st_keys : ∀ (vs : List View) (a : List (NK × D)) (K : List (List Int)), a.map Prod.fst = K.map nkI → (vs.foldl (stM f) a).map Prod.fst = (vs.foldl (stK f) K).map nkI
  | [], a, K, h => h
  | v :: vs, a, K, h => by
    rw [List.foldl_cons, List.foldl_cons]
    refine st_keys vs _ _ ?_
    have hi : (getM a (nkI (f v))).isSome = true ↔ f v ∈ K := by
      rw [getM_key, h]
      constructor
      · intro hm
        obtain ⟨l, hl, e⟩ := List.mem_map.mp hm
        rw [← nkI_inj e]
        exact hl
      · exact fun hm => List.mem_map.mpr ⟨_, hm, rfl⟩
    unfold stM stK
    by_cases hv : f v ∈ K
    · rw [if_pos (hi.mpr hv), if_pos hv]
      exact h
    · rw [if_neg (fun z => hv (hi.mp z)), if_neg hv, List.map_append, List.map_append, h]
      rfl
theorem ldM_keys (vs : List View) : (ldM f vs).map (fun p => encN p.1) = (ldK f vs).map lotI := by
  have h := st_keys f vs [] [] rfl
  have e : (ldM f vs).map (fun p => encN p.1) = ((ldM f vs).map Prod.fst).map encN := by rw [List.map_map]; rfl
  rw [e]
  unfold ldM ldK
  rw [h, List.map_map]
  exact List.map_congr_left fun l _ => encN_nkI l
theorem stK_mem (l : List Int) : ∀ (vs : List View) (K : List (List Int)), l ∈ vs.foldl (stK f) K ↔ l ∈ K ∨ ∃ v ∈ vs, f v = l
  | [], K => by simp
  | v :: vs, K => by
    rw [List.foldl_cons, stK_mem l vs]
    have e : l ∈ stK f K v ↔ l ∈ K ∨ f v = l := by
      unfold stK
      split
      · rename_i h
        constructor
        · exact .inl
        · rintro (h' | rfl)
          · exact h'
          · exact h
      · simp [eq_comm]
    rw [e]
    simp [or_assoc]
theorem ldK_mem (vs : List View) (l : List Int) : l ∈ ldK f vs ↔ ∃ v ∈ vs, f v = l := by
  unfold ldK
  rw [stK_mem]
  simp
theorem stM_len : ∀ (vs : List View) (a : List (NK × D)), (vs.foldl (stM f) a).length ≤ a.length + vs.length
  | [], a => by simp
  | v :: vs, a => by
    rw [List.foldl_cons]
    have := stM_len vs (stM f a v)
    have h2 : (stM f a v).length ≤ a.length + 1 := by
      unfold stM
      split <;> simp
    simp only [List.length_cons]
    omega
theorem ldM_len (vs : List View) : (ldM f vs).length ≤ vs.length := by
  have := stM_len f vs []
  simpa [ldM] using this
theorem ldM_snoc (vs : List View) (v : View) : ldM f (vs ++ [v]) = stM f (ldM f vs) v := by
  unfold ldM
  rw [List.foldl_append]
  rfl
end
def soL (s : Sky) (r : List Part) (v : View) : List Nat := (List.range r.length).filter fun i => (r.map (partAt s v)).getD i false
def soI (s : Sky) (r : List Part) (v : View) : List Int := (soL s r v).map fun i : Nat => (i : Int)
def everyI (n : Nat) : List Int := (List.range n).map fun i : Nat => (i : Int)
structure LedR (T : Tab) : Prop extends ViewB T where
  lots_so : HasE_lots_so T
  lots_of : Has_lots_of T
  apart : Has_are_apart T
  led_back : HasE_led_back T
section
variable {T : Tab}
theorem p_so_atI (b : ViewB T) (k : Nat) (S : Sto) {s : Sky} (os : s.Ok) {r : List Part} (o : RepOk r s) (v : View) : callQ T (k + 5) "so_at" [.d s.D, .d (repD r), .d (viewD v)] S = .ok (.d (lotI (soI s r v))) S := by
  rw [p_so_at b k S os o v]
  have : (soL s r v).map (fun i : Nat => PyData.int ((0 + i : Nat) : Int)) = (soI s r v).map .int := by
    unfold soI
    rw [List.map_map]
    exact List.map_congr_left fun i _ => by simp
  unfold soL at this
  rw [this]
theorem p_lots_so (b : LedR T) (k : Nat) (S : Sto) {s : Sky} (os : s.Ok) {r : List Part} (o : RepOk r s) {N : Nat} (h1 : 1 ≤ N) (h2 : N ≤ 1000) (hN : s.back N = true) (hj : ∀ j, 1 ≤ j → j < N → s.back j = false) : callQ T (k + 8) "lots_so" [.d s.D, .d (repD r)] S = .ok (.ref S.length) (S ++ [.dcm (ldM (soI s r) (allViews s N))]) := by
  rw [callQ_succ b.lots_so rfl rfl]
  have hv := views_len os N
  have hv2 : N * 132 ≤ 1000 * 132 := Nat.mul_le_mul_right _ h2
  have ca := p_all_views b.toViewB k (S ++ [.dcm []]) os h1 h2 hN hj
  have loop := forL_inv0 (t := .name 3) (body := EB_lots_so_1 (callQ T (k + 7))) (ds := (allViews s N).map viewD) (env := [some (.d s.D), some (.d (repD r)), some (.ref S.length), none]) (S := S ++ [.dcm []])
    (fun i env S' => (∃ e3, env = [some (.d s.D), some (.d (repD r)), some (.ref S.length), e3]) ∧ S' = S ++ [.dcm (ldM (soI s r) ((allViews s N).take i))]) ⟨⟨_, rfl⟩, rfl⟩ (by
    rintro i d env S' hd ⟨⟨e3, rfl⟩, rfl⟩
    rw [List.getElem?_map, Option.map_eq_some_iff] at hd
    obtain ⟨v, hv0, rfl⟩ := hd
    have hi : i < (allViews s N).length := (List.getElem?_eq_some_iff.mp hv0).1
    have tk : (allViews s N).take (i + 1) = (allViews s N).take i ++ [v] := by rw [List.take_add_one, hv0]; rfl
    refine ⟨[some (.d s.D), some (.d (repD r)), some (.ref S.length), some (.d (viewD v))], [some (.d s.D), some (.d (repD r)), some (.ref S.length), some (.d (viewD v))], S ++ [.dcm (ldM (soI s r) ((allViews s N).take (i + 1)))], rfl, .inl ?_, ⟨_, rfl⟩, rfl⟩
    rw [tk, ldM_snoc]
    have hl := ldM_len (soI s r) ((allViews s N).take i)
    have hl2 : ((allViews s N).take i).length ≤ i := by rw [List.length_take]; omega
    have hll : (ldM (soI s r) ((allViews s N).take i)).length ≤ 16777216 := by omega
    have cs := p_so_atI b.toViewB (k + 2) (S ++ [.dcm (ldM (soI s r) ((allViews s N).take i))]) os o v
    have dc := decs_ints (soI s r v)
    unfold stM
    generalize ldM (soI s r) ((allViews s N).take i) = A at *
    have st : (S ++ [O.dcm A])[S.length]? = some (.dcm A) := by simp
    have se : ∀ B, (S ++ [O.dcm A]).set S.length (.dcm B) = S ++ [.dcm B] := fun B => by simp
    generalize soI s r v = L at *
    generalize repD r = R at *
    generalize s.D = G at *
    unfold lotI at *
    cases hg : getM A (nkI L) with
    | some dd => simp [EB_lots_so_1, fSetdM, st, cs, dc, hg, hll, LIM]
    | none =>
      have pm : putM A (nkI L) (viewD v) = A ++ [(nkI L, viewD v)] := by unfold putM; rw [hg]; rfl
      simp [EB_lots_so_1, fSetdM, st, cs, dc, hg, hll, LIM, pm, se])
  obtain ⟨env', S', L, ⟨e3, rfl⟩, rfl⟩ := loop
  rw [List.length_map, List.take_length] at L
  generalize repD r = R at *
  generalize s.D = G at *
  simp [E_lots_so, startQ, fNewM, ca, L]
theorem p_lotsE (h : Has_lots_of T) (k : Nat) {S : Sto} (hS : S[0]? = some (.tab "lots_of" "lots_of")) {n : Nat} (hn : n ≤ 6) : callQ T (k + 1) "lots_of" [.d (.int (n : Int))] S = .ok (.d (.list ((lotsN n).map lotI))) S := by
  rw [callQ_succ h rfl rfl]
  have ht : tabAt S 0 "lots_of" "lots_of" = true := by unfold tabAt; rw [hS]; rfl
  obtain ⟨env', S', lp, hSS, e2, hj, rfl⟩ := forL_inv0 (t := .name 2) (body := PB_lots_of_2 (callQ T k)) (ds := rangeD 0 n) (env := [some (.d (.int (n : Int))), some (.d (.list [.tuple []])), none, none]) (S := S)
    (fun j env S' => S' = S ∧ ∃ e2, j ≤ n ∧ env = [some (.d (.int (n : Int))), some (.d (.list ((rawL j).map lotI))), e2, none]) ⟨rfl, _, by omega, rfl⟩ (by
    rintro j d env S' hd ⟨rfl, e2, hjn, rfl⟩
    obtain ⟨hj, rfl⟩ := rangeD_get hd
    rw [Int.zero_add]
    refine ⟨[some (.d (.int (n : Int))), some (.d (.list ((rawL j).map lotI))), some (.d (.int (j : Int))), none], [some (.d (.int (n : Int))), some (.d (.list ((rawL (j + 1)).map lotI))), some (.d (.int (j : Int))), none], S', rfl, .inl ?_, rfl, _, by omega, rfl⟩
    have hl := raw_len j
    have hp : 2 ^ j ≤ 2 ^ 6 := Nat.pow_le_pow_right (by omega) (by omega)
    have hlen : ∀ l ∈ rawL j, l.length ≤ j := by
      clear hl hp hd hj hjn
      induction j with
      | zero => intro l hl; simp [rawL] at hl; subst hl; simp
      | succ j ih =>
        intro l hl
        rw [rawL] at hl
        rcases List.mem_append.mp hl with h | h
        · have := ih l h; omega
        · obtain ⟨l', h', rfl⟩ := List.mem_map.mp h
          have := ih l' h'
          simp
          omega
    have e : ∀ L, compL (.name 3) (cYes (callQ T k)) (PC_lots_of_1 (callQ T k)) [some (.d (.int (n : Int))), L, some (.d (.int (j : Int))), none] ((rawL j).map lotI) S' = .ok ((rawL j).map fun l => lotI (l ++ [(j : Int)])) S' := by
      intro L
      refine compL_on _ _ (fun l hl => by simp) fun l hl => ?_
      have h1 := hlen l hl
      have h2 : (l.map PyData.int).length + 1 ≤ 16777216 := by rw [List.length_map]; omega
      simp at h2
      simp [PC_lots_of_1, LIM, h2]
    have hb : ((rawL j).map lotI).length + ((rawL j).map fun l => lotI (l ++ [(j : Int)])).length ≤ 16777216 := by simp [hl]; omega
    have hb2 : ((rawL j).map fun l => lotI (l ++ [(j : Int)])).length ≤ 16777216 := by simp [hl]; omega
    have er : (rawL (j + 1)).map lotI = (rawL j).map lotI ++ (rawL j).map fun l => lotI (l ++ [(j : Int)]) := by
      rw [rawL, List.map_append, List.map_map]
      rfl
    rw [er]
    generalize ((rawL j).map fun l => lotI (l ++ [(j : Int)])) = R2 at *
    generalize (rawL j).map lotI = R1 at *
    simp [PB_lots_of_2, notOwn, e, LIM, hb, hb2])
  have hr : inR (n : Int) = true := inR_of (by omega) (by omega)
  rw [rangeD_len, hSS] at lp
  have hq := raw_lots (rawL n)
  unfold lotsN
  generalize hRR : (rawL n).map lotI = RR at *
  have lp' : forL (.name 2) (PB_lots_of_2 (callQ T k)) (rangeD 0 n) [some (.d (.int (n : Int))), some (.d (.list [.tuple []])), none, none] S = .next [some (.d (.int (n : Int))), some (.d (.list RR)), e2, none] S := lp
  simp [P_lots_of, startQ, LIM, hr, lp', fSortLot, hq, ht]
def apartI (lot : List Int) (ks : List (List Int)) : Bool := !(ks.any fun row => lot.all fun n => decide (n ∈ row))
theorem p_apart (h : Has_are_apart T) (k : Nat) (S : Sto) (lot : List Int) (ks : List (List Int)) (hl : lot.length ≤ 16777216) (hk : ks.length ≤ 16777216) : callQ T (k + 1) "are_apart" [.d (lotI lot), .d (.list (ks.map lotI))] S = .ok (.d (.bool (apartI lot ks))) S := by
  rw [callQ_succ h rfl rfl]
  have inner : ∀ row : List Int, compL (.name 3) (cYes (callQ T k)) (PC_are_apart_1 (callQ T k)) [some (.d (lotI lot)), some (.d (.list (ks.map lotI))), some (.d (lotI row)), none] (lot.map PyData.int) S = .ok (lot.map fun n => PyData.bool (decide (n ∈ row))) S := by
    intro row
    refine compL_on _ _ (fun x hx => rfl) fun x hx => ?_
    have g := g_inT S x row
    unfold lotI
    generalize PyData.tuple (lot.map .int) = LT
    generalize PyData.list (ks.map fun l => PyData.tuple (l.map .int)) = KS
    generalize PyData.tuple (row.map .int) = RW at *
    simp [PC_are_apart_1, g]
  have outer : compL (.name 2) (cYes (callQ T k)) (PC_are_apart_2 (callQ T k)) [some (.d (lotI lot)), some (.d (.list (ks.map lotI))), none, none] (ks.map lotI) S = .ok (ks.map fun row => PyData.bool (lot.all fun n => decide (n ∈ row))) S := by
    refine compL_on _ _ (fun x hx => rfl) fun row hx => ?_
    have e := inner row
    have hb : bools (lot.map fun n => PyData.bool (decide (n ∈ row))) = some (lot.map fun n => decide (n ∈ row)) := bools_on _ fun _ _ => rfl
    have ha : (lot.map fun n => decide (n ∈ row)).all id = lot.all fun n => decide (n ∈ row) := by rw [List.all_map]; rfl
    unfold lotI at *
    generalize PyData.list (ks.map fun l => PyData.tuple (l.map .int)) = KS at *
    generalize hR : PyData.tuple (row.map .int) = RW at *
    simp [PC_are_apart_2, notOwn, e, hb, ha, hl, LIM]
  have hb : bools (ks.map fun row => PyData.bool (lot.all fun n => decide (n ∈ row))) = some (ks.map fun row => lot.all fun n => decide (n ∈ row)) := bools_on _ fun _ _ => rfl
  have ha : (ks.map fun row => lot.all fun n => decide (n ∈ row)).any id = ks.any fun row => lot.all fun n => decide (n ∈ row) := by rw [List.any_map]; rfl
  unfold apartI
  rw [← ha]
  unfold lotI at *
  generalize PyData.tuple (lot.map .int) = LT at *
  simp [P_are_apart, startQ, notOwn, outer, hb, hk, LIM]
theorem so_every (s : Sky) (r : List Part) (v : View) : soI s r v = everyI r.length ↔ okAt s r v = true := by
  have h := filter_all (r.map (partAt s v))
  rw [List.length_map] at h
  have e : (r.map (partAt s v)).all id = okAt s r v := by unfold okAt; rw [List.all_map]; rfl
  rw [e] at h
  rw [← h]
  unfold soI everyI soL
  constructor
  · intro hh
    have := congrArg List.length hh
    simpa using this
  · intro hh
    have : (List.range r.length).filter (fun i => (r.map (partAt s v)).getD i false) = List.range r.length := List.Sublist.eq_of_length List.filter_sublist (by rw [hh, List.length_range])
    rw [this]
theorem find_every (s : Sky) (N : Nat) (r : List Part) : ((allViews s N).find? fun v => decide (soI s r v = everyI r.length)) = (viewsOf s N r).head? := by
  unfold viewsOf
  rw [List.head?_filter]
  congr 1
  funext v
  rw [Bool.eq_iff_iff, decide_eq_true_eq, so_every]
def barI (s : Sky) (N : Nat) (r : List Part) : List Int := ((lotsN r.length).find? fun L => apartI L (ldK (soI s r) (allViews s N))).getD []
def ledD (s : Sky) (N : Nat) (r : List Part) : D := match viewsOf s N r with
  | v :: _ => .tuple [.str "seen", viewD v]
  | [] => .tuple [.str "never", lotI (barI s N r)]
theorem every_raw : ∀ n : Nat, everyI n ∈ rawL n
  | 0 => by simp [everyI, rawL]
  | n + 1 => by
    have := every_raw n
    unfold everyI at *
    rw [List.range_succ, List.map_append, rawL]
    exact List.mem_append.mpr (.inr (List.mem_map.mpr ⟨_, this, rfl⟩))
theorem every_apart {s : Sky} {N : Nat} {r : List Part} (h : viewsOf s N r = []) : apartI (everyI r.length) (ldK (soI s r) (allViews s N)) = true := by
  unfold apartI
  rw [Bool.not_eq_true', List.any_eq_false]
  intro row hrow hall
  obtain ⟨v, hv, rfl⟩ := (ldK_mem _ _ _).mp hrow
  rw [List.all_eq_true] at hall
  have hsub : soL s r v = List.range r.length := by
    unfold soL
    rw [List.filter_eq_self]
    intro i hi
    have hm := hall (i : Int) (List.mem_map.mpr ⟨i, hi, rfl⟩)
    rw [decide_eq_true_eq] at hm
    obtain ⟨j, hj, e⟩ := List.mem_map.mp hm
    have : j = i := by omega
    subst this
    exact (List.mem_filter.mp hj).2
  have hok : okAt s r v = true := (so_every s r v).mp (by unfold soI everyI; rw [hsub])
  have : v ∈ viewsOf s N r := List.mem_filter.mpr ⟨hv, hok⟩
  rw [h] at this
  cases this
theorem bar_some {s : Sky} {N : Nat} {r : List Part} (h : viewsOf s N r = []) : ∃ rest, (lotsN r.length).filter (fun L => apartI L (ldK (soI s r) (allViews s N))) = barI s N r :: rest := by
  have hm : everyI r.length ∈ (lotsN r.length).filter fun L => apartI L (ldK (soI s r) (allViews s N)) := List.mem_filter.mpr ⟨mem_lots.mpr (every_raw _), every_apart h⟩
  have hh := List.head?_filter (p := fun L => apartI L (ldK (soI s r) (allViews s N))) (l := lotsN r.length)
  unfold barI
  rw [← hh]
  cases hf : (lotsN r.length).filter fun L => apartI L (ldK (soI s r) (allViews s N)) with
  | nil => rw [hf] at hm; cases hm
  | cons x rest => exact ⟨rest, by simp⟩
end
end Q

namespace Q
open PySem PySem.Spec PyProof.Rows L2

structure HidOk (n : Nat) (h : List Int) : Prop where
  pw : h.Pairwise (· < ·)
  b : ∀ i ∈ h, 0 ≤ i ∧ i < n
/-- what is in just one of two -/
def unl (a b : List Int) : List Int := sortI ((a ++ b).filter fun i => decide (i ∈ a) != decide (i ∈ b))
theorem rising_le {n : Nat} : ∀ {h : List Int} {lo : Int}, h.Pairwise (· < ·) → (∀ i ∈ h, lo ≤ i ∧ i < lo + n) → h.length ≤ n := by
  induction n with
  | zero =>
    intro h lo pw b
    cases h with
    | nil => simp
    | cons x xs => have := b x (by simp); omega
  | succ n ih =>
    intro h lo pw b
    cases h with
    | nil => simp
    | cons x xs =>
      rw [List.pairwise_cons] at pw
      have hx := b x (by simp)
      have := ih (h := xs) (lo := lo + 1) pw.2 fun i hi => by
        have h1 := pw.1 i hi
        have h2 := b i (by simp [hi])
        omega
      simp only [List.length_cons]
      omega
theorem HidOk.len {n : Nat} {h : List Int} (o : HidOk n h) : h.length ≤ n := rising_le (lo := 0) o.pw fun i hi => by have := o.b i hi; omega
def State.zero : State := ⟨0, 0, 0, []⟩
def State.put (a b : State) : State := ⟨a.m + b.m, a.e + b.e, a.n + b.n, unl a.hid b.hid⟩
def State.Pw (a : State) : Prop := a.hid.Pairwise (· < ·)
inductive Item where
  | go (m e n : Int)
  | flip (i : Nat)
  | mark
  | again (t : Nat) (xs : List Item)
mutual
def Item.D : Item → D
  | .go m e n => .tuple [.str "go", .int m, .int e, .int n]
  | .flip i => .tuple [.str "flip", .int (i : Int)]
  | .mark => .tuple [.str "mark"]
  | .again t xs => .tuple [.str "again", .int (t : Int), .tuple (itemsL xs)]
def itemsL : List Item → List D
  | [] => []
  | x :: xs => x.D :: itemsL xs
end
mutual
def Item.size : Item → Nat
  | .go _ _ _ => 1
  | .flip _ => 1
  | .mark => 0
  | .again t xs => t * sizeOf' xs
def sizeOf' : List Item → Nat
  | [] => 0
  | x :: xs => x.size + sizeOf' xs
end
inductive Item.Ok (n : Nat) : Nat → Item → Prop
  | go {d : Nat} {a b c : Int} : -99 ≤ a ∧ a ≤ 99 → -99 ≤ b ∧ b ≤ 99 → -99 ≤ c ∧ c ≤ 99 → Item.Ok n d (.go a b c)
  | flip {d i : Nat} : i < n → Item.Ok n d (.flip i)
  | mark {d : Nat} : Item.Ok n d .mark
  | again {d t : Nat} {xs : List Item} : t ≤ 1000000 → xs.length ≤ 8 → (∀ x ∈ xs, Item.Ok n d x) → Item.Ok n (d + 1) (.again t xs)
structure ItemsOk (n d : Nat) (xs : List Item) : Prop where
  l : xs.length ≤ 8
  o : ∀ x ∈ xs, Item.Ok n d x
theorem ItemsOk.again {n d t : Nat} {xs : List Item} (h : Item.Ok n (d + 1) (.again t xs)) : ItemsOk n d xs ∧ t ≤ 1000000 := by
  cases h with | again h1 h2 h3 => exact ⟨⟨h2, h3⟩, h1⟩
theorem ItemsOk.cons {n d : Nat} {x : Item} {xs : List Item} (h : ItemsOk n d (x :: xs)) : Item.Ok n d x ∧ ItemsOk n d xs := ⟨h.o x (by simp), by have := h.l; simp at this; omega, fun y hy => h.o y (by simp [hy])⟩
def State.H (n : Nat) (a : State) : Prop := HidOk n a.hid
theorem State.H.pw {n : Nat} {a : State} (h : a.H n) : a.Pw := HidOk.pw h
end Q

namespace Q
open PySem PySem.Spec PyProof.Rows L2
@[simp] theorem tg_go_flip : (Str.ofString "go" = Str.ofString "flip") = False := eq_false (by decide)
@[simp] theorem tg_go_again : (Str.ofString "go" = Str.ofString "again") = False := eq_false (by decide)
@[simp] theorem tg_go_mark : (Str.ofString "go" = Str.ofString "mark") = False := eq_false (by decide)
@[simp] theorem tg_flip_go : (Str.ofString "flip" = Str.ofString "go") = False := eq_false (by decide)
@[simp] theorem tg_flip_again : (Str.ofString "flip" = Str.ofString "again") = False := eq_false (by decide)
@[simp] theorem tg_flip_mark : (Str.ofString "flip" = Str.ofString "mark") = False := eq_false (by decide)
@[simp] theorem tg_again_go : (Str.ofString "again" = Str.ofString "go") = False := eq_false (by decide)
@[simp] theorem tg_again_flip : (Str.ofString "again" = Str.ofString "flip") = False := eq_false (by decide)
@[simp] theorem tg_again_mark : (Str.ofString "again" = Str.ofString "mark") = False := eq_false (by decide)
@[simp] theorem tg_mark_go : (Str.ofString "mark" = Str.ofString "go") = False := eq_false (by decide)
@[simp] theorem tg_mark_flip : (Str.ofString "mark" = Str.ofString "flip") = False := eq_false (by decide)
@[simp] theorem tg_mark_again : (Str.ofString "mark" = Str.ofString "again") = False := eq_false (by decide)
section
variable {T : Tab}
end
end Q

namespace Q
open PySem PySem.Spec PyProof.Rows L2
section
variable {T : Tab}
def Pen (S : Sto) (n B : Nat) : Prop := ∃ a b c : Int, S[n]? = some (.lst [.int a, .int b, .int c]) ∧ 0 ≤ a ∧ 0 ≤ b ∧ b < 1000000007 ∧ 0 ≤ c ∧ c ≤ B
theorem Pen.mono {S : Sto} {n B C : Nat} (h : Pen S n B) (q : B ≤ C) : Pen S n C := by
  obtain ⟨a, b, c, e, h1, h2, h3, h4, h5⟩ := h
  exact ⟨a, b, c, e, h1, h2, h3, h4, by omega⟩
end
end Q

namespace Q
open PySem PySem.Spec PyProof.Rows L2
section
variable {T : Tab}
theorem Item.Ok.up {n d : Nat} {x : Item} (o : Item.Ok n 0 x) : Item.Ok n d x := by
  cases o with
  | go h1 h2 h3 => exact .go h1 h2 h3
  | flip h => exact .flip h
  | mark => exact .mark
mutual
def Item.line : Item → List Item
  | .again t xs => (List.replicate t (lineOf xs)).flatten
  | .go a b c => [.go a b c]
  | .flip i => [.flip i]
  | .mark => [.mark]
def lineOf : List Item → List Item
  | [] => []
  | x :: xs => x.line ++ lineOf xs
end
/-- what a single item does -/
def Item.one : Item → State
  | .go m e n => ⟨m, e, n, []⟩
  | .flip i => ⟨0, 0, 0, [(i : Int)]⟩
  | _ => .zero
end
end Q

namespace Q
open PySem PySem.Spec PyProof.Rows L2
end Q

namespace Q
open PySem PySem.Spec L2
def strFine (s : Str) : Bool := (PyData.str s).showable && PyData.strOk (PyData.shown (.str s)) && decide ((PyData.str s).shown.length ≤ 15) && PyData.canLay0 (.str s)
def dictFine : List (D × D) → Bool
  | [] => true
  | [(.int a, .int c)] => decide (a = 0) && (decide (c = 0) || decide (c = 1))
  | _ => false
mutual
def fine (b : Nat) : D → Bool
  | .none => true
  | .bool _ => true
  | .int i => decide (i.natAbs ≤ b)
  | .str s => strFine s
  | .list xs => fines b xs
  | .tuple xs => fines b xs
  | .dict kvs => dictFine kvs
def fines (b : Nat) : List D → Bool
  | [] => true
  | x :: xs => fine b x && fines b xs
end
mutual
def wt : D → Nat
  | .list xs => wts xs + 1
  | .tuple xs => wts xs + 1
  | _ => 1
def wts : List D → Nat
  | [] => 0
  | x :: xs => wt x + wts xs
end
theorem fines_iff {b : Nat} : ∀ {xs : List D}, fines b xs = true ↔ ∀ x ∈ xs, fine b x = true
  | [] => by simp [fines]
  | x :: xs => by simp [fines, fines_iff (xs := xs)]
theorem wts_append : ∀ xs ys : List D, wts (xs ++ ys) = wts xs + wts ys
  | [], ys => by simp [wts]
  | x :: xs, ys => by simp [wts, wts_append xs ys]; omega
theorem wts_take (xs : List D) (j : Nat) : wts (xs.take j) + wts (xs.drop j) = wts xs := by
  rw [← wts_append, List.take_append_drop]
theorem wts_at {xs : List D} {j : Nat} (h : j < xs.length) : wts (xs.take j) + wt xs[j] + wts (xs.drop (j + 1)) = wts xs := by
  have h1 := wts_take xs j
  rw [List.drop_eq_getElem_cons h] at h1
  simp only [wts] at h1
  omega
theorem depths_iff {k : Nat} : ∀ {xs : List D}, PyData.depthAll xs ≤ k ↔ ∀ x ∈ xs, PyData.depth x ≤ k
  | [] => by simp [PyData.depthAll]
  | x :: xs => by
    have := depths_iff (k := k) (xs := xs)
    simp only [PyData.depthAll, List.mem_cons, forall_eq_or_imp, ← this]
    omega
/-- data bent: ints, things, depth -/
structure Bt (b n k : Nat) (d : D) : Prop where
  f : fine b d = true
  w : wt d ≤ n
  d : PyData.depth d ≤ k
theorem Bt.mono {b n k b' n' k' : Nat} {d : D} (h : Bt b n k d) (h1 : b ≤ b') (h2 : n ≤ n') (h3 : k ≤ k') : Bt b' n' k' d := by
  refine ⟨?_, Nat.le_trans h.w h2, Nat.le_trans h.d h3⟩
  have key : ∀ d : D, (fine b d = true → fine b' d = true) := by
    intro d
    have := d
    exact PyData.rec (motive_1 := fun d => fine b d = true → fine b' d = true) (motive_2 := fun xs => fines b xs = true → fines b' xs = true) (motive_3 := fun _ => True) (motive_4 := fun _ => True)
      (fun h => h) (fun _ h => h) (fun i h => by simp [fine] at h ⊢; omega) (fun _ h => h) (fun xs ih h => ih h) (fun xs ih h => ih h) (fun _ _ h => h) (fun h => h)
      (fun x xs h1 h2 h => by simp [fines] at h ⊢; exact ⟨h1 h.1, h2 h.2⟩) trivial (fun _ _ _ _ => trivial) (fun _ _ _ _ => trivial) d
  exact key d h.f
mutual
theorem fine_shown {b : Nat} (hb : b < 10 ^ 12) : ∀ {d : D}, fine b d = true → PyData.strOk d.shown = true ∧ d.showable = true ∧ d.shown.length + 5 ≤ 20 * wt d
  | .none, _ => ⟨sOk_of _, rfl, by decide⟩
  | .bool c, _ => by cases c <;> exact ⟨sOk_of _, rfl, by decide⟩
  | .int i, h => by
    have h' : i.natAbs < 10 ^ 12 := by simp [fine] at h; omega
    have := sh_int h'
    exact ⟨this.ok', this.sw, by have := this.ln; simp only [wt]; omega⟩
  | .str s, h => by
    have h' : strFine s = true := h
    simp only [strFine, Bool.and_eq_true, decide_eq_true_eq] at h'
    exact ⟨h'.1.1.2, h'.1.1.1, by have := h'.1.2; simp only [wt]; omega⟩
  | .list xs, h => by
    obtain ⟨h0, h1, h4⟩ := fines_shown hb (xs := xs) h
    refine ⟨sOk_app (sOk_from (sOk_of _) h0) (sOk_of _), by simp [PyData.showable, h1], ?_⟩
    have := listText_len_le (PyData.shownAll xs)
    simp only [PyData.shown, wt]
    omega
  | .tuple xs, h => by
    obtain ⟨h0, h1, h4⟩ := fines_shown hb (xs := xs) h
    refine ⟨sOk_app (sOk_app (sOk_of _) (sOk_join h0)) (sOk_of _), by simp [PyData.showable, h1], ?_⟩
    have := tupleText_len_le (PyData.shownAll xs)
    simp only [PyData.shown, wt]
    omega
  | .dict kvs, h => by
    have h' : dictFine kvs = true := h
    unfold dictFine at h'
    split at h'
    · exact ⟨sOk_of "{}", rfl, by decide⟩
    · rename_i a c
      simp only [Bool.and_eq_true, Bool.or_eq_true, decide_eq_true_eq] at h'
      obtain ⟨rfl, rfl | rfl⟩ := h'
      · exact ⟨sOk_of "{0: 0}", rfl, by decide⟩
      · exact ⟨sOk_of "{0: 1}", rfl, by decide⟩
    · cases h'
theorem fines_shown {b : Nat} (hb : b < 10 ^ 12) : ∀ {xs : List D}, fines b xs = true → (∀ t ∈ PyData.shownAll xs, PyData.strOk t = true) ∧ PyData.showableAll xs = true ∧ ((PyData.shownAll xs).map (·.length)).sum + 2 * (PyData.shownAll xs).length ≤ 20 * wts xs
  | [], _ => by simp [PyData.showableAll, PyData.shownAll, wts]
  | x :: xs, h => by
    have h' : fine b x = true ∧ fines b xs = true := by simpa [fines] using h
    obtain ⟨a0, a1, a2⟩ := fine_shown hb h'.1
    obtain ⟨h0, h1, h4⟩ := fines_shown hb h'.2
    refine ⟨fun t ht => (List.mem_cons.mp ht).elim (fun e => e ▸ a0) (h0 t), by simp [PyData.showableAll, a1, h1], ?_⟩
    simp only [PyData.shownAll, List.map_cons, List.sum_cons, List.length_cons, wts]
    omega
end
theorem Bt.show {b n k : Nat} {d : D} (h : Bt b n k d) (hb : b < 10 ^ 12) (hk : k ≤ 60) (hn : n ≤ 800000) : okShowX d = true := by
  obtain ⟨h1, h2, h3⟩ := fine_shown hb h.f
  have h4 := h.w
  have h5 := h.d
  simp [okShowX, h2]
  exact ⟨by omega, by show _ ≤ 16777216; omega⟩
structure Bts (b n k : Nat) (xs : List D) : Prop where
  f : ∀ x ∈ xs, fine b x = true
  w : wts xs ≤ n
  d : ∀ x ∈ xs, PyData.depth x ≤ k
theorem Bt.tup {b n k : Nat} {xs : List D} (h : Bts b n k xs) : Bt b (n + 1) (k + 1) (.tuple xs) := ⟨fines_iff.mpr h.f, by simp only [wt]; have := h.w; omega, by simp only [PyData.depth]; have := depths_iff.mpr h.d; omega⟩
theorem Bt.lst {b n k : Nat} {xs : List D} (h : Bts b n k xs) : Bt b (n + 1) (k + 1) (.list xs) := ⟨fines_iff.mpr h.f, by simp only [wt]; have := h.w; omega, by simp only [PyData.depth]; have := depths_iff.mpr h.d; omega⟩
theorem Bts.nil {b k : Nat} : Bts b 0 k [] := ⟨by simp, Nat.le_refl _, by simp⟩
theorem Bts.cons {b n m k : Nat} {x : D} {xs : List D} (h : Bt b n k x) (t : Bts b m k xs) : Bts b (n + m) k (x :: xs) := ⟨by simpa using ⟨h.f, t.f⟩, by simp only [wts]; have := h.w; have := t.w; omega, by simpa using ⟨h.d, t.d⟩⟩
theorem Bts.one {b n k : Nat} {x : D} (h : Bt b n k x) : Bts b n k [x] := by simpa using Bts.cons h Bts.nil
theorem Bts.app {b n m k : Nat} {xs ys : List D} (h : Bts b n k xs) (t : Bts b m k ys) : Bts b (n + m) k (xs ++ ys) := ⟨fun x hx => (List.mem_append.mp hx).elim (h.f x) (t.f x), by rw [wts_append]; have := h.w; have := t.w; omega, fun x hx => (List.mem_append.mp hx).elim (h.d x) (t.d x)⟩
theorem Bts.of {b n k : Nat} {xs : List D} (h : Bt b (n + 1) (k + 1) (.tuple xs)) : Bts b n k xs := ⟨fines_iff.mp h.f, by have := h.w; simp only [wt] at this; omega, by have := h.d; simp only [PyData.depth] at this; exact depths_iff.mp (by omega)⟩
theorem Bts.mono {b n k b' n' k' : Nat} {xs : List D} (h : Bts b n k xs) (h1 : b ≤ b') (h2 : n ≤ n') (h3 : k ≤ k') : Bts b' n' k' xs := Bts.of ((Bt.tup h).mono h1 (by omega) (by omega))
theorem Bts.sub {b n k m : Nat} {xs ys : List D} (h : Bts b n k xs) (hs : ∀ y ∈ ys, y ∈ xs) (hw : wts ys ≤ m) : Bts b m k ys := ⟨fun y hy => h.f y (hs y hy), hw, fun y hy => h.d y (hs y hy)⟩
theorem Bts.get {b n k : Nat} {xs : List D} (h : Bts b n k xs) {j : Nat} (hj : j < xs.length) : Bt b n k xs[j] := ⟨h.f _ (List.getElem_mem hj), by have := wts_at hj; have := h.w; omega, h.d _ (List.getElem_mem hj)⟩
/-- one part otherwise -/
theorem Bts.swap {b n k m : Nat} {xs : List D} (h : Bts b n k xs) {j : Nat} (hj : j < xs.length) {y : D} (hy : Bt b m k y) : Bts b (n - wt xs[j] + m) k (xs.take j ++ [y] ++ xs.drop (j + 1)) := by
  have hw := wts_at hj
  have hn := h.w
  have := ((h.sub (ys := xs.take j) (fun _ => List.mem_of_mem_take) (Nat.le_refl _)).app (.one hy)).app (h.sub (ys := xs.drop (j + 1)) (fun _ => List.mem_of_mem_drop) (Nat.le_refl _))
  exact ⟨this.f, by have := this.w; omega, this.d⟩
/-- one part more -/
theorem Bts.put {b n k m : Nat} {xs : List D} (h : Bts b n k xs) (j : Nat) {y : D} (hy : Bt b m k y) : Bts b (n + m) k (xs.take j ++ [y] ++ xs.drop j) := by
  have hw := wts_take xs j
  have hn := h.w
  have := ((h.sub (ys := xs.take j) (fun _ => List.mem_of_mem_take) (Nat.le_refl _)).app (.one hy)).app (h.sub (ys := xs.drop j) (fun _ => List.mem_of_mem_drop) (Nat.le_refl _))
  exact ⟨this.f, by have := this.w; omega, this.d⟩
section
variable {T : Tab}
end
end Q

namespace Q
open PySem PySem.Spec PyProof.Rows L2
def repL (r : List Part) : D := .list (r.map partD)
section
variable {T : Tab}
theorem p_led_back (b : LedR T) (k : Nat) {S : Sto} (hS : S[0]? = some (.tab "lots_of" "lots_of")) {s : Sky} (os : s.Ok) {r : List Part} (o : RepOk r s) {N : Nat} (h1 : 1 ≤ N) (h2 : N ≤ 1000) (hN : s.back N = true) (hj : ∀ j, 1 ≤ j → j < N → s.back j = false) : callQ T (k + 9) "led_back" [.d s.D, .d (repD r)] S = .ok (.d (ledD s N r)) (S ++ [.dcm (ldM (soI s r) (allViews s N))]) := by
  rw [callQ_succ b.led_back rfl rfl]
  have c0 := p_need_report b.toViewB (k + 2) S os o
  have c1 := p_lots_so b k S os o h1 h2 hN hj
  have hl : 0 < S.length := (List.getElem?_eq_some_iff.mp hS).1
  have hS2 : (S ++ [O.dcm (ldM (soI s r) (allViews s N))])[0]? = some (.tab "lots_of" "lots_of") := by rw [List.getElem?_append_left hl]; exact hS
  have c2 := p_lotsE b.lots_of (k + 7) hS2 (n := r.length) o.l
  have gl : ∀ S, gLen [.d (repD r)] S = .ok (.d (.int (r.length : Int))) S := fun S => by simp [repD, gLen]
  have st : (S ++ [O.dcm (ldM (soI s r) (allViews s N))])[S.length]? = some (.dcm (ldM (soI s r) (allViews s N))) := by simp
  have rg : rangeD 0 r.length = (everyI r.length).map PyData.int := by
    unfold rangeD everyI
    rw [List.map_map]
    exact List.map_congr_left fun i _ => by simp
  have hr : inR (r.length : Int) = true := inR_of (by have := o.l; omega) (by have := o.l; omega)
  have hr6 : r.length ≤ 16777216 := by have := o.l; omega
  have hr7 : (r.length : Int) ≤ 16777216 := by have := o.l; omega
  have dc := decs_ints (everyI r.length)
  have gm := ldM_get (soI s r) (allViews s N) (everyI r.length)
  rw [find_every] at gm
  have hv := views_len os N
  have hv2 : N * 132 ≤ 1000 * 132 := Nat.mul_le_mul_right _ h2
  have hlen := ldM_len (soI s r) (allViews s N)
  have hlm : (ldM (soI s r) (allViews s N)).length ≤ 16777216 := by omega
  have ks := ldM_keys (soI s r) (allViews s N)
  unfold ledD
  cases hw : viewsOf s N r with
  | cons v rest =>
    rw [hw] at gm
    generalize ldM (soI s r) (allViews s N) = A at *
    generalize repD r = R at *
    generalize s.D = G at *
    generalize everyI r.length = EV at *
    simp [E_led_back, startQ, c0, c1, gl, hr, rg, hr6, hr7, LIM, gInM, st, dc, gm, fAtM]
  | nil =>
    rw [hw] at gm
    obtain ⟨rest, hb⟩ := bar_some hw
    have hkl : (ldK (soI s r) (allViews s N)).length ≤ 16777216 := by
      have := congrArg List.length ks
      simp at this
      omega
    have e : compL (.name 4) (ED_led_back_1 (callQ T (k + 8))) (EC_led_back_2 (callQ T (k + 8))) [some (.d s.D), some (.d (repD r)), some (.ref S.length), some (.d (lotI (everyI r.length))), none] ((lotsN r.length).map lotI) (S ++ [.dcm (ldM (soI s r) (allViews s N))]) = .ok (((lotsN r.length).filter fun L => apartI L (ldK (soI s r) (allViews s N))).map lotI) (S ++ [.dcm (ldM (soI s r) (allViews s N))]) := by
      refine compL_flt (t := .name 4) lotI lotI _ (fun L => [some (.d s.D), some (.d (repD r)), some (.ref S.length), some (.d (lotI (everyI r.length))), some (.d (lotI L))]) (fun x hx => rfl) (fun L hL => ?_) fun L hL _ => ?_
      · have hll := (raw_lt (mem_lots.mp hL)).1
        have ca := p_apart b.apart (k + 7) (S ++ [.dcm (ldM (soI s r) (allViews s N))]) L (ldK (soI s r) (allViews s N)) (by omega) hkl
        have gk : gKeysM [.ref S.length] (S ++ [.dcm (ldM (soI s r) (allViews s N))]) = .ok (.d (.list ((ldK (soI s r) (allViews s N)).map lotI))) (S ++ [.dcm (ldM (soI s r) (allViews s N))]) := by
          simp only [gKeysM, st]
          rw [if_pos (show (ldM (soI s r) (allViews s N)).length ≤ LIM from hlm), ks]
        generalize (S ++ [O.dcm (ldM (soI s r) (allViews s N))]) = S2 at *
        generalize (ldK (soI s r) (allViews s N)).map lotI = KS at *
        generalize apartI L (ldK (soI s r) (allViews s N)) = AP at *
        generalize lotI L = LL at *
        generalize lotI (everyI r.length) = EV at *
        generalize repD r = R at *
        generalize s.D = G at *
        simp [ED_led_back_1, gk, ca]
      · simp [EC_led_back_2]
    rw [hb] at e
    simp only [List.map_cons] at e
    have hrl : rest.length ≤ 1000 := by
      have h3 : ((lotsN r.length).filter fun L => apartI L (ldK (soI s r) (allViews s N))).length ≤ (lotsN r.length).length := List.length_filter_le _ _
      rw [hb] at h3
      have h4 : (lotsN r.length).length = 2 ^ r.length := by unfold lotsN; rw [(sortLots_perm _).length_eq, raw_len]
      have h5 : 2 ^ r.length ≤ 2 ^ 6 := Nat.pow_le_pow_right (by omega) o.l
      simp at h3
      omega
    have hrl2 : (rest.map lotI).length + 1 ≤ 16777216 := by rw [List.length_map]; omega
    generalize rest.map lotI = RS at *
    generalize (lotsN r.length).map lotI = LN at *
    generalize ldM (soI s r) (allViews s N) = A at *
    generalize repD r = R at *
    generalize s.D = G at *
    unfold lotI at *
    generalize (barI s N r).map PyData.int = BI at *
    generalize everyI r.length = EV at *
    simp [E_led_back, startQ, c0, c1, gl, hr, rg, hr6, hr7, LIM, gInM, st, dc, gm, c2, notOwn, e, hrl2]
theorem mem_places {s : Sky} {q : Int × Int} (w0 : 0 ≤ s.w) (h0 : 0 ≤ s.h) : q ∈ places s ↔ (0 ≤ q.1 ∧ q.1 < s.w) ∧ (-s.h ≤ q.2 ∧ q.2 ≤ s.h) := by
  unfold places
  simp only [List.mem_flatMap, List.mem_map, List.mem_range]
  constructor
  · rintro ⟨e, he, j, hj, rfl⟩
    simp only
    omega
  · rintro ⟨⟨a, b⟩, c, d⟩
    exact ⟨q.1.toNat, by omega, (q.2 + s.h).toNat, by omega, Prod.ext (by simp only; omega) (by simp only; omega)⟩
theorem mem_views {s : Sky} {N : Nat} {v : View} (w0 : 0 ≤ s.w) (h0 : 0 ≤ s.h) : v ∈ allViews s N ↔ (0 ≤ v.1 ∧ v.1 < N) ∧ ((0 ≤ v.2.1 ∧ v.2.1 < s.w) ∧ (-s.h ≤ v.2.2 ∧ v.2.2 ≤ s.h)) := by
  unfold allViews
  simp only [List.mem_flatMap, List.mem_map, List.mem_range]
  constructor
  · rintro ⟨m, hm, q, hq, rfl⟩
    have := (mem_places w0 h0).mp hq
    simp only
    omega
  · rintro ⟨⟨a, b⟩, c⟩
    exact ⟨v.1.toNat, by omega, v.2, (mem_places w0 h0).mpr c, Prod.ext (by simp only; omega) rfl⟩
end
end Q

namespace Q
open PySem PySem.Spec PyProof.Rows L2
/-- the rows, on and on -/
def rowF (rows : List Int) (n : Nat) : Int := rows.getD (n % rows.length) 0
/-- moved on by m they are as they were -/
def Rot (rows : List Int) (m : Nat) : Prop := ∀ n, rowF rows (n + m) = rowF rows n
theorem rowF_mod {rows : List Int} {n : Nat} : rowF rows (n % rows.length) = rowF rows n := by
  simp [rowF]
theorem rowF_add {rows : List Int} (n m : Nat) : rowF rows (n % rows.length + m) = rowF rows (n + m) := by
  simp [rowF, Nat.mod_add_mod]
theorem rot_iff {rows : List Int} (m : Nat) : Rot rows m ↔ ∀ n, n < rows.length → rowF rows (n + m) = rowF rows n := by
  refine ⟨fun h n _ => h n, fun h n => ?_⟩
  by_cases h0 : rows.length = 0
  · have : rows = [] := List.length_eq_zero_iff.mp h0
    subst this
    rfl
  · rw [← rowF_add, h _ (Nat.mod_lt _ (by omega)), rowF_mod]
theorem rot_len (rows : List Int) : Rot rows rows.length := fun n => by simp [rowF]
theorem rot_mul {rows : List Int} {p : Nat} (h : Rot rows p) : ∀ k, Rot rows (p * k)
  | 0 => fun n => rfl
  | k + 1 => fun n => by
    rw [Nat.mul_succ, ← Nat.add_assoc, h, rot_mul h k]
theorem rot_mod {rows : List Int} {p m : Nat} (hp : Rot rows p) (hm : Rot rows m) : Rot rows (m % p) := fun n => by
  have e : n + m % p + p * (m / p) = n + m := by have := Nat.mod_add_div m p; omega
  rw [← rot_mul hp (m / p) (n + m % p), e, hm n]
theorem rot_dvd {rows : List Int} {p : Nat} (h0 : 0 < p) (hp : Rot rows p) (hmin : ∀ j, 0 < j → j < p → ¬ Rot rows j) (m : Nat) : Rot rows m ↔ p ∣ m := by
  constructor
  · intro hm
    have := rot_mod hp hm
    by_cases z : m % p = 0
    · exact Nat.dvd_of_mod_eq_zero z
    · exact absurd this (hmin _ (by omega) (Nat.mod_lt _ h0))
  · rintro ⟨k, rfl⟩
    exact rot_mul hp k
theorem row_nat (l : Light) (n : Nat) : l.row (n : Int) = rowF l.rows n := by
  unfold Light.row rowF
  have : ((n : Int) % (l.rows.length : Int)) = ((n % l.rows.length : Nat) : Int) := by simp
  rw [this, Int.toNat_natCast]
theorem back_iff (l : Light) (w : Int) (many : Nat) : l.back w many = true ↔ l.s * many % w = 0 ∧ Rot l.rows many := by
  unfold Light.back
  rw [Bool.and_eq_true, decide_eq_true_iff, List.all_eq_true, rot_iff]
  refine and_congr Iff.rfl ⟨fun h n hn => ?_, fun h n hn => ?_⟩
  · have := of_decide_eq_true (h n (by simpa using hn))
    rw [← row_nat, Int.natCast_add, this]
    simp [rowF, Nat.mod_eq_of_lt hn]
  · have hn : n < l.rows.length := by simpa using hn
    have := h n hn
    refine decide_eq_true ?_
    rw [← Int.natCast_add, row_nat, this]
    simp [rowF, Nat.mod_eq_of_lt hn]
theorem cols_iff {w : Int} (h : 0 < w) (s : Int) (many : Nat) : s * many % w = 0 ↔ w.toNat / Nat.gcd w.toNat s.natAbs ∣ many := by
  obtain ⟨n, rfl⟩ := Int.eq_ofNat_of_zero_le (Int.le_of_lt h)
  have hn : 0 < n := by omega
  rw [← Int.dvd_iff_emod_eq_zero, ← Int.natAbs_dvd_natAbs, Int.natAbs_mul, Int.natAbs_natCast, Int.natAbs_natCast, Int.toNat_natCast, ← Nat.dvd_gcd_mul_iff_dvd_mul]
  have hg : 0 < Nat.gcd n s.natAbs := Nat.gcd_pos_of_pos_left _ hn
  obtain ⟨k, hk⟩ := Nat.gcd_dvd_left n s.natAbs
  have : n / Nat.gcd n s.natAbs = k := by
    exact Nat.div_eq_of_eq_mul_right hg hk
  rw [this]
  constructor
  · rintro ⟨c, hc⟩
    refine ⟨c, Nat.eq_of_mul_eq_mul_left hg ?_⟩
    rw [hc, ← Nat.mul_assoc, ← hk]
  · rintro ⟨c, rfl⟩
    refine ⟨c, ?_⟩
    rw [← Nat.mul_assoc, ← hk]
/-- the least number of moments by which the rows are as they were: told by the law -/
def rotB (rows : List Int) (m : Nat) : Bool := decide (rows = rows.drop (m % rows.length) ++ rows.take (m % rows.length))
theorem rotB_iff {rows : List Int} {m : Nat} (h0 : 0 < rows.length) : rotB rows m = true ↔ Rot rows m := by
  have hm : m % rows.length < rows.length := Nat.mod_lt _ h0
  unfold rotB
  rw [decide_eq_true_iff, rot_iff]
  have key : ∀ n, n < rows.length → (rows.drop (m % rows.length) ++ rows.take (m % rows.length))[n]? = some (rowF rows (n + m)) := by
    intro n hn
    have e : rowF rows (n + m) = rowF rows (n + m % rows.length) := by
      unfold rowF
      rw [Nat.add_mod_mod]
    rw [e, List.getElem?_append, List.length_drop]
    by_cases h : n < rows.length - m % rows.length
    · rw [if_pos h, List.getElem?_drop]
      have : (n + m % rows.length) % rows.length = m % rows.length + n := by
        rw [Nat.mod_eq_of_lt (by omega)]; omega
      simp [rowF, this]
      rw [List.getElem?_eq_getElem (by omega)]
      rfl
    · rw [if_neg h, List.getElem?_take]
      have : (n + m % rows.length) % rows.length = n - (rows.length - m % rows.length) := by
        rw [Nat.mod_eq_sub_mod (by omega), Nat.mod_eq_of_lt (by omega)]; omega
      rw [if_pos (by omega)]
      simp [rowF, this]
      rw [List.getElem?_eq_getElem (by omega)]
      rfl
  have key2 : ∀ n, n < rows.length → rows[n]? = some (rowF rows n) := by
    intro n hn
    simp [rowF, Nat.mod_eq_of_lt hn, hn]
  constructor
  · intro h n hn
    have h1 := key n hn
    rw [← h, key2 n hn] at h1
    exact (Option.some.inj h1).symm
  · intro h
    apply List.ext_getElem?
    intro n
    by_cases hn : n < rows.length
    · rw [key n hn, key2 n hn, h n hn]
    · rw [List.getElem?_eq_none (by omega), List.getElem?_eq_none (by simp; omega)]
/-- 1, 2, .. up to the rows' number, those that turn -/
def turns (rows : List Int) : List Nat := ((List.range rows.length).map (1 + ·)).filter (rotB rows)
theorem turns_head {rows : List Int} (h0 : 0 < rows.length) : ∃ p t, turns rows = p :: t ∧ 0 < p ∧ p ≤ rows.length ∧ ∀ m, Rot rows m ↔ p ∣ m := by
  have hne : rows.length ∈ turns rows := by
    unfold turns
    refine List.mem_filter.mpr ⟨List.mem_map.mpr ⟨rows.length - 1, by simp; omega, by omega⟩, (rotB_iff h0).mpr (rot_len rows)⟩
  match e : turns rows with
  | [] => rw [e] at hne; simp at hne
  | p :: t =>
    have hp : p ∈ turns rows := by rw [e]; simp
    have pw : (turns rows).Pairwise (· < ·) := by
      unfold turns
      refine List.Pairwise.filter _ ?_
      exact List.pairwise_map.mpr (List.pairwise_lt_range.imp fun h => by omega)
    have hp2 := hp
    unfold turns at hp2
    obtain ⟨h1, h2⟩ := List.mem_filter.mp hp2
    obtain ⟨i, hi, rfl⟩ := List.mem_map.mp h1
    simp at hi
    refine ⟨_, t, rfl, by omega, by omega, rot_dvd (by omega) ((rotB_iff h0).mp h2) fun j hj0 hjp hr => ?_⟩
    have hj : j ∈ turns rows := by
      unfold turns
      exact List.mem_filter.mpr ⟨List.mem_map.mpr ⟨j - 1, by simp; omega, by omega⟩, (rotB_iff h0).mpr hr⟩
    rw [e] at hj pw
    rcases List.mem_cons.mp hj with rfl | hj
    · omega
    · have := (List.pairwise_cons.mp pw).1 j hj
      omega
def Light.pq (l : Light) (w : Int) : Nat × Nat := (w.toNat / Nat.gcd w.toNat l.s.natAbs, (turns l.rows).headD 1)
def Sky.turn (s : Sky) : Nat := s.ls.foldl (fun r l => Nat.lcm (Nat.lcm r (l.pq s.w).1) (l.pq s.w).2) 1
theorem back_pq {l : Light} {w h : Int} (o : l.Ok w h) (many : Nat) : l.back w many = true ↔ (l.pq w).1 ∣ many ∧ (l.pq w).2 ∣ many := by
  have w0 : 0 < w := by have := o.c0; have := o.c1; omega
  obtain ⟨p, t, e, p0, p1, hp⟩ := turns_head (rows := l.rows) (by have := o.r0; omega)
  rw [back_iff, cols_iff w0, hp]
  simp [Light.pq, e]
theorem lcm_fold {w : Int} (many : Nat) : ∀ (ls : List Light) (r : Nat), ls.foldl (fun r l => Nat.lcm (Nat.lcm r (l.pq w).1) (l.pq w).2) r ∣ many ↔ r ∣ many ∧ ∀ l ∈ ls, (l.pq w).1 ∣ many ∧ (l.pq w).2 ∣ many
  | [], r => by simp
  | l :: ls, r => by
    rw [List.foldl_cons, lcm_fold many ls, Nat.lcm_dvd_iff, Nat.lcm_dvd_iff]
    simp [and_assoc]
theorem Sky.Ok.back_turn {s : Sky} (o : s.Ok) (many : Nat) : s.back many = true ↔ s.turn ∣ many := by
  unfold Sky.turn
  rw [lcm_fold, Sky.back, List.all_eq_true]
  constructor
  · exact fun h => ⟨Nat.one_dvd _, fun l hl => (back_pq (o.l l hl) many).mp (h l hl)⟩
  · exact fun h l hl => (back_pq (o.l l hl) many).mpr (h.2 l hl)
theorem Sky.Ok.pq_dvd {s : Sky} (o : s.Ok) {l : Light} (hl : l ∈ s.ls) : (l.pq s.w).1 ∣ 12 * s.w.toNat ∧ (l.pq s.w).2 ∣ 12 * s.w.toNat := by
  have ol := o.l l hl
  have r1 := ol.r1
  obtain ⟨p, t, e, p0, p1, hp⟩ := turns_head (rows := l.rows) (by have := ol.r0; omega)
  refine ⟨Nat.dvd_mul_left_of_dvd (Nat.div_dvd_of_dvd (Nat.gcd_dvd_left _ _)) _, ?_⟩
  have : (l.pq s.w).2 = p := by simp [Light.pq, e]
  rw [this]
  refine Nat.dvd_mul_right_of_dvd ?_ _
  have : p = 1 ∨ p = 2 ∨ p = 3 ∨ p = 4 := by omega
  rcases this with rfl | rfl | rfl | rfl <;> decide
theorem Sky.Ok.turn_ok {s : Sky} (o : s.Ok) : 1 ≤ s.turn ∧ s.turn ≤ 144 ∧ s.back s.turn = true ∧ ∀ j, 1 ≤ j → j < s.turn → s.back j = false := by
  have w0 := o.w0
  have w1 := o.w1
  have hd : s.turn ∣ 12 * s.w.toNat := by
    unfold Sky.turn
    rw [lcm_fold]
    exact ⟨Nat.one_dvd _, fun l hl => o.pq_dvd hl⟩
  have hle := Nat.le_of_dvd (by omega) hd
  have hpos := Nat.pos_of_dvd_of_pos hd (by omega)
  refine ⟨hpos, by omega, (o.back_turn _).mpr (Nat.dvd_refl _), fun j h1 h2 => ?_⟩
  cases e : s.back j with
  | false => rfl
  | true =>
    have := Nat.le_of_dvd (by omega) ((o.back_turn j).mp e)
    omega
/-- so far: each step divides, too -/
theorem Sky.Ok.turn_pre {s : Sky} (o : s.Ok) (n : Nat) : (s.ls.take n).foldl (fun r l => Nat.lcm (Nat.lcm r (l.pq s.w).1) (l.pq s.w).2) 1 ∣ 12 * s.w.toNat := by
  rw [lcm_fold]
  exact ⟨Nat.one_dvd _, fun l hl => o.pq_dvd (List.mem_of_mem_take hl)⟩
end Q

namespace Q
open PySem PySem.Spec L2
theorem skT : SkyT T := ⟨⟨T_is_whole, T_is_among, T_is_row⟩, T_is_light_of, T_is_sky, T_need_sky⟩
theorem vT : ViewB T := ⟨⟨⟨skT, T_stands_by⟩, T_half_of, T_is_cell, T_up_by⟩, T_is_part, T_need_report, T_places_of, T_all_views, T_so_at, T_is_back, T_round_of⟩
theorem leT : LedR T := ⟨vT, T_lots_so, T_lots_of, T_are_apart, T_led_back⟩
abbrev tab0 (S : Sto) : Prop := S[0]? = some (.tab "lots_of" "lots_of")
def PenK (S : Sto) (n : Nat) : Prop := PenOk S n ∧ tab0 S ∧ n ≠ 0
@[simp] theorem y_ext {cf : CF} {env : EnvQ} {S : Sto} (i : Nat) (f : SE) : sExt i f cf env S = (match env[i]? with
  | some (some (.own xs)) => (f cf env S).then env (fun w S' => (match w with
    | .d (.list ys) => if xs.length + ys.length ≤ LIM then .next (env.set i (some (.own (xs ++ ys)))) S' else .stuck
    | _ => .stuck))
  | _ => .stuck) := rfl
theorem w_draw (k : Nat) {n : Nat} {m : Int} {S : Sto} (h : PenK S n) (h0 : 0 < m) (hm : m < 18446744073709551616) : ∃ r S', callQ T (k + 1) "_law_draw" [.ref n, .d (.int m)] S = .ok (.d (.int r)) S' ∧ 0 ≤ r ∧ r < m ∧ PenK S' n := by
  obtain ⟨r, S', e, a, b, p, o, rfl⟩ := draw_spec (k := k) T__law_draw h.1 h0 hm
  exact ⟨r, _, e, a, b, p, by show (S.set n o)[0]? = _; rw [List.getElem?_set_ne h.2.2]; exact h.2.1, h.2.2⟩
theorem w_cell_at (k : Nat) (S : Sto) (ns : List Int) (j : Nat) : ∃ z, callQ T (k + 1) "_law_cell_at" [.scr ns, .d (.int j)] S = .ok (.d (.int z)) S := by
  rw [callQ_succ T__law_cell_at rfl rfl]
  by_cases h : j < ns.length
  · refine ⟨ns[j], ?_⟩
    simp [F__law_cell_at, startQ, gLen, h, atI_nat]
  · refine ⟨0, ?_⟩
    simp [F__law_cell_at, startQ, gLen, h]
theorem w_pen (k : Nat) (S : Sto) (hS : tab0 S) (z : Int) : ∃ S', callQ T (k + 1) "_law_pen" [.d (.int z)] S = .ok (.ref S.length) S' ∧ PenK S' S.length := by
  have hl := (List.getElem?_eq_some_iff.mp hS).1
  rw [callQ_succ T__law_pen rfl rfl]
  refine ⟨S ++ [.lst [.int (if z - 10 ^ 18 > 0 then z - 10 ^ 18 else 0), .int (z % 2147483629 + 1), .int 0]], ?_, ?_, ?_, ?_⟩
  · simp [F__law_pen, startQ, LIM]
  · refine ⟨_, _, _, by simp; exact ⟨rfl, rfl, rfl⟩, ?_, ?_, ?_⟩
    · split <;> omega
    · have := Int.emod_nonneg z (b := 2147483629) (by omega); omega
    · have := Int.emod_lt_of_pos z (b := 2147483629) (by omega); omega
  · show (S ++ _)[0]? = _
    rw [List.getElem?_append_left hl]; exact hS
  · omega
theorem w_pick (k : Nat) {n : Nat} {S : Sto} (h : PenK S n) {xs : List D} (h0 : 0 < xs.length) (h1 : xs.length < 100) : ∃ x S', x ∈ xs ∧ callQ T (k + 2) "_law_pick" [.ref n, .d (.list xs)] S = .ok (.d x) S' ∧ PenK S' n := by
  obtain ⟨r, S', e, a, b, p⟩ := w_draw k (m := (xs.length : Int)) h (by omega) (by omega)
  obtain ⟨j, rfl⟩ := Int.eq_ofNat_of_zero_le a
  have hj : j < xs.length := by omega
  refine ⟨xs[j], S', List.getElem_mem hj, ?_, p⟩
  rw [callQ_succ T__law_pick rfl rfl]
  simp [F__law_pick, startQ, e, atI_nat, hj]
theorem ints_ofP22 {P : Int → Prop} : ∀ {xs : List D}, (∀ x ∈ xs, ∃ t : Int, x = .int t ∧ P t) → ∃ ts : List Int, xs = ts.map PyData.int ∧ ∀ t ∈ ts, P t
  | [], _ => ⟨[], rfl, by simp⟩
  | x :: xs, h => by
    obtain ⟨t, rfl, ht⟩ := h x (by simp)
    obtain ⟨ts, rfl, hts⟩ := ints_ofP22 (xs := xs) fun y hy => h y (by simp [hy])
    exact ⟨t :: ts, rfl, by simpa using ⟨ht, hts⟩⟩
theorem w_sky (k : Nat) {n : Nat} {S : Sto} (h : PenK S n) : ∃ s S', Sky.Ok s ∧ callQ T (k + 3) "_law_sky" [.ref n, .d (.int 5)] S = .ok (.d s.D) S' ∧ PenK S' n := by
  obtain ⟨x, S1, hx, e1, p1⟩ := w_pick k h (xs := [.int 4, .int 4, .int 5, .int 6, .int 6, .int 8, .int 12]) (by simp) (by simp)
  obtain ⟨w, rfl, w0, w1⟩ : ∃ w : Int, x = .int w ∧ 4 ≤ w ∧ w ≤ 12 := by
    simp at hx
    rcases hx with rfl | rfl | rfl | rfl | rfl <;> exact ⟨_, rfl, by omega, by omega⟩
  obtain ⟨hh, S2, e2, h0, h1, p2⟩ := w_draw (k + 1) (m := 5) p1 (by omega) (by omega)
  obtain ⟨y, S3, hy, e3, p3⟩ := w_pick k p2 (xs := [.list [.int 1, .int 2], .list [.int 1, .int 2, .int 4], .list [.int 1, .int 3], .list [.int 1, .int 1, .int 2]]) (by simp) (by simp)
  obtain ⟨L, rfl, l0, l1, hL⟩ : ∃ L : List D, y = .list L ∧ 0 < L.length ∧ L.length < 100 ∧ ∀ z ∈ L, ∃ t : Int, z = .int t ∧ 1 ≤ t ∧ t ≤ 4 := by
    simp at hy
    rcases hy with rfl | rfl | rfl | rfl <;> refine ⟨_, rfl, by simp, by simp, fun z hz => ?_⟩ <;> simp at hz
    · rcases hz with rfl | rfl <;> exact ⟨_, rfl, by omega, by omega⟩
    · rcases hz with rfl | rfl | rfl <;> exact ⟨_, rfl, by omega, by omega⟩
    · rcases hz with rfl | rfl <;> exact ⟨_, rfl, by omega, by omega⟩
    · rcases hz with rfl | rfl <;> exact ⟨_, rfl, by omega, by omega⟩
  obtain ⟨c, S4, e4, c0, c1, p4⟩ := w_draw (k + 1) (m := 5) p3 (by omega) (by omega)
  have loop := forL_inv0 (t := .name 6) (body := B__law_sky_2 (callQ T (k + 2))) (ds := rangeD 0 (1 + c).toNat) (env := [some (.ref n), some (.d (.int 5)), some (.d (.int w)), some (.d (.int (1 + hh))), some (.own []), some (.d (.list L)), none, none, none, none]) (S := S4)
    (fun i env S' => ∃ (ls : List Light) (e6 e7 e8 : Option W), env = [some (.ref n), some (.d (.int 5)), some (.d (.int w)), some (.d (.int (1 + hh))), some (.own (ls.map Light.D)), some (.d (.list L)), e6, e7, e8, none] ∧ ls.length = i ∧ (∀ l ∈ ls, l.Ok w (1 + hh)) ∧ PenK S' n ∧ i ≤ 6) ⟨[], none, none, none, rfl, rfl, by simp, p4, by omega⟩ (by
    rintro i d env S' hd ⟨ls, e6, e7, e8, rfl, rfl, hls, pe, hi6⟩
    obtain ⟨hi, rfl⟩ := rangeD_get hd
    obtain ⟨r1, T1, f1, a1, b1, q1⟩ := w_draw (k + 1) (m := 4) pe (by omega) (by omega)
    obtain ⟨sp, T2, sp0, sp1, q2, hspd⟩ : ∃ (sp : Int) (T2 : Sto), -9 ≤ sp ∧ sp ≤ 9 ∧ PenK T2 n ∧ (fIf (cVal (fBin gGt (fCallN "_law_draw" 2 (aCons (fVar 0) (aCons (fInt 4) aNil))) (fInt 0))) (fBin gSub (fCallN "_law_draw" 2 (aCons (fVar 0) (aCons (fInt 5) aNil))) (fInt 2)) (fBin gSub (fCallN "_law_draw" 2 (aCons (fVar 0) (aCons (fInt 19) aNil))) (fInt 9))) (callQ T (k + 2)) [some (.ref n), some (.d (.int 5)), some (.d (.int w)), some (.d (.int (1 + hh))), some (.own (ls.map Light.D)), some (.d (.list L)), some (.d (.int (0 + ls.length))), e7, e8, none] S' = .ok (.d (.int sp)) T2 := by
      by_cases h : 0 < r1
      · obtain ⟨r2, T2, f2, a2, b2, q2⟩ := w_draw (k + 1) (m := 5) q1 (by omega) (by omega)
        exact ⟨r2 - 2, T2, by omega, by omega, q2, by simp [f1, h, f2]⟩
      · obtain ⟨r2, T2, f2, a2, b2, q2⟩ := w_draw (k + 1) (m := 19) q1 (by omega) (by omega)
        exact ⟨r2 - 9, T2, by omega, by omega, q2, by simp [f1, h, f2]⟩
    obtain ⟨z, T3, hz, f3, q3⟩ := w_pick k q2 (xs := L) l0 l1
    obtain ⟨t, rfl, t0, t1⟩ := hL z hz
    have hc := compL_stI (i := 9) (f := C__law_sky_1 (callQ T (k + 2))) (c := cYes (callQ T (k + 2))) (env := [some (.ref n), some (.d (.int 5)), some (.d (.int w)), some (.d (.int (1 + hh))), some (.own (ls.map Light.D)), some (.d (.list L)), some (.d (.int (0 + ls.length))), some (.d (.int sp)), e8, none]) (fun j S => PenK S n) (fun d => ∃ t : Int, d = .int t ∧ 0 ≤ t ∧ t < 1 + hh) (ds := rangeD 0 t.toNat) (fun d S => rfl) q3 (by
      intro j d S hd pj
      obtain ⟨r, S', f, a, b, q⟩ := w_draw (k + 1) (m := 1 + hh) pj (by omega) (by omega)
      exact ⟨.int r, S', by simp [C__law_sky_1, f], q, r, rfl, a, b⟩)
    obtain ⟨xs, T5, f5, q5, l5, g5⟩ := hc
    obtain ⟨ts, rfl, hts⟩ := ints_ofP22 g5
    rw [rangeD_len] at l5
    obtain ⟨r6, T6, f6, a6, b6, q6⟩ := w_draw (k + 1) (m := w) q5 (by omega) (by omega)
    have htl : ts.length = t.toNat := by simpa using l5
    have ok : Light.Ok (Light.mk r6 sp ts) w (1 + hh) := ⟨a6, b6, sp0, sp1, by simp only; omega, by simp only; omega, hts⟩
    refine ⟨_, [some (.ref n), some (.d (.int 5)), some (.d (.int w)), some (.d (.int (1 + hh))), some (.own ((ls ++ [Light.mk r6 sp ts]).map Light.D)), some (.d (.list L)), some (.d (.int (0 + ls.length))), some (.d (.int sp)), some (.d (.tuple (ts.map PyData.int))), none], T6, rfl, .inl ?_, ls ++ [Light.mk r6 sp ts], _, _, _, rfl, by simp, fun l hl => ?_, q6, by omega⟩
    · have hr : inR t = true := inR_of (by omega) (by omega)
      have hl1 : ls.length < 16777216 := by omega
      have hl2 : ts.length ≤ 16777216 := by omega
      simp at f5
      simp only [B__law_sky_2, y_seq, y_set]
      rw [show (0 + (ls.length : Int)) = (ls.length : Int) by omega] at hspd ⊢
      simp only [z_name, List.set_cons_succ, List.set_cons_zero]
      rw [hspd]
      simp [f3, hr, notOwn, f5, f6, LIM, hl1, hl2, Light.D]
    · rcases List.mem_append.mp hl with hl | hl
      · exact hls l hl
      · simp at hl
        subst hl
        exact ok)
  obtain ⟨env', S', e5, ls, f6, f7, f8, rfl, hlen, hls, p5, h6⟩ := loop
  rw [rangeD_len] at hlen h6
  have ok : Sky.Ok ⟨w, 1 + hh, ls⟩ := ⟨w0, w1, by simp only; omega, by simp only; omega, by simp only; omega, by simp only; omega, hls⟩
  refine ⟨⟨w, 1 + hh, ls⟩, S', ok, ?_, p5⟩
  have hr : inR (1 + c) = true := inR_of (by omega) (by omega)
  rw [callQ_succ T__law_sky rfl rfl]
  simp [F__law_sky, startQ, e1, e2, e3, e4, hr, e5, LIM, Sky.D]
theorem gcd_while (cf : CF) (S : Sto) : ∀ (b a fuel : Nat), b < fuel → whileL (cVal (fBin gGt (fVar 1) (fInt 0)) cf) (B__law_gcd_1 cf) fuel [some (.d (.int (a : Int))), some (.d (.int (b : Int)))] S = .next [some (.d (.int ((Nat.gcd b a : Nat) : Int))), some (.d (.int 0))] S := by
  intro b
  induction b using Nat.strongRecOn with
  | ind b ih =>
    intro a fuel hf
    match fuel, hf with
    | fuel + 1, hf =>
      simp only [whileL]
      by_cases h0 : b = 0
      · subst h0
        simp
      · have hb : (0 : Int) < (b : Int) := by omega
        have := ih (a % b) (Nat.mod_lt _ (by omega)) b fuel (by have := Nat.mod_lt a (show 0 < b by omega); omega)
        have hg : Nat.gcd b a = Nat.gcd (a % b) b := Nat.gcd_rec b a
        rw [hg]
        simp [B__law_gcd_1, hb, show 0 < b by omega]
        have e : ((a : Int) % (b : Int)) = ((a % b : Nat) : Int) := by simp
        rw [e]
        exact this
theorem w_gcd (k : Nat) (S : Sto) (a b : Nat) (hb : b < 1000000) : callQ T (k + 1) "_law_gcd" [.d (.int (a : Int)), .d (.int (b : Int))] S = .ok (.d (.int ((Nat.gcd b a : Nat) : Int))) S := by
  rw [callQ_succ T__law_gcd rfl rfl]
  have := gcd_while (callQ T k) S b a 1000000 hb
  simp [F__law_gcd, startQ, this]
theorem eqvI (xs ys : List Int) : PyData.eqvAll (xs.map PyData.int) (ys.map PyData.int) = decide (xs = ys) := by
  induction xs generalizing ys with
  | nil => cases ys <;> simp [PyData.eqvAll]
  | cons x xs ih =>
    cases ys with
    | nil => simp [PyData.eqvAll]
    | cons y ys =>
      simp [PyData.eqvAll, PyData.eqv, ih]
      rfl
theorem g_eqTI (S : Sto) (xs ys : List Int) : gEq (.d (.tuple (xs.map PyData.int))) (.d (.tuple (ys.map PyData.int))) S = .ok (.d (.bool (decide (xs = ys)))) S := by
  simp [gEq, okEq, PyData.canLay0, PyData.depth, PyData.eqv, canLayI, depthI, eqvI]
theorem lcm_int (a b : Nat) : ((a : Int) * (b : Int)) / ((Nat.gcd b a : Nat) : Int) = ((Nat.lcm a b : Nat) : Int) := by
  rw [Nat.gcd_comm]
  unfold Nat.lcm
  simp
theorem w_round1 (k : Nat) (S : Sto) {s : Sky} (o : s.Ok) {l : Light} (hl : l ∈ s.ls) {r : Nat} (hr : r ∣ 12 * s.w.toNat) (e2 e3 e4 e5 e6 : Option W) (he5 : True) :
    ∃ f5 f6, B__law_round_4 (callQ T (k + 1)) [some (.d s.D), some (.d (.int (r : Int))), some (.d (.int l.c)), some (.d (.int l.s)), some (.d (.tuple (l.rows.map PyData.int))), e5, e6, none] S = .next [some (.d s.D), some (.d (.int ((Nat.lcm (Nat.lcm r (l.pq s.w).1) (l.pq s.w).2 : Nat) : Int))), some (.d (.int l.c)), some (.d (.int l.s)), some (.d (.tuple (l.rows.map PyData.int))), f5, f6, none] S := by
  have ol := o.l l hl
  have w0 := o.w0; have w1 := o.w1; have s0 := ol.s0; have s1 := ol.s1; have r0 := ol.r0; have r1 := ol.r1
  obtain ⟨wn, hwn⟩ := Int.eq_ofNat_of_zero_le (show 0 ≤ s.w by omega)
  obtain ⟨p, t, et, p0, p1, hp⟩ := turns_head (rows := l.rows) (by omega)
  have hq0 : gAt (.d s.D) (.d (.int 0)) S = .ok (.d (.int s.w)) S := rfl
  have ht : (turns l.rows).length ≤ 16777216 := by
    unfold turns
    refine Nat.le_trans (List.length_filter_le _ _) ?_
    simp; omega
  have hlen : ∀ m : Nat, m ≤ l.rows.length → (l.rows.drop m).length + (l.rows.take m).length ≤ 16777216 := by
    intro m hm; simp; omega
  have comp : ∀ e5 e6, compL (.name 7) (D__law_round_1 (callQ T (k + 1))) (C__law_round_2 (callQ T (k + 1))) [some (.d s.D), some (.d (.int (r : Int))), some (.d (.int l.c)), some (.d (.int l.s)), some (.d (.tuple (l.rows.map PyData.int))), e5, e6, none] (rangeD 1 l.rows.length) S = .ok ((turns l.rows).map fun n : Nat => PyData.int (n : Int)) S := by
    intro e5 e6
    have hrg : rangeD 1 l.rows.length = ((List.range l.rows.length).map (1 + ·)).map fun n : Nat => PyData.int (n : Int) := by
      unfold rangeD
      rw [List.map_map]
      congr 1
    rw [hrg]
    refine compL_flt (t := .name 7) (fun n : Nat => PyData.int (n : Int)) (fun n : Nat => PyData.int (n : Int)) (rotB l.rows) (fun n : Nat => [some (.d s.D), some (.d (.int (r : Int))), some (.d (.int l.c)), some (.d (.int l.s)), some (.d (.tuple (l.rows.map PyData.int))), e5, e6, some (.d (.int (n : Int)))]) (fun x hx => rfl) (fun n hn => ?_) fun n hn _ => by simp [C__law_round_2]
    have hpos : (0 : Int) < l.rows.length := by omega
    have hpos' : 0 < l.rows.length := by omega
    have hcast : ((n : Int) % (l.rows.length : Int)) = ((n % l.rows.length : Nat) : Int) := by simp
    have c1 : cutD (l.rows.map PyData.int) (some ((n % l.rows.length : Nat) : Int)) none = (l.rows.drop (n % l.rows.length)).map PyData.int := by
      rw [cutD_from, List.map_drop]
    have c2 : cutD (l.rows.map PyData.int) none (some ((n % l.rows.length : Nat) : Int)) = (l.rows.take (n % l.rows.length)).map PyData.int := by
      rw [cutD_to, List.map_take]
    have hm := Nat.mod_lt n hpos'
    have hadd : gAdd (.d (.tuple ((l.rows.drop (n % l.rows.length)).map PyData.int))) (.d (.tuple ((l.rows.take (n % l.rows.length)).map PyData.int))) S = .ok (.d (.tuple ((l.rows.drop (n % l.rows.length) ++ l.rows.take (n % l.rows.length)).map PyData.int))) S := by
      have := hlen (n % l.rows.length) (by omega)
      rw [List.map_append]
      simp only [gAdd, List.length_map, LIM]
      rw [if_pos this]
    have heq := g_eqTI S l.rows (l.rows.drop (n % l.rows.length) ++ l.rows.take (n % l.rows.length))
    simp only [D__law_round_1, x_cVal, x_bin, x_var, x_sl, x_oSome, x_oNone, x_B, x_cons, x_nil]
    simp only [List.getElem?_cons_succ, List.getElem?_cons_zero, z_d, if_true, R.bind_ok, g_lenT, List.length_map, g_mod, hpos, hcast, g_slT, c1, c2, hadd, heq]
    rfl
  have hq1 : (l.pq s.w).1 = s.w.toNat / Nat.gcd s.w.toNat l.s.natAbs := rfl
  have hq2 : (l.pq s.w).2 = p := by simp [Light.pq, et]
  have ra : inR (1 : Int) = true := by decide
  have rb : inR ((l.rows.length : Int) + 1) = true := inR_of (by omega) (by omega)
  have hcut : ((l.rows.length : Int) + 1 - 1).toNat = l.rows.length := by omega
  have habs : (if l.s < 0 then -l.s else l.s) = ((l.s.natAbs : Nat) : Int) := by split <;> omega
  have hw : s.w = (s.w.toNat : Int) := by omega
  have hg1 := w_gcd k S s.w.toNat l.s.natAbs (by omega)
  rw [← hw] at hg1
  have hgpos : 0 < Nat.gcd l.s.natAbs s.w.toNat := Nat.gcd_pos_of_pos_right _ (by omega)
  have hgle : Nat.gcd l.s.natAbs s.w.toNat ≤ 12 := Nat.le_trans (Nat.le_of_dvd (by omega) (Nat.gcd_dvd_right _ _)) (by omega)
  have hb1 : Nat.ble (Nat.gcd l.s.natAbs s.w.toNat) 18446744073709551615 = true := Nat.ble_eq_true_of_le (by omega)
  have hdv : s.w / ((Nat.gcd l.s.natAbs s.w.toNat : Nat) : Int) = (((l.pq s.w).1 : Nat) : Int) := by
    rw [hq1, Nat.gcd_comm s.w.toNat]
    rw [hwn]
    simp
  have hr0 : 0 < r := Nat.pos_of_dvd_of_pos hr (by omega)
  have hrle : r ≤ 144 := Nat.le_trans (Nat.le_of_dvd (by omega) hr) (by omega)
  obtain ⟨d1, d2⟩ := o.pq_dvd hl
  have step : ∀ (x q : Nat), x ∣ 12 * s.w.toNat → q ∣ 12 * s.w.toNat → ∀ (e5 e6 : Option W), B__law_round_3 (callQ T (k + 1)) [some (.d s.D), some (.d (.int (x : Int))), some (.d (.int l.c)), some (.d (.int l.s)), some (.d (.tuple (l.rows.map PyData.int))), e5, some (.d (.int (q : Int))), none] S = .next [some (.d s.D), some (.d (.int ((Nat.lcm x q : Nat) : Int))), some (.d (.int l.c)), some (.d (.int l.s)), some (.d (.tuple (l.rows.map PyData.int))), e5, some (.d (.int (q : Int))), none] S := by
    intro x q hx hq e5 e6
    have hx0 : 0 < x := Nat.pos_of_dvd_of_pos hx (by omega)
    have hxle : x ≤ 144 := Nat.le_trans (Nat.le_of_dvd (by omega) hx) (by omega)
    have hq0 : 0 < q := Nat.pos_of_dvd_of_pos hq (by omega)
    have hqle : q ≤ 144 := Nat.le_trans (Nat.le_of_dvd (by omega) hq) (by omega)
    have hg := w_gcd k S x q (by omega)
    have hgp : 0 < Nat.gcd q x := Nat.gcd_pos_of_pos_left _ hq0
    have hgl : Nat.gcd q x ≤ 144 := Nat.le_trans (Nat.le_of_dvd hq0 (Nat.gcd_dvd_left _ _)) hqle
    have hb : Nat.ble (Nat.gcd q x) 18446744073709551615 = true := Nat.ble_eq_true_of_le (by omega)
    have hs : sm (x : Int) = true := sm_lt (by omega) (by omega)
    have hl := lcm_int x q
    generalize hG : Nat.gcd q x = G at *
    simp [B__law_round_3, hg, hs, hgp, hb, hl, -Nat.ble_eq]
  have st1 := step r (l.pq s.w).1 hr d1 (some (.d (.list ((turns l.rows).map fun n : Nat => PyData.int (n : Int))))) none
  have st2 := step (Nat.lcm r (l.pq s.w).1) (l.pq s.w).2 (Nat.lcm_dvd hr d1) d2 (some (.d (.list ((turns l.rows).map fun n : Nat => PyData.int (n : Int))))) none
  have hat : atI ((turns l.rows).map fun n : Nat => PyData.int (n : Int)) 0 = some (.int ((l.pq s.w).2 : Nat)) := by
    rw [hq2, show (0 : Int) = ((0 : Nat) : Int) from rfl, atI_nat, et]
    rfl
  refine ⟨some (.d (.list ((turns l.rows).map fun n : Nat => PyData.int (n : Int)))), some (.d (.int ((l.pq s.w).2 : Int))), ?_⟩
  have hcomp := comp e5 e6
  have hTL : ((turns l.rows).map fun n : Nat => PyData.int (n : Int)).length ≤ 16777216 := by simpa using ht
  generalize (turns l.rows).map (fun n : Nat => PyData.int (n : Int)) = TL at *
  generalize (l.pq s.w).1 = q1 at *
  generalize (l.pq s.w).2 = q2 at *
  simp [B__law_round_4, ra, rb, hcut, notOwn, hcomp, LIM, hTL, hq0, gAbs, habs, hg1, hgpos, hb1, hdv, hat, forL, st1, st2, -Nat.ble_eq]
theorem w_round (k : Nat) (S : Sto) {s : Sky} (o : s.Ok) : callQ T (k + 2) "_law_round" [.d s.D] S = .ok (.d (.int ((s.turn : Nat) : Int))) S := by
  rw [callQ_succ T__law_round rfl rfl]
  have l1 := o.l1
  have q2 : gAt (.d s.D) (.d (.int 2)) S = .ok (.d (.tuple (s.ls.map Light.D))) S := rfl
  obtain ⟨env', S', L, e2, e3, e4, e5, e6, rfl, rfl⟩ := forL_inv0 (t := .names [2, 3, 4]) (body := B__law_round_4 (callQ T (k + 1))) (ds := s.ls.map Light.D) (env := [some (.d s.D), some (.d (.int 1)), none, none, none, none, none, none]) (S := S)
    (fun i env S' => ∃ e2 e3 e4 e5 e6, env = [some (.d s.D), some (.d (.int (((s.ls.take i).foldl (fun r l => Nat.lcm (Nat.lcm r (l.pq s.w).1) (l.pq s.w).2) 1 : Nat) : Int))), e2, e3, e4, e5, e6, none] ∧ S' = S) ⟨_, _, _, _, _, rfl, rfl⟩ (by
      rintro i d env S' hd ⟨e2, e3, e4, e5, e6, rfl, rfl⟩
      obtain ⟨hi, e⟩ := List.getElem?_eq_some_iff.mp hd
      have hi : i < s.ls.length := by simpa using hi
      have hd' : d = .tuple [.int s.ls[i].c, .int s.ls[i].s, .tuple (s.ls[i].rows.map PyData.int)] := by rw [← e]; simp [Light.D]
      subst hd'
      obtain ⟨f5, f6, hb⟩ := w_round1 k S' o (List.getElem_mem hi) (o.turn_pre i) e2 e3 e4 e5 e6 trivial
      refine ⟨_, _, S', rfl, .inl hb, some (.d (.int s.ls[i].c)), some (.d (.int s.ls[i].s)), some (.d (.tuple (s.ls[i].rows.map PyData.int))), f5, f6, ?_, rfl⟩
      rw [List.take_succ_eq_append_getElem hi, List.foldl_append]
      rfl)
  rw [List.length_map, List.take_length] at L
  simp [F__law_round, startQ, q2, L]
  rfl
theorem w_cell22 (k : Nat) (S : Sto) {s : Sky} (o : s.Ok) {i : Nat} (hi : i < s.ls.length) (v : View) : callQ T (k + 1) "_law_cell" [.d s.D, .d (.int i), .d (viewD v)] S = .ok (.d (cellD (s.up i v.2.1 v.2.2 v.1))) S := by
  rw [callQ_succ T__law_cell rfl rfl]
  have ol := o.at hi
  have hs : sm (s.at i).s = true := by
    have := ol.s0
    have := ol.s1
    exact Nat.ble_eq_true_of_le (by omega)
  have w0 : 0 < s.w := by have := o.w0; omega
  have r0 : 0 < (s.at i).rows.length := by have := ol.r0; omega
  have r0' : (0 : Int) < (s.at i).rows.length := by omega
  have ha := ol.at v.1
  have hb : Nat.ble 2 18446744073709551615 = true := by decide
  have q0 : gAt (.d s.D) (.d (.int 0)) S = .ok (.d (.int s.w)) S := rfl
  have q1 : gAt (.d s.D) (.d (.int 1)) S = .ok (.d (.int s.h)) S := rfl
  have q2 : gAt (.d s.D) (.d (.int 2)) S = .ok (.d (.tuple (s.ls.map Light.D))) S := rfl
  have v0 : gAt (.d (viewD v)) (.d (.int 0)) S = .ok (.d (.int v.1)) S := rfl
  have v1 : gAt (.d (viewD v)) (.d (.int 1)) S = .ok (.d (.int v.2.1)) S := rfl
  have v2 : gAt (.d (viewD v)) (.d (.int 2)) S = .ok (.d (.int v.2.2)) S := rfl
  have ql : gAt (.d (.tuple (s.ls.map Light.D))) (.d (.int i)) S = .ok (.d (.tuple [.int (s.at i).c, .int (s.at i).s, .tuple ((s.at i).rows.map PyData.int)])) S := by
    rw [g_atT, atI_nat, Sky.at_eq hi]
    simp [hi, Light.D]
  have x0 := Int.emod_nonneg ((s.at i).c + (s.at i).s * v.1 + v.2.1) (b := s.w) (by omega)
  by_cases h1 : ((s.at i).c + (s.at i).s * v.1 + v.2.1) % s.w < s.w / 2 <;> by_cases h2 : 0 ≤ (s.at i).row v.1 + v.2.2 <;> by_cases h3 : (s.at i).row v.1 + v.2.2 < s.h <;>
    simp [F__law_cell, startQ, q0, q1, q2, ql, v0, v1, v2, hs, w0, r0, r0', ha, LIM, hb, h1, h2, h3, Sky.up, Sky.cell, x0, cellD, pairD, -Nat.ble_eq]
theorem part_len {s : Sky} (o : s.Ok) {i : Nat} (hi : i ≤ s.w.toNat) : ((List.range i).flatMap fun e : Nat => (List.range (2 * s.h + 1).toNat).map fun j : Nat => ((e : Int), -s.h + (j : Int))).length ≤ 132 := by
  rw [List.length_flatMap]
  simp only [List.length_map, List.length_range]
  rw [sum_same']
  have w1 := o.w1; have h1 := o.h1
  have : i * (2 * s.h + 1).toNat ≤ 12 * 11 := Nat.mul_le_mul (by omega) (by omega)
  omega
theorem w_places (k : Nat) (S : Sto) {s : Sky} (o : s.Ok) : callQ T (k + 1) "_law_places" [.d s.D] S = .ok (.d (.list ((places s).map pairD))) S := by
  have w0 := o.w0; have w1 := o.w1; have h0 := o.h0; have h1 := o.h1
  have hr2 : inR (0 - s.h) = true := inR_of (by omega) (by omega)
  have hr3 : inR (s.h + 1) = true := inR_of (by omega) (by omega)
  have hr1 : inR s.w = true := inR_of (by omega) (by omega)
  have q0 : gAt (.d s.D) (.d (.int 0)) S = .ok (.d (.int s.w)) S := rfl
  have q1 : gAt (.d s.D) (.d (.int 1)) S = .ok (.d (.int s.h)) S := rfl
  have hn : (s.h + 1 - (0 - s.h)).toNat = (2 * s.h + 1).toNat := by omega
  obtain ⟨env', S', e, e2, rfl, rfl, -⟩ := forL_inv0 (t := .name 2) (body := B__law_places_2 (callQ T k)) (ds := rangeD 0 s.w.toNat) (env := [some (.d s.D), some (.own []), none, none]) (S := S)
    (fun i env S' => ∃ e2, env = [some (.d s.D), some (.own (((List.range i).flatMap fun e : Nat => (List.range (2 * s.h + 1).toNat).map fun j : Nat => ((e : Int), -s.h + (j : Int))).map pairD)), e2, none] ∧ S' = S ∧ i ≤ s.w.toNat) ⟨_, rfl, rfl, by omega⟩ (by
    rintro i d env S' hd ⟨e2, rfl, rfl, hi6⟩
    obtain ⟨hi, rfl⟩ := rangeD_get hd
    have e : ∀ L, compL (.name 3) (cYes (callQ T k)) (C__law_places_1 (callQ T k)) [some (.d s.D), L, some (.d (.int (0 + (i : Int)))), none] (rangeD (0 - s.h) (2 * s.h + 1).toNat) S' = .ok ((List.range (2 * s.h + 1).toNat).map fun j : Nat => pairD ((i : Int), -s.h + (j : Int))) S' := by
      intro L
      unfold rangeD
      refine compL_tg (t := .name 3) (fun j : Nat => PyData.int (0 - s.h + (j : Int))) _ (fun j : Nat => [some (.d s.D), L, some (.d (.int (0 + (i : Int)))), some (.d (.int (0 - s.h + (j : Int))))]) (fun x hx => rfl) (fun x hx => rfl) fun j hj => ?_
      simp [C__law_places_1, LIM, pairD]
    have l2 := part_len o (i := i + 1) (by omega)
    have l0 := part_len o (i := i) (by omega)
    refine ⟨_, [some (.d s.D), some (.own (((List.range (i + 1)).flatMap fun e : Nat => (List.range (2 * s.h + 1).toNat).map fun j : Nat => ((e : Int), -s.h + (j : Int))).map pairD)), some (.d (.int (0 + (i : Int)))), none], S', rfl, .inl ?_, _, rfl, rfl, by omega⟩
    have hx : (2 * s.h + 1).toNat ≤ 16777216 := by omega
    have hadd : (((List.range i).flatMap fun e : Nat => (List.range (2 * s.h + 1).toNat).map fun j : Nat => ((e : Int), -s.h + (j : Int))).map pairD).length + ((List.range (2 * s.h + 1).toNat).map fun j : Nat => pairD ((i : Int), -s.h + (j : Int))).length ≤ 16777216 := by
      rw [List.length_map, List.length_map, List.length_range]
      omega
    have e := e (some (.own (((List.range i).flatMap fun e : Nat => (List.range (2 * s.h + 1).toNat).map fun j : Nat => ((e : Int), -s.h + (j : Int))).map pairD)))
    rw [List.range_succ, List.flatMap_append, List.map_append]
    simp only [List.flatMap_cons, List.flatMap_nil, List.append_nil, List.map_map]
    generalize ((List.range i).flatMap fun e : Nat => (List.range (2 * s.h + 1).toNat).map fun j : Nat => ((e : Int), -s.h + (j : Int))).map pairD = A at e hadd ⊢
    have e4 : ((List.range (2 * s.h + 1).toNat).map fun j : Nat => pairD ((i : Int), -s.h + (j : Int))) = (List.range (2 * s.h + 1).toNat).map (pairD ∘ fun j : Nat => ((i : Int), -s.h + (j : Int))) := rfl
    rw [e4] at e hadd
    have hlB : ((List.range (2 * s.h + 1).toNat).map (pairD ∘ fun j : Nat => ((i : Int), -s.h + (j : Int)))).length ≤ 16777216 := by simpa using hx
    generalize (List.range (2 * s.h + 1).toNat).map (pairD ∘ fun j : Nat => ((i : Int), -s.h + (j : Int))) = B at e hadd hlB ⊢
    simp only [B__law_places_2, y_ext, x_comp, x_range2, x_bin, x_cons, x_nil, x_int, x_at, x_var]
    simp only [z_name, List.set_cons_succ, List.set_cons_zero, List.getElem?_cons_succ, List.getElem?_cons_zero, z_d, if_true, R.bind_ok, q1, g_sub, g_add, hr2, hr3, Bool.and_self, hn, z_wipe1, z_wipe0, e, LIM, hlB, hadd]
    simp [notOwn, hlB, hadd])
  rw [rangeD_len] at e
  rw [callQ_succ T__law_places rfl rfl]
  simp [F__law_places, startQ, q0, hr1, LIM, e]
  rfl
end Q

namespace Q
open PySem PySem.Spec L2
def viewsAt (s : Sky) (r : List Part) (m : Nat) : List View := ((places s).filter fun p => okAt s r ((m : Int), p.1, p.2)).map fun p => ((m : Int), p.1, p.2)
theorem viewsOf_eq (s : Sky) (N : Nat) (r : List Part) : viewsOf s N r = (List.range N).flatMap (viewsAt s r) := by
  unfold viewsOf allViews
  rw [List.filter_flatMap]
  congr 1
  funext m
  rw [List.filter_map]
  rfl
theorem viewsOf_len {s : Sky} (o : s.Ok) (N : Nat) (r : List Part) : (viewsOf s N r).length ≤ N * 132 := Nat.le_trans (List.length_filter_le _ _) (views_len o N)
theorem w_views (k : Nat) (S : Sto) {s : Sky} (o : s.Ok) {r : List Part} (or : RepOk r s) : callQ T (k + 3) "_law_views" [.d s.D, .d (repD r)] S = .ok (.d (.list ((viewsOf s s.turn r).map viewD))) S := by
  obtain ⟨t0, t1, _, _⟩ := o.turn_ok
  have hrep : repD r = .tuple (r.map partD) := rfl
  rw [hrep]
  have inner : ∀ (m : Nat) (F : W) (e5 e6 : Option W), ∃ f5 f6, forL (.names [5, 6]) (B__law_views_3 (callQ T (k + 2))) (r.map partD) [some (.d s.D), some (.d (.tuple (r.map partD))), some F, some (.d (.int (0 + (m : Int)))), some (.d (.list ((places s).map pairD))), e5, e6, none] S =
      .next [some (.d s.D), some (.d (.tuple (r.map partD))), some F, some (.d (.int (0 + (m : Int)))), some (.d (.list (((places s).filter fun p => okAt s r ((m : Int), p.1, p.2)).map pairD))), f5, f6, none] S := by
    intro m F e5 e6
    obtain ⟨env', S', L, f5, f6, rfl, rfl⟩ := forL_inv0 (t := .names [5, 6]) (body := B__law_views_3 (callQ T (k + 2))) (ds := r.map partD) (env := [some (.d s.D), some (.d (.tuple (r.map partD))), some F, some (.d (.int (0 + (m : Int)))), some (.d (.list ((places s).map pairD))), e5, e6, none]) (S := S)
      (fun j env S' => ∃ e5 e6, env = [some (.d s.D), some (.d (.tuple (r.map partD))), some F, some (.d (.int (0 + (m : Int)))), some (.d (.list (((places s).filter fun p => okAt s (r.take j) ((m : Int), p.1, p.2)).map pairD))), e5, e6, none] ∧ S' = S) ⟨e5, e6, by
        have : (places s).filter (fun p => okAt s (r.take 0) ((m : Int), p.1, p.2)) = places s := by
          rw [List.filter_eq_self]
          intro p _
          rfl
        rw [this], rfl⟩ (by
      rintro j d env S' hd ⟨e5, e6, rfl, rfl⟩
      obtain ⟨hj, e⟩ := List.getElem?_eq_some_iff.mp hd
      have hj : j < r.length := by simpa using hj
      have hd' : d = .tuple [.int (r[j].1 : Int), cellD r[j].2] := by rw [← e]; simp [partD]
      subst hd'
      have okp := or.p _ (List.getElem_mem hj)
      have e4 : ∀ xs : List (Int × Int), compL (.name 7) (D__law_views_1 (callQ T (k + 2))) (C__law_views_2 (callQ T (k + 2))) [some (.d s.D), some (.d (.tuple (r.map partD))), some F, some (.d (.int (0 + (m : Int)))), some (.d (.list (xs.map pairD))), some (.d (.int (r[j].1 : Int))), some (.d (cellD r[j].2)), none] (xs.map pairD) S' = .ok ((xs.filter fun p => partAt s ((m : Int), p.1, p.2) r[j]).map pairD) S' := by
        intro xs
        refine compL_flt (t := .name 7) pairD pairD (fun p => partAt s ((m : Int), p.1, p.2) r[j]) (fun p => [some (.d s.D), some (.d (.tuple (r.map partD))), some F, some (.d (.int (0 + (m : Int)))), some (.d (.list (xs.map pairD))), some (.d (.int (r[j].1 : Int))), some (.d (cellD r[j].2)), some (.d (pairD p))]) (fun x hx => rfl) (fun p hp => ?_) fun p hp _ => by simp [C__law_views_2]
        have hadd : gAdd (.d (.tuple [.int (m : Int)])) (.d (pairD p)) S' = .ok (.d (viewD ((m : Int), p.1, p.2))) S' := rfl
        have hc := w_cell22 (k + 1) S' o okp.l ((m : Int), p.1, p.2)
        simp [D__law_views_1, LIM, hadd, hc, g_eqCell, partAt]
      refine ⟨_, _, S', rfl, .inl ?_, some (.d (.int (r[j].1 : Int))), some (.d (cellD r[j].2)), rfl, rfl⟩
      have hflt : (places s).filter (fun p => okAt s (r.take (j + 1)) ((m : Int), p.1, p.2)) = ((places s).filter fun p => okAt s (r.take j) ((m : Int), p.1, p.2)).filter fun p => partAt s ((m : Int), p.1, p.2) r[j] := by
        rw [List.filter_filter]
        congr 1
        funext p
        unfold okAt
        rw [List.take_succ_eq_append_getElem hj, List.all_append]
        simp [Bool.and_comm]
      rw [hflt]
      have hl : (((places s).filter fun p => okAt s (r.take j) ((m : Int), p.1, p.2)).filter fun p => partAt s ((m : Int), p.1, p.2) r[j]).length ≤ 16777216 := by
        have := List.length_filter_le (fun p => partAt s ((m : Int), p.1, p.2) r[j]) ((places s).filter fun p => okAt s (r.take j) ((m : Int), p.1, p.2))
        have := List.length_filter_le (fun p => okAt s (r.take j) ((m : Int), p.1, p.2)) (places s)
        have := places_len o
        omega
      have e4 := e4 ((places s).filter fun p => okAt s (r.take j) ((m : Int), p.1, p.2))
      generalize ((places s).filter fun p => okAt s (r.take j) ((m : Int), p.1, p.2)) = A at e4 hl ⊢
      simp at e4
      simp [B__law_views_3, notOwn, e4, LIM, hl])
    rw [List.length_map, List.take_length] at L
    exact ⟨f5, f6, L⟩
  have tail : ∀ (m : Nat) (F : List D) (e5 e6 : Option W) (xs : List (Int × Int)), xs.length ≤ 132 → F.length + xs.length ≤ 16777216 → sExt 2 (fComp [7] (.name 7) (iSeq (fVar 4)) cYes C__law_views_4) (callQ T (k + 2)) [some (.d s.D), some (.d (.tuple (r.map partD))), some (.own F), some (.d (.int (0 + (m : Int)))), some (.d (.list (xs.map pairD))), e5, e6, none] S = .next [some (.d s.D), some (.d (.tuple (r.map partD))), some (.own (F ++ (xs.map fun p => ((m : Int), p.1, p.2)).map viewD)), some (.d (.int (0 + (m : Int)))), some (.d (.list (xs.map pairD))), e5, e6, none] S := by
    intro m F e5 e6 xs hx hF
    have e4 : compL (.name 7) (cYes (callQ T (k + 2))) (C__law_views_4 (callQ T (k + 2))) [some (.d s.D), some (.d (.tuple (r.map partD))), some (.own F), some (.d (.int (0 + (m : Int)))), some (.d (.list (xs.map pairD))), e5, e6, none] (xs.map pairD) S = .ok ((xs.map fun p => ((m : Int), p.1, p.2)).map viewD) S := by
      rw [List.map_map]
      refine compL_tg (t := .name 7) pairD _ (fun p => [some (.d s.D), some (.d (.tuple (r.map partD))), some (.own F), some (.d (.int (0 + (m : Int)))), some (.d (.list (xs.map pairD))), e5, e6, some (.d (pairD p))]) (fun x hx => rfl) (fun x hx => rfl) fun p hp => ?_
      have hadd : gAdd (.d (.tuple [.int (m : Int)])) (.d (pairD p)) S = .ok (.d (viewD ((m : Int), p.1, p.2))) S := rfl
      simp [C__law_views_4, LIM, hadd]
    have hx' : xs.length ≤ 16777216 := by omega
    have hl : ((xs.map fun p => ((m : Int), p.1, p.2)).map viewD).length = xs.length := by simp
    generalize ((xs.map fun p => ((m : Int), p.1, p.2)).map viewD) = B at e4 hl ⊢
    rw [← hl] at hx' hF
    simp at e4
    simp [notOwn, e4, LIM, hx', hF]
  have r2 : inR ((s.turn : Nat) : Int) = true := inR_of (by omega) (by omega)
  obtain ⟨env', S', L, e3, e4, e5, e6, rfl, rfl, -⟩ := forL_inv0 (t := .name 3) (body := B__law_views_5 (callQ T (k + 2))) (ds := rangeD 0 s.turn) (env := [some (.d s.D), some (.d (.tuple (r.map partD))), some (.own []), none, none, none, none, none]) (S := S)
    (fun i env S' => ∃ e3 e4 e5 e6, env = [some (.d s.D), some (.d (.tuple (r.map partD))), some (.own ((viewsOf s i r).map viewD)), e3, e4, e5, e6, none] ∧ S' = S ∧ i ≤ s.turn) ⟨_, _, _, _, rfl, rfl, by omega⟩ (by
    rintro i d env S' hd ⟨e3, e4, e5, e6, rfl, rfl, hi0⟩
    obtain ⟨hi, rfl⟩ := rangeD_get hd
    obtain ⟨f5, f6, hin⟩ := inner i (.own ((viewsOf s i r).map viewD)) e5 e6
    have hl0 := viewsOf_len o i r
    have hl1 : ((places s).filter fun p => okAt s r ((i : Int), p.1, p.2)).length ≤ 132 := Nat.le_trans (List.length_filter_le _ _) (places_len o)
    have ht := tail i ((viewsOf s i r).map viewD) f5 f6 ((places s).filter fun p => okAt s r ((i : Int), p.1, p.2)) hl1 (by
      rw [List.length_map]
      have : i * 132 ≤ 144 * 132 := Nat.mul_le_mul_right _ (by omega)
      omega)
    refine ⟨_, [some (.d s.D), some (.d (.tuple (r.map partD))), some (.own ((viewsOf s (i + 1) r).map viewD)), some (.d (.int (0 + (i : Int)))), some (.d (.list (((places s).filter fun p => okAt s r ((i : Int), p.1, p.2)).map pairD))), f5, f6, none], S', rfl, .inl ?_, _, _, _, _, rfl, rfl, by omega⟩
    have hnext : viewsOf s (i + 1) r = viewsOf s i r ++ ((places s).filter fun p => okAt s r ((i : Int), p.1, p.2)).map fun p => ((i : Int), p.1, p.2) := by
      rw [viewsOf_eq, viewsOf_eq, List.range_succ, List.flatMap_append]
      simp [viewsAt]
    rw [hnext, List.map_append]
    simp only [B__law_views_5, y_seq, y_set, x_callN, x_cons, x_nil, x_var, y_for, x_iSeq]
    simp only [z_name, List.set_cons_succ, List.set_cons_zero, List.getElem?_cons_succ, List.getElem?_cons_zero, z_d, if_true, R.bind_ok]
    simp only [z_arity, List.length_cons, List.length_nil, z_cons, z_nil, z_d, Bool.and_self, and_self, if_true, w_places (k + 1) S' o, R.then_ok]
    simp only [List.set_cons_succ, List.set_cons_zero, List.getElem?_cons_succ, List.getElem?_cons_zero, RS.seq, hin, R.bind_ok, R.then_ok, z_d, if_true, ht])
  rw [rangeD_len] at L
  rw [callQ_succ T__law_views rfl rfl]
  simp [F__law_views, startQ, w_round k S' o, r2, LIM, L]
theorem w_viewsL (k : Nat) (S : Sto) {s : Sky} (o : s.Ok) {r : List Part} (or : RepOk r s) : callQ T (k + 3) "_law_views" [.d s.D, .d (repL r)] S = .ok (.d (.list ((viewsOf s s.turn r).map viewD))) S := by
  obtain ⟨t0, t1, _, _⟩ := o.turn_ok
  have hrep : repL r = .list (r.map partD) := rfl
  rw [hrep]
  have inner : ∀ (m : Nat) (F : W) (e5 e6 : Option W), ∃ f5 f6, forL (.names [5, 6]) (B__law_views_3 (callQ T (k + 2))) (r.map partD) [some (.d s.D), some (.d (.list (r.map partD))), some F, some (.d (.int (0 + (m : Int)))), some (.d (.list ((places s).map pairD))), e5, e6, none] S =
      .next [some (.d s.D), some (.d (.list (r.map partD))), some F, some (.d (.int (0 + (m : Int)))), some (.d (.list (((places s).filter fun p => okAt s r ((m : Int), p.1, p.2)).map pairD))), f5, f6, none] S := by
    intro m F e5 e6
    obtain ⟨env', S', L, f5, f6, rfl, rfl⟩ := forL_inv0 (t := .names [5, 6]) (body := B__law_views_3 (callQ T (k + 2))) (ds := r.map partD) (env := [some (.d s.D), some (.d (.list (r.map partD))), some F, some (.d (.int (0 + (m : Int)))), some (.d (.list ((places s).map pairD))), e5, e6, none]) (S := S)
      (fun j env S' => ∃ e5 e6, env = [some (.d s.D), some (.d (.list (r.map partD))), some F, some (.d (.int (0 + (m : Int)))), some (.d (.list (((places s).filter fun p => okAt s (r.take j) ((m : Int), p.1, p.2)).map pairD))), e5, e6, none] ∧ S' = S) ⟨e5, e6, by
        have : (places s).filter (fun p => okAt s (r.take 0) ((m : Int), p.1, p.2)) = places s := by
          rw [List.filter_eq_self]
          intro p _
          rfl
        rw [this], rfl⟩ (by
      rintro j d env S' hd ⟨e5, e6, rfl, rfl⟩
      obtain ⟨hj, e⟩ := List.getElem?_eq_some_iff.mp hd
      have hj : j < r.length := by simpa using hj
      have hd' : d = .tuple [.int (r[j].1 : Int), cellD r[j].2] := by rw [← e]; simp [partD]
      subst hd'
      have okp := or.p _ (List.getElem_mem hj)
      have e4 : ∀ xs : List (Int × Int), compL (.name 7) (D__law_views_1 (callQ T (k + 2))) (C__law_views_2 (callQ T (k + 2))) [some (.d s.D), some (.d (.list (r.map partD))), some F, some (.d (.int (0 + (m : Int)))), some (.d (.list (xs.map pairD))), some (.d (.int (r[j].1 : Int))), some (.d (cellD r[j].2)), none] (xs.map pairD) S' = .ok ((xs.filter fun p => partAt s ((m : Int), p.1, p.2) r[j]).map pairD) S' := by
        intro xs
        refine compL_flt (t := .name 7) pairD pairD (fun p => partAt s ((m : Int), p.1, p.2) r[j]) (fun p => [some (.d s.D), some (.d (.list (r.map partD))), some F, some (.d (.int (0 + (m : Int)))), some (.d (.list (xs.map pairD))), some (.d (.int (r[j].1 : Int))), some (.d (cellD r[j].2)), some (.d (pairD p))]) (fun x hx => rfl) (fun p hp => ?_) fun p hp _ => by simp [C__law_views_2]
        have hadd : gAdd (.d (.tuple [.int (m : Int)])) (.d (pairD p)) S' = .ok (.d (viewD ((m : Int), p.1, p.2))) S' := rfl
        have hc := w_cell22 (k + 1) S' o okp.l ((m : Int), p.1, p.2)
        simp [D__law_views_1, LIM, hadd, hc, g_eqCell, partAt]
      refine ⟨_, _, S', rfl, .inl ?_, some (.d (.int (r[j].1 : Int))), some (.d (cellD r[j].2)), rfl, rfl⟩
      have hflt : (places s).filter (fun p => okAt s (r.take (j + 1)) ((m : Int), p.1, p.2)) = ((places s).filter fun p => okAt s (r.take j) ((m : Int), p.1, p.2)).filter fun p => partAt s ((m : Int), p.1, p.2) r[j] := by
        rw [List.filter_filter]
        congr 1
        funext p
        unfold okAt
        rw [List.take_succ_eq_append_getElem hj, List.all_append]
        simp [Bool.and_comm]
      rw [hflt]
      have hl : (((places s).filter fun p => okAt s (r.take j) ((m : Int), p.1, p.2)).filter fun p => partAt s ((m : Int), p.1, p.2) r[j]).length ≤ 16777216 := by
        have := List.length_filter_le (fun p => partAt s ((m : Int), p.1, p.2) r[j]) ((places s).filter fun p => okAt s (r.take j) ((m : Int), p.1, p.2))
        have := List.length_filter_le (fun p => okAt s (r.take j) ((m : Int), p.1, p.2)) (places s)
        have := places_len o
        omega
      have e4 := e4 ((places s).filter fun p => okAt s (r.take j) ((m : Int), p.1, p.2))
      generalize ((places s).filter fun p => okAt s (r.take j) ((m : Int), p.1, p.2)) = A at e4 hl ⊢
      simp at e4
      simp [B__law_views_3, notOwn, e4, LIM, hl])
    rw [List.length_map, List.take_length] at L
    exact ⟨f5, f6, L⟩
  have tail : ∀ (m : Nat) (F : List D) (e5 e6 : Option W) (xs : List (Int × Int)), xs.length ≤ 132 → F.length + xs.length ≤ 16777216 → sExt 2 (fComp [7] (.name 7) (iSeq (fVar 4)) cYes C__law_views_4) (callQ T (k + 2)) [some (.d s.D), some (.d (.list (r.map partD))), some (.own F), some (.d (.int (0 + (m : Int)))), some (.d (.list (xs.map pairD))), e5, e6, none] S = .next [some (.d s.D), some (.d (.list (r.map partD))), some (.own (F ++ (xs.map fun p => ((m : Int), p.1, p.2)).map viewD)), some (.d (.int (0 + (m : Int)))), some (.d (.list (xs.map pairD))), e5, e6, none] S := by
    intro m F e5 e6 xs hx hF
    have e4 : compL (.name 7) (cYes (callQ T (k + 2))) (C__law_views_4 (callQ T (k + 2))) [some (.d s.D), some (.d (.list (r.map partD))), some (.own F), some (.d (.int (0 + (m : Int)))), some (.d (.list (xs.map pairD))), e5, e6, none] (xs.map pairD) S = .ok ((xs.map fun p => ((m : Int), p.1, p.2)).map viewD) S := by
      rw [List.map_map]
      refine compL_tg (t := .name 7) pairD _ (fun p => [some (.d s.D), some (.d (.list (r.map partD))), some (.own F), some (.d (.int (0 + (m : Int)))), some (.d (.list (xs.map pairD))), e5, e6, some (.d (pairD p))]) (fun x hx => rfl) (fun x hx => rfl) fun p hp => ?_
      have hadd : gAdd (.d (.tuple [.int (m : Int)])) (.d (pairD p)) S = .ok (.d (viewD ((m : Int), p.1, p.2))) S := rfl
      simp [C__law_views_4, LIM, hadd]
    have hx' : xs.length ≤ 16777216 := by omega
    have hl : ((xs.map fun p => ((m : Int), p.1, p.2)).map viewD).length = xs.length := by simp
    generalize ((xs.map fun p => ((m : Int), p.1, p.2)).map viewD) = B at e4 hl ⊢
    rw [← hl] at hx' hF
    simp at e4
    simp [notOwn, e4, LIM, hx', hF]
  have r2 : inR ((s.turn : Nat) : Int) = true := inR_of (by omega) (by omega)
  obtain ⟨env', S', L, e3, e4, e5, e6, rfl, rfl, -⟩ := forL_inv0 (t := .name 3) (body := B__law_views_5 (callQ T (k + 2))) (ds := rangeD 0 s.turn) (env := [some (.d s.D), some (.d (.list (r.map partD))), some (.own []), none, none, none, none, none]) (S := S)
    (fun i env S' => ∃ e3 e4 e5 e6, env = [some (.d s.D), some (.d (.list (r.map partD))), some (.own ((viewsOf s i r).map viewD)), e3, e4, e5, e6, none] ∧ S' = S ∧ i ≤ s.turn) ⟨_, _, _, _, rfl, rfl, by omega⟩ (by
    rintro i d env S' hd ⟨e3, e4, e5, e6, rfl, rfl, hi0⟩
    obtain ⟨hi, rfl⟩ := rangeD_get hd
    obtain ⟨f5, f6, hin⟩ := inner i (.own ((viewsOf s i r).map viewD)) e5 e6
    have hl0 := viewsOf_len o i r
    have hl1 : ((places s).filter fun p => okAt s r ((i : Int), p.1, p.2)).length ≤ 132 := Nat.le_trans (List.length_filter_le _ _) (places_len o)
    have ht := tail i ((viewsOf s i r).map viewD) f5 f6 ((places s).filter fun p => okAt s r ((i : Int), p.1, p.2)) hl1 (by
      rw [List.length_map]
      have : i * 132 ≤ 144 * 132 := Nat.mul_le_mul_right _ (by omega)
      omega)
    refine ⟨_, [some (.d s.D), some (.d (.list (r.map partD))), some (.own ((viewsOf s (i + 1) r).map viewD)), some (.d (.int (0 + (i : Int)))), some (.d (.list (((places s).filter fun p => okAt s r ((i : Int), p.1, p.2)).map pairD))), f5, f6, none], S', rfl, .inl ?_, _, _, _, _, rfl, rfl, by omega⟩
    have hnext : viewsOf s (i + 1) r = viewsOf s i r ++ ((places s).filter fun p => okAt s r ((i : Int), p.1, p.2)).map fun p => ((i : Int), p.1, p.2) := by
      rw [viewsOf_eq, viewsOf_eq, List.range_succ, List.flatMap_append]
      simp [viewsAt]
    rw [hnext, List.map_append]
    simp only [B__law_views_5, y_seq, y_set, x_callN, x_cons, x_nil, x_var, y_for, x_iSeq]
    simp only [z_name, List.set_cons_succ, List.set_cons_zero, List.getElem?_cons_succ, List.getElem?_cons_zero, z_d, if_true, R.bind_ok]
    simp only [z_arity, List.length_cons, List.length_nil, z_cons, z_nil, z_d, Bool.and_self, and_self, if_true, w_places (k + 1) S' o, R.then_ok]
    simp only [List.set_cons_succ, List.set_cons_zero, List.getElem?_cons_succ, List.getElem?_cons_zero, RS.seq, hin, R.bind_ok, R.then_ok, z_d, if_true, ht])
  rw [rangeD_len] at L
  rw [callQ_succ T__law_views rfl rfl]
  simp [F__law_views, startQ, w_round k S' o, r2, LIM, L]
end Q

namespace Q
open PySem PySem.Spec L2
theorem sh_many {α : Type} {g : α → D} {n k m : Nat} {xs : List α} (h : ∀ x ∈ xs, Sh n k (g x)) (hl : xs.length ≤ m) : Sh (m * (n + 2) + 3) (k + 1) (.tuple (xs.map g)) :=
  (sh_tup (n := n) (k := k) (xs := xs.map g) fun x hx => by
    obtain ⟨t, ht, rfl⟩ := List.mem_map.mp hx
    exact h t ht).mono (by
      rw [List.length_map]
      have := Nat.mul_le_mul_right (n + 2) hl
      omega) (Nat.le_refl _)
theorem sh_two {a b : D} {n k : Nat} (h1 : Sh n k a) (h2 : Sh n k b) : Sh (2 * (n + 2) + 3) (k + 1) (.tuple [a, b]) :=
  sh_tup (xs := [a, b]) fun x hx => by
    simp at hx
    rcases hx with rfl | rfl <;> assumption
theorem sh_rep {r : List Part} {s : Sky} (os : s.Ok) (o : RepOk r s) : Sh 8000 4 (repD r) := by
  refine (sh_many (g := partD) (n := 73) (k := 2) (m := 6) (fun p hp => ?_) o.l).mono (by omega) (by omega)
  have op := o.p p hp
  have l1 := os.l1
  have w1 := os.w1
  have h1 := os.h1
  refine (sh_two (n := 33) (k := 1) ((sh_int ?_).mono (by omega) (by omega)) ?_)
  · have := op.l; omega
  · cases e : p.2 with
    | none => exact sh_none.mono (by omega) (by omega)
    | some q =>
      have := of_decide_eq_true (op.c q e)
      exact sh_pair (by omega) (by omega)
theorem w_view (k : Nat) {n : Nat} {S : Sto} (h : PenK S n) {s : Sky} (o : s.Ok) : ∃ (v : View) (S' : Sto), callQ T (k + 3) "_law_view" [.ref n, .d s.D] S = .ok (.d (viewD v)) S' ∧ PenK S' n := by
  have w0 := o.w0; have w1 := o.w1; have h0 := o.h0; have h1 := o.h1
  obtain ⟨t0, t1, _, _⟩ := o.turn_ok
  obtain ⟨e, S1, f1, a1, b1, p1⟩ := w_draw (k + 1) (m := s.w) h (by omega) (by omega)
  obtain ⟨y, S2, f2, a2, b2, p2⟩ := w_draw (k + 1) (m := 2 * s.h + 1) p1 (by omega) (by omega)
  obtain ⟨m, S3, f3, a3, b3, p3⟩ := w_draw (k + 1) (m := ((s.turn : Nat) : Int)) p2 (by omega) (by omega)
  obtain ⟨z, S4, f4, a4, b4, p4⟩ := w_draw (k + 1) (m := 2) p3 (by omega) (by omega)
  have hz : ∃ nn : Int, atI [PyData.int (y - s.h), PyData.int 0] z = some (.int nn) := by
    have : z = 0 ∨ z = 1 := by omega
    rcases this with rfl | rfl
    · exact ⟨y - s.h, rfl⟩
    · exact ⟨0, rfl⟩
  obtain ⟨nn, hz⟩ := hz
  refine ⟨(m, e, nn), S4, ?_, p4⟩
  rw [callQ_succ T__law_view rfl rfl]
  have q0 : ∀ S, gAt (.d s.D) (.d (.int 0)) S = .ok (.d (.int s.w)) S := fun _ => rfl
  have q1 : ∀ S, gAt (.d s.D) (.d (.int 1)) S = .ok (.d (.int s.h)) S := fun _ => rfl
  have s2 : sm 2 = true := by decide
  simp [F__law_view, startQ, q0, q1, s2, f1, f2, w_round k S2 o, f3, f4, hz, LIM, viewD]
theorem w_any (k : Nat) {n : Nat} {S : Sto} (h : PenK S n) {s : Sky} (o : s.Ok) : ∃ (c : Option (Int × Int)) (S' : Sto), callQ T (k + 2) "_law_any_cell" [.ref n, .d s.D] S = .ok (.d (cellD c)) S' ∧ PenK S' n ∧ ∀ q, c = some q → s.cell q.1 q.2 = true := by
  have w0 := o.w0; have w1 := o.w1; have h0 := o.h0; have h1 := o.h1
  obtain ⟨e, S1, f1, a1, b1, p1⟩ := w_draw k (m := s.w / 2) h (by omega) (by omega)
  obtain ⟨y, S2, f2, a2, b2, p2⟩ := w_draw k (m := s.h) p1 (by omega) (by omega)
  obtain ⟨z, S3, f3, a3, b3, p3⟩ := w_draw k (m := 4) p2 (by omega) (by omega)
  have q0 : ∀ S, gAt (.d s.D) (.d (.int 0)) S = .ok (.d (.int s.w)) S := fun _ => rfl
  have q1 : ∀ S, gAt (.d s.D) (.d (.int 1)) S = .ok (.d (.int s.h)) S := fun _ => rfl
  have hb : Nat.ble 2 18446744073709551615 = true := by decide
  by_cases hz : z = 0
  · refine ⟨none, S3, ?_, p3, by simp⟩
    rw [callQ_succ T__law_any_cell rfl rfl]
    simp [F__law_any_cell, startQ, q0, q1, hb, f1, f2, f3, hz, LIM, cellD, -Nat.ble_eq]
  · refine ⟨some (e, y), S3, ?_, p3, fun q hq => ?_⟩
    · rw [callQ_succ T__law_any_cell rfl rfl]
      simp [F__law_any_cell, startQ, q0, q1, hb, f1, f2, f3, hz, LIM, cellD, pairD, -Nat.ble_eq]
    · cases hq
      exact decide_eq_true ⟨a1, b1, a2, b2⟩
theorem w_report (k : Nat) {n : Nat} {S : Sto} (h : PenK S n) {s : Sky} (o : s.Ok) (most lies : Int) (hm : 0 ≤ most) (hm6 : most ≤ 6) : ∃ (r : List Part) (S' : Sto), RepOk r s ∧ callQ T (k + 4) "_law_report" [.ref n, .d s.D, .d (.int most), .d (.int lies)] S = .ok (.d (repD r)) S' ∧ PenK S' n := by
  have l0 := o.l0; have l1 := o.l1
  obtain ⟨v, S1, f1, p1⟩ := w_view k h o
  obtain ⟨c, S2, f2, a2, b2, p2⟩ := w_draw (k + 2) (m := most + 1) p1 (by omega) (by omega)
  obtain ⟨env', S', L, r, e6, e7, e8, rfl, hlen, hr, p3⟩ := forL_inv0 (t := .name 6) (body := B__law_report_1 (callQ T (k + 3))) (ds := rangeD 0 c.toNat) (env := [some (.ref n), some (.d s.D), some (.d (.int most)), some (.d (.int lies)), some (.d (viewD v)), some (.own []), none, none, none]) (S := S2)
    (fun i env S' => ∃ (r : List Part) (e6 e7 e8 : Option W), env = [some (.ref n), some (.d s.D), some (.d (.int most)), some (.d (.int lies)), some (.d (viewD v)), some (.own (r.map partD)), e6, e7, e8] ∧ r.length = i ∧ (∀ p ∈ r, PartOk p s) ∧ PenK S' n) ⟨[], none, none, none, rfl, rfl, by simp, p2⟩ (by
    rintro i d env S' hd ⟨r, e6, e7, e8, rfl, rfl, hr, pe⟩
    obtain ⟨hi, rfl⟩ := rangeD_get hd
    obtain ⟨l, T1, f3, a3, b3, q3⟩ := w_draw (k + 2) (m := (s.ls.length : Int)) pe (by omega) (by omega)
    obtain ⟨j, rfl⟩ := Int.eq_ofNat_of_zero_le a3
    have hj : j < s.ls.length := by omega
    have f4 := w_cell22 (k + 2) T1 o hj v
    have c1 : ∀ q, s.up j v.2.1 v.2.2 v.1 = some q → s.cell q.1 q.2 = true := fun q hq => decide_eq_true (Sky.up_lt hq)
    generalize s.up j v.2.1 v.2.2 v.1 = cc at f4 c1
    obtain ⟨c2, T2, q2, hc2, hif⟩ : ∃ (c2 : Option (Int × Int)) (T2 : Sto), PenK T2 n ∧ (∀ q, c2 = some q → s.cell q.1 q.2 = true) ∧ (sIf (cAnd (cVal (fBin gGt (fVar 3) (fInt 0))) (cVal (fBin gEq (fCallN "_law_draw" 2 (aCons (fVar 0) (aCons (fInt 3) aNil))) (fInt 0))))
  (sSet 8 (fCallN "_law_any_cell" 2 (aCons (fVar 0) (aCons (fVar 1) aNil))))
  sNext) (callQ T (k + 3)) [some (.ref n), some (.d s.D), some (.d (.int most)), some (.d (.int lies)), some (.d (viewD v)), some (.own (r.map partD)), some (.d (.int (0 + (r.length : Int)))), some (.d (.int (j : Int))), some (.d (cellD cc))] T1 = .next [some (.ref n), some (.d s.D), some (.d (.int most)), some (.d (.int lies)), some (.d (viewD v)), some (.own (r.map partD)), some (.d (.int (0 + (r.length : Int)))), some (.d (.int (j : Int))), some (.d (cellD c2))] T2 := by
      by_cases hlies : 0 < lies
      · obtain ⟨z, T3, f5, a5, b5, q5⟩ := w_draw (k + 2) (m := 3) q3 (by omega) (by omega)
        by_cases hz : z = 0
        · obtain ⟨c2, T4, f6, q6, hc2⟩ := w_any (k + 1) q5 o
          exact ⟨c2, T4, q6, hc2, by simp [hlies, f5, hz, f6]⟩
        · exact ⟨cc, T3, q5, c1, by simp [hlies, f5, hz]⟩
      · exact ⟨cc, T1, q3, c1, by simp [hlies]⟩
    refine ⟨_, [some (.ref n), some (.d s.D), some (.d (.int most)), some (.d (.int lies)), some (.d (viewD v)), some (.own ((r ++ [(j, c2)]).map partD)), some (.d (.int (0 + (r.length : Int)))), some (.d (.int (j : Int))), some (.d (cellD c2))], T2, rfl, .inl ?_, r ++ [(j, c2)], _, _, _, rfl, by simp, fun p hp => ?_, q2⟩
    · have q2 : gAt (.d s.D) (.d (.int 2)) S' = .ok (.d (.tuple (s.ls.map Light.D))) S' := rfl
      have hl : r.length < 16777216 := by omega
      rw [B__law_report_1]
      simp only [y_seq, y_set, z_name, List.set_cons_succ, List.set_cons_zero]
      simp [q2, f3, f4] at hif ⊢
      simp [hif, LIM, hl, partD]
    · rcases List.mem_append.mp hp with hp | hp
      · exact hr p hp
      · simp at hp
        subst hp
        exact ⟨hj, hc2⟩)
  rw [rangeD_len] at hlen
  refine ⟨r, S', ⟨by omega, hr⟩, ?_, p3⟩
  have hrc : inR c = true := inR_of (by omega) (by omega)
  rw [callQ_succ T__law_report rfl rfl]
  simp [F__law_report, startQ, f1, f2, hrc, L, LIM, repD]
end Q

namespace Q
open PySem PySem.Spec L2
def rowL (l : List Int) : D := .tuple [.int (l.length : Int), lotI l]
def rowLe (a b : List Int) : Bool := PySem.W.dataLe false (fun d : D => d) (rowL a) (rowL b)
theorem rowLe_tot : PySem.W.TotalLe rowLe := PySem.W.sortLe_total (PyProof.Rows.listOrd PyProof.Rows.itemOrd) false fun l => PySem.W.keyToks (rowL l)
theorem lots_facts : (List.range 7).all (fun n => (lotsN n).isPerm (rawL n) && okSortD ((rawL n).map rowL) && decide ((rawL n).length ≤ 64)) = true := by decide +kernel
theorem lots_pw : ∀ n < 7, (lotsN n).Pairwise (fun a b => rowLe a b = true) := by decide +kernel
theorem lots_anti : ∀ n < 7, ∀ a ∈ lotsN n, ∀ b ∈ lotsN n, rowLe a b = true → rowLe b a = true → a = b := by decide +kernel
theorem lots_fact {n : Nat} (hn : n ≤ 6) : (lotsN n).Perm (rawL n) ∧ okSortD ((rawL n).map rowL) = true ∧ (rawL n).length ≤ 64 := by
  have h := List.all_eq_true.mp lots_facts n (List.mem_range.mpr (by omega))
  simp only [Bool.and_eq_true, decide_eq_true_eq] at h
  exact ⟨List.isPerm_iff.mp h.1.1, h.1.2, h.2⟩
theorem sort_rows {n : Nat} (hn : n ≤ 6) : sortND ((rawL n).map rowL) = (lotsN n).map rowL := by
  unfold sortND
  rw [← List.map_mergeSort (r := rowLe) (s := PySem.W.dataLe false (fun d : D => d)) (f := rowL) fun a _ b _ => rfl]
  congr 1
  have hp := (lots_fact hn).1
  have m1 := List.mergeSort_perm (rawL n) rowLe
  refine List.Perm.eq_of_pairwise (fun a b ha hb h h' => ?_) (PySem.W.sort_pairwise rowLe_tot (rawL n)) (lots_pw n (by omega)) (m1.trans hp.symm)
  exact lots_anti n (by omega) a (hp.mem_iff.mpr (m1.mem_iff.mp ha)) b hb h h'
theorem raw_lt' : ∀ (n : Nat) (l : List Int), l ∈ rawL n → l.length ≤ n ∧ ∀ i ∈ l, 0 ≤ i ∧ i < n
  | 0, l, h => by simp [rawL] at h; subst h; simp
  | n + 1, l, h => by
    rw [rawL] at h
    rcases List.mem_append.mp h with h | h
    · have := raw_lt' n l h
      exact ⟨by omega, fun i hi => by have := this.2 i hi; omega⟩
    · obtain ⟨l', h', rfl⟩ := List.mem_map.mp h
      have := raw_lt' n l' h'
      refine ⟨by simp; omega, fun i hi => ?_⟩
      rcases List.mem_append.mp hi with hi | hi
      · have := this.2 i hi; omega
      · simp at hi; omega
theorem w_lots (k : Nat) (S : Sto) {n : Nat} (hn : n ≤ 6) : callQ T (k + 1) "_law_lots" [.d (.int (n : Int))] S = .ok (.d (.list ((lotsN n).map lotI))) S := by
  rw [callQ_succ T__law_lots rfl rfl]
  obtain ⟨env', S', lp, hSS, e2, hj, rfl⟩ := forL_inv0 (t := .name 2) (body := B__law_lots_2 (callQ T k)) (ds := rangeD 0 n) (env := [some (.d (.int (n : Int))), some (.d (.list [.tuple []])), none, none, none]) (S := S)
    (fun j env S' => S' = S ∧ ∃ e2, j ≤ n ∧ env = [some (.d (.int (n : Int))), some (.d (.list ((rawL j).map lotI))), e2, none, none]) ⟨rfl, _, by omega, rfl⟩ (by
    rintro j d env S' hd ⟨rfl, e2, hjn, rfl⟩
    obtain ⟨hj, rfl⟩ := rangeD_get hd
    rw [Int.zero_add]
    refine ⟨[some (.d (.int (n : Int))), some (.d (.list ((rawL j).map lotI))), some (.d (.int (j : Int))), none, none], [some (.d (.int (n : Int))), some (.d (.list ((rawL (j + 1)).map lotI))), some (.d (.int (j : Int))), none, none], S', rfl, .inl ?_, rfl, _, by omega, rfl⟩
    have hl := raw_len j
    have hp : 2 ^ j ≤ 2 ^ 6 := Nat.pow_le_pow_right (by omega) (by omega)
    have e : ∀ L, compL (.name 4) (cYes (callQ T k)) (C__law_lots_1 (callQ T k)) [some (.d (.int (n : Int))), L, some (.d (.int (j : Int))), none, none] ((rawL j).map lotI) S' = .ok ((rawL j).map fun l => lotI (l ++ [(j : Int)])) S' := by
      intro L
      refine compL_on _ _ (fun l hl => by simp) fun l hl => ?_
      have h1 := (raw_lt' j l hl).1
      have h2 : (l.map PyData.int).length + 1 ≤ 16777216 := by rw [List.length_map]; omega
      simp at h2
      simp [C__law_lots_1, LIM, h2]
    have hb : ((rawL j).map lotI).length + ((rawL j).map fun l => lotI (l ++ [(j : Int)])).length ≤ 16777216 := by simp [hl]; omega
    have hb2 : ((rawL j).map fun l => lotI (l ++ [(j : Int)])).length ≤ 16777216 := by simp [hl]; omega
    have er : (rawL (j + 1)).map lotI = (rawL j).map lotI ++ (rawL j).map fun l => lotI (l ++ [(j : Int)]) := by
      rw [rawL, List.map_append, List.map_map]
      rfl
    rw [er]
    generalize ((rawL j).map fun l => lotI (l ++ [(j : Int)])) = R2 at *
    generalize (rawL j).map lotI = R1 at *
    simp [B__law_lots_2, notOwn, e, LIM, hb, hb2])
  have hr : inR (n : Int) = true := inR_of (by omega) (by omega)
  rw [rangeD_len, hSS] at lp
  obtain ⟨hperm, hok, hlen⟩ := lots_fact hn
  have c3 : ∀ e2, compL (.name 4) (cYes (callQ T k)) (C__law_lots_3 (callQ T k)) [some (.d (.int (n : Int))), some (.d (.list ((rawL n).map lotI))), e2, none, none] ((rawL n).map lotI) S = .ok ((rawL n).map rowL) S := by
    intro e2
    refine compL_on _ _ (fun l hl => by simp) fun l hl => ?_
    have hg : gLen [.d (lotI l)] S = .ok (.d (.int (l.length : Int))) S := by simp [gLen]
    unfold rowL
    generalize (rawL n).map lotI = R at *
    generalize lotI l = L at *
    simp [C__law_lots_3, hg, LIM]
  have c4 : ∀ e1 e2, compL (.names [3, 4]) (cYes (callQ T k)) (C__law_lots_4 (callQ T k)) [some (.d (.int (n : Int))), e1, e2, none, none] ((lotsN n).map rowL) S = .ok ((lotsN n).map lotI) S := by
    intro e1 e2
    refine compL_tg (t := .names [3, 4]) rowL lotI (fun l => [some (.d (.int (n : Int))), e1, e2, some (.d (.int (l.length : Int))), some (.d (lotI l))]) (fun l hl => rfl) (fun l hl => rfl) fun l hl => by
      generalize lotI l = L at *
      simp [C__law_lots_4]
  have hs := sort_rows hn
  have hrl : ((rawL n).map rowL).length ≤ 16777216 := by simp; omega
  have hrr : ((lotsN n).map lotI).length ≤ 16777216 := by simp [hperm.length_eq]; omega
  have gs : gSortND [.d (.list ((rawL n).map rowL))] S = .ok (.d (.list ((lotsN n).map rowL))) S := by
    simp only [gSortND, hok, if_true, LIM, hrl, hs]
  have c3 := c3 e2
  have c4 := c4 (some (.d (.list ((rawL n).map lotI)))) e2
  have lp' : forL (.name 2) (B__law_lots_2 (callQ T k)) (rangeD 0 n) [some (.d (.int (n : Int))), some (.d (.list [.tuple []])), none, none, none] S = .next [some (.d (.int (n : Int))), some (.d (.list ((rawL n).map lotI))), e2, none, none] S := lp
  generalize (rawL n).map lotI = RR at *
  generalize (rawL n).map rowL = RW at *
  generalize (lotsN n).map rowL = LW at *
  generalize (lotsN n).map lotI = LL at *
  simp [F__law_lots, startQ, LIM, hr, lp', notOwn, c3, gs, c4, hrr, hrl]
def pick (r : List Part) (l : List Int) : List Part := l.map fun i => r.getD i.toNat (0, none)
theorem pick_apart {s : Sky} {N : Nat} {r : List Part} {l : List Int} (hl : ∀ i ∈ l, 0 ≤ i ∧ i < r.length) : apartI l (ldK (soI s r) (allViews s N)) = decide (viewsOf s N (pick r l) = []) := by
  rw [Bool.eq_iff_iff, decide_eq_true_eq, apartI, Bool.not_eq_true', List.any_eq_false, viewsOf, List.filter_eq_nil_iff]
  have key : ∀ v, (l.all fun n => decide (n ∈ soI s r v)) = true ↔ okAt s (pick r l) v = true := by
    intro v
    unfold okAt pick
    rw [List.all_map, List.all_eq_true, List.all_eq_true]
    refine forall_congr' fun i => forall_congr' fun hi => ?_
    obtain ⟨h0, h1⟩ := hl i hi
    obtain ⟨j, rfl⟩ := Int.eq_ofNat_of_zero_le h0
    have hj : j < r.length := by omega
    simp only [Function.comp, decide_eq_true_eq, Int.toNat_natCast]
    unfold soI soL
    constructor
    · intro h
      obtain ⟨j', hj', e⟩ := List.mem_map.mp h
      have : j' = j := by omega
      subst this
      have := (List.mem_filter.mp hj').2
      simpa [List.getD_eq_getElem?_getD, List.getElem?_map, hj] using this
    · intro h
      refine List.mem_map.mpr ⟨j, List.mem_filter.mpr ⟨List.mem_range.mpr hj, ?_⟩, rfl⟩
      simpa [List.getD_eq_getElem?_getD, List.getElem?_map, hj] using h
  constructor
  · intro h v hv hok
    exact h (soI s r v) ((ldK_mem _ _ _).mpr ⟨v, hv, rfl⟩) ((key v).mpr hok)
  · intro h row hrow hall
    obtain ⟨v, hv, rfl⟩ := (ldK_mem _ _ _).mp hrow
    exact h v hv ((key v).mp hall)
end Q

namespace Q
open PySem PySem.Spec L2
theorem forL_fnd {α : Type} {body : EnvQ → Sto → RS} {i : Nat} {S : Sto} (q : α → D) (p : α → Option D) (E : EnvQ → Prop) : ∀ {xs : List α} {env : EnvQ}, E env → (∀ x ∈ xs, ∀ env, E env → (p x = none → ∃ env', body (env.set i (some (.d (q x)))) S = .next env' S ∧ E env') ∧ ∀ d, p x = some d → body (env.set i (some (.d (q x)))) S = .ret (.d d) S) →
    (∃ env', xs.findSome? p = none ∧ forL (.name i) body (xs.map q) env S = .next env' S ∧ E env') ∨ ∃ d, xs.findSome? p = some d ∧ forL (.name i) body (xs.map q) env S = .ret (.d d) S
  | [], env, h0, _ => .inl ⟨env, rfl, rfl, h0⟩
  | x :: xs, env, h0, hb => by
    obtain ⟨h1, h2⟩ := hb x (by simp) env h0
    cases hp : p x with
    | none =>
      obtain ⟨env1, e1, h3⟩ := h1 hp
      rcases forL_fnd q p E h3 (xs := xs) fun y hy => hb y (by simp [hy]) with ⟨env2, a, b, c⟩ | ⟨d, a, b⟩
      · refine .inl ⟨env2, by rw [List.findSome?_cons, hp]; exact a, ?_, c⟩
        simp only [List.map_cons, forL, z_name, e1]
        exact b
      · refine .inr ⟨d, by rw [List.findSome?_cons, hp]; exact a, ?_⟩
        simp only [List.map_cons, forL, z_name, e1]
        exact b
    | some d =>
      refine .inr ⟨d, by rw [List.findSome?_cons, hp], ?_⟩
      simp only [List.map_cons, forL, z_name, h2 d hp]
theorem okEq_viewsL (vs : List View) : okEq (.list (vs.map viewD)) = true := by
  have h1 : PyData.canLayAll0 (vs.map viewD) = true := by
    induction vs with
    | nil => rfl
    | cons v vs ih => simp [viewD, PyData.canLayAll0, PyData.canLay0, ih]
  have h2 : PyData.depthAll (vs.map viewD) ≤ 1 := by
    clear h1
    induction vs with
    | nil => simp [PyData.depthAll]
    | cons v vs ih => simp [viewD, PyData.depthAll, PyData.depth] ; omega
  simp [okEq, PyData.canLay0, h1, PyData.depth]
  omega
theorem eqv_viewsL (vs : List View) : PyData.eqv (.list (vs.map viewD)) (.list []) = decide (vs = []) := by
  cases vs <;> simp [PyData.eqv, PyData.eqvAll]
theorem g_eqVN (S : Sto) (vs : List View) : gEq (.d (.list (vs.map viewD))) (.d (.list [])) S = .ok (.d (.bool (decide (vs = [])))) S := by
  have h := okEq_viewsL vs
  have h2 : okEq (.list []) = true := by decide
  simp only [gEq, h, h2, Bool.and_self, if_true, eqv_viewsL]
theorem g_neVN (S : Sto) (vs : List View) : gNe (.d (.list (vs.map viewD))) (.d (.list [])) S = .ok (.d (.bool (!decide (vs = [])))) S := by
  have h := okEq_viewsL vs
  have h2 : okEq (.list []) = true := by decide
  simp only [gNe, h, h2, Bool.and_self, if_true, eqv_viewsL]
theorem first_of {α : Type} {P : α → Bool} {Q : α → Prop} [DecidablePred Q] {g : α → D} : ∀ {xs : List α}, (∀ x ∈ xs, P x = decide (Q x)) → xs.findSome? (fun x => if Q x then some (g x) else none) = (xs.find? P).map g
  | [], _ => rfl
  | x :: xs, h => by
    have hx := h x (by simp)
    have ih := first_of (g := g) (xs := xs) fun y hy => h y (by simp [hy])
    by_cases hq : Q x
    · simp [List.findSome?_cons, List.find?_cons, hx, hq]
    · simp [List.findSome?_cons, List.find?_cons, hx, hq, ih]
theorem bar_find {s : Sky} {N : Nat} {r : List Part} (h : viewsOf s N r = []) : (lotsN r.length).find? (fun L => apartI L (ldK (soI s r) (allViews s N))) = some (barI s N r) := by
  obtain ⟨rest, hr⟩ := bar_some h
  rw [← List.head?_filter, hr]
  rfl
theorem mem_lotsN {n : Nat} (hn : n ≤ 6) {l : List Int} (h : l ∈ lotsN n) : l.length ≤ n ∧ ∀ i ∈ l, 0 ≤ i ∧ i < n := raw_lt' n l ((lots_fact hn).1.mem_iff.mp h)
theorem pick_ok {s : Sky} {r : List Part} (or : RepOk r s) {l : List Int} (h : l ∈ lotsN r.length) : RepOk (pick r l) s := by
  obtain ⟨h1, h2⟩ := mem_lotsN or.l h
  have := or.l
  refine ⟨by simp [pick]; omega, fun p hp => ?_⟩
  obtain ⟨i, hi, rfl⟩ := List.mem_map.mp hp
  have := h2 i hi
  have hj : i.toNat < r.length := by omega
  rw [List.getD_eq_getElem?_getD, List.getElem?_eq_getElem hj]
  exact or.p _ (List.getElem_mem hj)
theorem w_least (k : Nat) (S : Sto) {s : Sky} (o : s.Ok) {r : List Part} (or : RepOk r s) (hv : viewsOf s s.turn r = []) : callQ T (k + 4) "_law_least_bar" [.d s.D, .d (repD r)] S = .ok (.d (lotI (barI s s.turn r))) S := by
  have h6 := or.l
  have hl := w_lots (k + 2) S or.l
  have hg : gLen [.d (repD r)] S = .ok (.d (.int (r.length : Int))) S := by simp [gLen, repD]
  have hat : ∀ j : Nat, j < r.length → gAt (.d (repD r)) (.d (.int (j : Int))) S = .ok (.d (partD (r.getD j (0, none)))) S := fun j hj => by
    have := atI_nat (r.map partD) j
    simp [gAt, repD, this, hj, List.getD_eq_getElem?_getD]
  have hf := forL_fnd (body := B__law_least_bar_2 (callQ T (k + 3))) (i := 2) (S := S) lotI (fun x => if viewsOf s s.turn (pick r x) = [] then some (lotI x) else none) (fun env => ∃ e2, env = [some (.d s.D), some (.d (repD r)), e2, none]) (xs := lotsN r.length) (env := [some (.d s.D), some (.d (repD r)), none, none]) ⟨_, rfl⟩ (by
    rintro l hl _ ⟨e2, rfl⟩
    obtain ⟨h1, h2⟩ := mem_lotsN or.l hl
    have hvw := w_viewsL k S o (pick_ok or hl)
    have hc : compL (.name 3) (cYes (callQ T (k + 3))) (C__law_least_bar_1 (callQ T (k + 3))) [some (.d s.D), some (.d (repD r)), some (.d (lotI l)), none] (l.map PyData.int) S = .ok ((pick r l).map partD) S := by
      unfold pick
      rw [List.map_map]
      refine compL_on _ _ (fun x hx => by simp) fun x hx => ?_
      obtain ⟨i0, i1⟩ := h2 x hx
      obtain ⟨j, rfl⟩ := Int.eq_ofNat_of_zero_le i0
      have := hat j (by omega)
      generalize repD r = R at *
      generalize s.D = G at *
      simp [C__law_least_bar_1, this]
    have hpl : ((pick r l).map partD).length ≤ 16777216 := by simp [pick]; omega
    have hrl : PyData.list ((pick r l).map partD) = repL (pick r l) := rfl
    have ge := g_eqVN S (viewsOf s s.turn (pick r l))
    have hlt : lotI l = .tuple (l.map PyData.int) := rfl
    have step : B__law_least_bar_2 (callQ T (k + 3)) [some (.d s.D), some (.d (repD r)), some (.d (lotI l)), none] S = if viewsOf s s.turn (pick r l) = [] then .ret (.d (lotI l)) S else .next [some (.d s.D), some (.d (repD r)), some (.d (lotI l)), none] S := by
      rw [hlt] at hc ⊢
      by_cases hp : viewsOf s s.turn (pick r l) = []
      · rw [if_pos hp]
        rw [decide_eq_true hp] at ge
        generalize (viewsOf s s.turn (pick r l)).map viewD = VS at *
        rw [← hrl] at hvw
        clear hrl
        generalize (pick r l).map partD = PM at *
        generalize repD r = R at *
        generalize l.map PyData.int = LI at *
        generalize s.D = G at *
        simp [B__law_least_bar_2, notOwn, hc, hpl, hvw, ge, LIM]
      · rw [if_neg hp]
        rw [decide_eq_false hp] at ge
        generalize (viewsOf s s.turn (pick r l)).map viewD = VS at *
        rw [← hrl] at hvw
        clear hrl
        generalize (pick r l).map partD = PM at *
        generalize repD r = R at *
        generalize l.map PyData.int = LI at *
        generalize s.D = G at *
        simp [B__law_least_bar_2, notOwn, hc, hpl, hvw, ge, LIM]
    constructor
    · intro hp
      refine ⟨[some (.d s.D), some (.d (repD r)), some (.d (lotI l)), none], ?_, _, rfl⟩
      by_cases hq : viewsOf s s.turn (pick r l) = []
      · rw [if_pos hq] at hp; cases hp
      · rw [if_neg hq] at step; exact step
    · intro d hp
      by_cases hq : viewsOf s s.turn (pick r l) = []
      · rw [if_pos hq] at hp step; cases hp; exact step
      · rw [if_neg hq] at hp; cases hp)
  have hbar : (lotsN r.length).findSome? (fun x => if viewsOf s s.turn (pick r x) = [] then some (lotI x) else none) = some (lotI (barI s s.turn r)) := by
    rw [first_of (P := fun L => apartI L (ldK (soI s r) (allViews s s.turn))) fun x hx => pick_apart (mem_lotsN or.l hx).2, bar_find hv]
    rfl
  rw [callQ_succ T__law_least_bar rfl rfl]
  rcases hf with ⟨env', h1, -, -⟩ | ⟨d, h1, h2⟩
  · rw [hbar] at h1; cases h1
  · rw [hbar] at h1
    cases h1
    generalize (lotsN r.length).map lotI = LL at *
    generalize repD r = R at *
    generalize lotI (barI s s.turn r) = BB at *
    generalize s.D = G at *
    simp [F__law_least_bar, startQ, hg, hl, h2]
end Q

namespace Q
theorem seq_nx {a b : SS} {cf : CF} {env env' : EnvQ} {S S' : Sto} (h : a cf env S = .next env' S') : sSeq a b cf env S = b cf env' S' := by
  show (a cf env S).seq _ = _
  rw [h]
  rfl
end Q

namespace Q
open PySem PySem.Spec L2
def HR_0 : SS := (sPar [7, 8] (aCons (fB gRepr (aCons (fTup (aCons (fVar 3) (aCons (fVar 6) aNil))) aNil)) (aCons (fCallN "_law_views" 2 (aCons (fVar 3) (aCons (fVar 6) aNil))) aNil)))
def HR_1 : SS := (sSet 9 (fB gRepr (aCons (fIf (cVal (fBin gNe (fVar 8) (fLst aNil))) (fTup (aCons (fStr "seen") (aCons (fAt (fVar 8) (fInt 0)) aNil))) (fTup (aCons (fStr "never") (aCons (fCallN "_law_least_bar" 2 (aCons (fVar 3) (aCons (fVar 6) aNil))) aNil)))) aNil)))
def HR_2 : SS := (sFor (.name 10) (iRange1 (aCons (fInt 2) aNil))
  B_law_2)
theorem HR_form : B_law_3 = sSeq HR_0 (sSeq HR_1 (HR_2)) := rfl
def HL_0 : SS := (sSet 2 (fCallN "_law_pen" 1 (aCons (fCallN "_law_cell_at" 2 (aCons (fVar 0) (aCons (fVar 1) aNil))) aNil)))
def HL_1 : SS := (sSet 3 (fCallN "_law_sky" 2 (aCons (fVar 2) (aCons (fInt 5) aNil))))
def HL_2 : SS := (sSet 4 (fCallN "_law_any_cell" 2 (aCons (fVar 2) (aCons (fVar 3) aNil))))
def HL_3 : SS := (sNew 5 (aCons (fCallN "_law_report" 4 (aCons (fVar 2) (aCons (fVar 3) (aCons (fInt 6) (aCons (fInt 0) aNil))))) (aCons (fCallN "_law_report" 4 (aCons (fVar 2) (aCons (fVar 3) (aCons (fInt 6) (aCons (fInt 1) aNil))))) (aCons (fCallN "_law_report" 4 (aCons (fVar 2) (aCons (fVar 3) (aCons (fInt 4) (aCons (fInt 1) aNil))))) aNil))))
def HL_4 : SS := (sApp 5 (fB gTuple (aCons (fComp [12] (.name 12) (iRange1 (aCons (fB gLen (aCons (fAt (fVar 3) (fInt 2)) aNil)) aNil)) cYes C_law_1) aNil)))
def HL_5 : SS := (sFreeze 5)
def HL_6 : SS := (sFor (.name 6) (iSeq (fVar 5))
  B_law_3)
theorem HL_form : B_law_4 = sSeq HL_0 (sSeq HL_1 (sSeq HL_2 (sSeq HL_3 (sSeq HL_4 (sSeq HL_5 (HL_6)))))) := rfl
def HF_0 : SS := (sFor (.name 1) (iRange1 (aCons (fB gMax2 (aCons (fInt 1) (aCons (fB gMin2 (aCons (fB gLen (aCons (fVar 0) aNil)) (aCons (fInt 3) aNil))) aNil))) aNil))
  B_law_4)
def HF_1 : SS := (sSet 11 (fTup (aCons (fInt 4) (aCons (fInt 1) (aCons (fTup (aCons (fTup (aCons (fInt 0) (aCons (fInt 0) (aCons (fTup (aCons (fInt 0) aNil)) aNil)))) (aCons (fTup (aCons (fInt 1) (aCons (fInt 0) (aCons (fTup (aCons (fInt 0) aNil)) aNil)))) aNil))) aNil)))))
def HF_2 : SS := (sIf (cVal (fBin gNe (fCallN "led_back" 2 (aCons (fVar 11) (aCons (fTup (aCons (fTup (aCons (fInt 0) (aCons (fTup (aCons (fInt 0) (aCons (fInt 0) aNil))) aNil))) (aCons (fTup (aCons (fInt 1) (aCons (fTup (aCons (fInt 1) (aCons (fInt 0) aNil))) aNil))) (aCons (fTup (aCons (fInt 0) (aCons (fTup (aCons (fInt 1) (aCons (fInt 0) aNil))) aNil))) (aCons (fTup (aCons (fInt 1) (aCons (fTup (aCons (fInt 0) (aCons (fInt 0) aNil))) aNil))) aNil))))) aNil))) (fTup (aCons (fStr "never") (aCons (fTup (aCons (fInt 0) (aCons (fInt 2) aNil))) aNil)))))
  (sRetP (fBl false))
  sNext)
def HF_3 : SS := (sIf (cOr (cVal (fBin gNe (fCallN "led_back" 2 (aCons (fVar 11) (aCons (fTup (aCons (fTup (aCons (fInt 0) (aCons (fTup (aCons (fInt 0) (aCons (fInt 0) aNil))) aNil))) (aCons (fTup (aCons (fInt 1) (aCons fNon aNil))) aNil))) aNil))) (fTup (aCons (fStr "never") (aCons (fTup (aCons (fInt 0) (aCons (fInt 1) aNil))) aNil))))) (cVal (fBin gNe (fCallN "led_back" 2 (aCons (fVar 11) (aCons (fTup aNil) aNil))) (fTup (aCons (fStr "seen") (aCons (fTup (aCons (fInt 0) (aCons (fInt 0) (aCons (fNeg (fInt 1)) aNil)))) aNil))))))
  (sRetP (fBl false))
  sNext)
def HF_4 : SS := (sRetP (fBin gEq (fCallN "led_back" 2 (aCons (fVar 11) (aCons (fTup (aCons (fTup (aCons (fInt 0) (aCons (fTup (aCons (fInt 0) (aCons (fInt 0) aNil))) aNil))) (aCons (fTup (aCons (fInt 1) (aCons (fTup (aCons (fInt 1) (aCons (fInt 0) aNil))) aNil))) aNil))) aNil))) (fTup (aCons (fStr "seen") (aCons (fTup (aCons (fInt 0) (aCons (fInt 0) (aCons (fInt 0) aNil)))) aNil)))))
theorem HF_form : F_law = sSeq HF_0 (sSeq HF_1 (sSeq HF_2 (sSeq HF_3 (HF_4)))) := rfl

theorem sh_seen' : Sh 13 0 (.str (Str.ofString "seen")) := ⟨by decide +kernel, by decide +kernel, rfl, Nat.le_refl _, by decide +kernel⟩
theorem sh_never' : Sh 13 0 (.str (Str.ofString "never")) := ⟨by decide +kernel, by decide +kernel, rfl, Nat.le_refl _, by decide +kernel⟩
theorem led_show {s : Sky} (o : s.Ok) {r : List Part} (or : RepOk r s) : okShow (ledD s s.turn r) = true := by
  obtain ⟨t0, t1, t2, t3⟩ := o.turn_ok
  have w0 := o.w0; have w1 := o.w1; have h0 := o.h0; have h1 := o.h1
  unfold ledD
  cases hv : viewsOf s s.turn r with
  | nil =>
    have hb := List.mem_of_find?_eq_some (bar_find hv)
    obtain ⟨b1, b2⟩ := mem_lotsN or.l hb
    have h6 := or.l
    have hs : Sh 100 1 (lotI (barI s s.turn r)) := by
      refine (sh_tup (n := 13) (k := 0) (xs := (barI s s.turn r).map PyData.int) fun x hx => ?_).mono (by simp; omega) (by omega)
      obtain ⟨i, hi, rfl⟩ := List.mem_map.mp hx
      have := b2 i hi
      exact sh_int (by omega)
    refine (sh_two (n := 100) (k := 1) (sh_never'.mono (by omega) (by omega)) hs).ok (by omega) (by omega)
  | cons v rest =>
    have hm : v ∈ allViews s s.turn := (List.mem_filter.mp (show v ∈ viewsOf s s.turn r by rw [hv]; simp)).1
    obtain ⟨⟨a0, a1⟩, ⟨b0, b1⟩, c0, c1⟩ := (mem_views (by omega) (by omega)).mp hm
    have hs : Sh 100 1 (viewD v) := by
      refine (sh_tup (n := 13) (k := 0) (xs := [.int v.1, .int v.2.1, .int v.2.2]) fun x hx => ?_).mono (by simp) (by omega)
      simp at hx
      rcases hx with rfl | rfl | rfl <;> exact sh_int (by omega)
    exact (sh_two (n := 100) (k := 1) (sh_seen'.mono (by omega) (by omega)) hs).ok (by omega) (by omega)
theorem tab_app {S : Sto} (h : tab0 S) (d : O) : tab0 (S ++ [d]) := by
  show (S ++ [d])[0]? = _
  rw [List.getElem?_append_left (List.getElem?_eq_some_iff.mp h).1]
  exact h
theorem w_rep23 {S : Sto} (hS : tab0 S) {s : Sky} (o : s.Ok) {r : List Part} (or : RepOk r s) (e0 e1 e2 e4 e5 e7 e8 e9 e10 e11 e12 : Option W) :
    ∃ f7 f8 f9 f10 S', B_law_3 (callQ T 39) [e0, e1, e2, some (.d s.D), e4, e5, some (.d (repD r)), e7, e8, e9, e10, e11, e12] S = .next [e0, e1, e2, some (.d s.D), e4, e5, some (.d (repD r)), f7, f8, f9, f10, e11, e12] S' ∧ tab0 S' := by
  obtain ⟨t0, t1, t2, t3⟩ := o.turn_ok
  have hk := (sh_two (sh_sky o) (sh_rep o or)).ok (by omega) (by omega)
  have hd := led_show o or
  have v2 := w_views 36 S o or
  have s_0 : HR_0 (callQ T 39) [e0, e1, e2, some (.d s.D), e4, e5, some (.d (repD r)), e7, e8, e9, e10, e11, e12] S = .next [e0, e1, e2, some (.d s.D), e4, e5, some (.d (repD r)), some (.d (.str (PyData.tuple [s.D, repD r]).shown)), some (.d (.list ((viewsOf s s.turn r).map viewD))), e9, e10, e11, e12] S := by
    generalize (viewsOf s s.turn r).map viewD = V at *
    generalize repD r = R at *
    generalize s.D = G at *
    simp [HR_0, hk, v2, LIM]
  have s_1 : HR_1 (callQ T 39) [e0, e1, e2, some (.d s.D), e4, e5, some (.d (repD r)), some (.d (.str (PyData.tuple [s.D, repD r]).shown)), some (.d (.list ((viewsOf s s.turn r).map viewD))), e9, e10, e11, e12] S = .next [e0, e1, e2, some (.d s.D), e4, e5, some (.d (repD r)), some (.d (.str (PyData.tuple [s.D, repD r]).shown)), some (.d (.list ((viewsOf s s.turn r).map viewD))), some (.d (.str (ledD s s.turn r).shown)), e10, e11, e12] S := by
    have hn := g_neVN S (viewsOf s s.turn r)
    generalize (PyData.tuple [s.D, repD r]).shown = SH at *
    by_cases hv : viewsOf s s.turn r = []
    · have hb := w_least 35 S o or hv
      have hl : ledD s s.turn r = .tuple [.str "never", lotI (barI s s.turn r)] := by unfold ledD; rw [hv]
      rw [hl] at hd ⊢
      rw [decide_eq_true hv] at hn
      generalize (viewsOf s s.turn r).map viewD = V at *
      generalize lotI (barI s s.turn r) = BB at *
      generalize repD r = R at *
      generalize s.D = G at *
      simp [HR_1, hn, hb, hd, LIM]
    · obtain ⟨v, rest, he⟩ := List.exists_cons_of_ne_nil hv
      have hl : ledD s s.turn r = .tuple [.str "seen", viewD v] := by unfold ledD; rw [he]
      rw [hl] at hd ⊢
      rw [decide_eq_false hv] at hn
      have ha : atI ((viewsOf s s.turn r).map viewD) 0 = some (viewD v) := by
        rw [he]
        have := atI_nat ((v :: rest).map viewD) 0
        simpa using this
      generalize (viewsOf s s.turn r).map viewD = V at *
      generalize viewD v = VV at *
      generalize repD r = R at *
      generalize s.D = G at *
      simp [HR_1, hn, ha, hd, LIM, -atI]
  obtain ⟨_, S', L, ⟨f10, rfl⟩, hS'⟩ := forL_all (t := .name 10) (body := B_law_2 (callQ T 39)) (ds := rangeD 0 2) (env := [e0, e1, e2, some (.d s.D), e4, e5, some (.d (repD r)), some (.d (.str (PyData.tuple [s.D, repD r]).shown)), some (.d (.list ((viewsOf s s.turn r).map viewD))), some (.d (.str (ledD s s.turn r).shown)), e10, e11, e12]) (S := S)
    (fun env S' => (∃ f10, env = [e0, e1, e2, some (.d s.D), e4, e5, some (.d (repD r)), some (.d (.str (PyData.tuple [s.D, repD r]).shown)), some (.d (.list ((viewsOf s s.turn r).map viewD))), some (.d (.str (ledD s s.turn r).shown)), f10, e11, e12]) ∧ tab0 S') ⟨⟨_, rfl⟩, hS⟩ (by
      rintro d _ env S1 ⟨⟨f10, rfl⟩, hS1⟩
      have el := p_led_back leT 30 hS1 o or t0 (by omega) t2 t3
      refine ⟨_, [e0, e1, e2, some (.d s.D), e4, e5, some (.d (repD r)), some (.d (.str (PyData.tuple [s.D, repD r]).shown)), some (.d (.list ((viewsOf s s.turn r).map viewD))), some (.d (.str (ledD s s.turn r).shown)), some (.d d), e11, e12], _, rfl, .inl ?_, ⟨_, rfl⟩, tab_app hS1 (.dcm (ldM (soI s r) (allViews s s.turn)))⟩
      generalize O.dcm (ldM (soI s r) (allViews s s.turn)) = DD at *
      generalize (viewsOf s s.turn r).map viewD = V at *
      generalize ledD s s.turn r = LD at *
      generalize repD r = R at *
      generalize s.D = G at *
      simp [B_law_2, el, hd, hk, LIM])
  refine ⟨some (.d (.str (PyData.tuple [s.D, repD r]).shown)), some (.d (.list ((viewsOf s s.turn r).map viewD))), some (.d (.str (ledD s s.turn r).shown)), f10, S', ?_, hS'⟩
  rw [HR_form, seq_nx s_0, seq_nx s_1]
  have hr : inR (2 : Int) = true := by decide
  generalize (viewsOf s s.turn r).map viewD = V at *
  generalize (ledD s s.turn r).shown = LD at *
  generalize (PyData.tuple [s.D, repD r]).shown = SH at *
  generalize repD r = R at *
  generalize s.D = G at *
  simp [HR_2, hr, L]
theorem w_turn23 (ns : List Int) (j : Nat) {S : Sto} (hS : tab0 S) (e2 e3 e4 e5 e6 e7 e8 e9 e10 : Option W) :
    ∃ f2 f3 f4 f5 f6 f7 f8 f9 f10 S', B_law_4 (callQ T 39) [some (.scr ns), some (.d (.int (j : Int))), e2, e3, e4, e5, e6, e7, e8, e9, e10, none, none] S = .next [some (.scr ns), some (.d (.int (j : Int))), f2, f3, f4, f5, f6, f7, f8, f9, f10, none, none] S' ∧ tab0 S' := by
  obtain ⟨z, hz⟩ := w_cell_at 38 S ns j
  obtain ⟨S1, hp, p1⟩ := w_pen 38 S hS z
  obtain ⟨s, S2, o, hs, p2⟩ := w_sky 36 p1
  obtain ⟨c, S3, hc, p3, hcc⟩ := w_any 37 p2 o
  obtain ⟨r1, S4, o1, h1, p4⟩ := w_report 35 p3 o 6 0 (by omega) (by omega)
  obtain ⟨r2, S5, o2, h2, p5⟩ := w_report 35 p4 o 6 1 (by omega) (by omega)
  obtain ⟨r3, S6, o3, h3, p6⟩ := w_report 35 p5 o 4 1 (by omega) (by omega)
  have l1 := o.l1
  let r4 : List Part := (List.range s.ls.length).map fun i => (i, c)
  have o4 : RepOk r4 s := by
    refine ⟨by simp [r4]; omega, fun p hp => ?_⟩
    obtain ⟨i, hi, rfl⟩ := List.mem_map.mp hp
    exact ⟨List.mem_range.mp hi, hcc⟩
  have at2 : ∀ S, gAt (.d s.D) (.d (.int 2)) S = .ok (.d (.tuple (s.ls.map Light.D))) S := fun S => rfl
  have ql : ∀ S, gLen [.d (.tuple (s.ls.map Light.D))] S = .ok (.d (.int (s.ls.length : Int))) S := fun S => by simp [gLen]
  have hr : inR (s.ls.length : Int) = true := inR_of (by omega) (by omega)
  have s_0 : HL_0 (callQ T 39) [some (.scr ns), some (.d (.int (j : Int))), e2, e3, e4, e5, e6, e7, e8, e9, e10, none, none] S = .next [some (.scr ns), some (.d (.int (j : Int))), some (.ref S.length), e3, e4, e5, e6, e7, e8, e9, e10, none, none] S1 := by
    simp [HL_0, hz, hp]
  have s_1 : HL_1 (callQ T 39) [some (.scr ns), some (.d (.int (j : Int))), some (.ref S.length), e3, e4, e5, e6, e7, e8, e9, e10, none, none] S1 = .next [some (.scr ns), some (.d (.int (j : Int))), some (.ref S.length), some (.d s.D), e4, e5, e6, e7, e8, e9, e10, none, none] S2 := by
    generalize s.D = G at *
    simp [HL_1, hs]
  have s_2 : HL_2 (callQ T 39) [some (.scr ns), some (.d (.int (j : Int))), some (.ref S.length), some (.d s.D), e4, e5, e6, e7, e8, e9, e10, none, none] S2 = .next [some (.scr ns), some (.d (.int (j : Int))), some (.ref S.length), some (.d s.D), some (.d (cellD c)), e5, e6, e7, e8, e9, e10, none, none] S3 := by
    generalize s.D = G at *
    generalize cellD c = CC at *
    simp [HL_2, hc]
  have s_3 : HL_3 (callQ T 39) [some (.scr ns), some (.d (.int (j : Int))), some (.ref S.length), some (.d s.D), some (.d (cellD c)), e5, e6, e7, e8, e9, e10, none, none] S3 = .next [some (.scr ns), some (.d (.int (j : Int))), some (.ref S.length), some (.d s.D), some (.d (cellD c)), some (.own [repD r1, repD r2, repD r3]), e6, e7, e8, e9, e10, none, none] S6 := by
    generalize s.D = G at *
    generalize cellD c = CC at *
    generalize repD r1 = R1 at *
    generalize repD r2 = R2 at *
    generalize repD r3 = R3 at *
    simp [HL_3, h1, h2, h3, LIM]
  have ec : compL (.name 12) (cYes (callQ T 39)) (C_law_1 (callQ T 39)) [some (.scr ns), some (.d (.int (j : Int))), some (.ref S.length), some (.d s.D), some (.d (cellD c)), some (.own [repD r1, repD r2, repD r3]), e6, e7, e8, e9, e10, none, none] (rangeD 0 s.ls.length) S6 = .ok (r4.map partD) S6 := by
    simp only [r4]
    unfold rangeD
    rw [List.map_map]
    refine compL_on _ _ (fun x hx => rfl) fun x hx => ?_
    have e : (partD ∘ fun i => (i, c)) x = PyData.tuple [.int (x : Int), cellD c] := rfl
    rw [e]
    generalize cellD c = CC at *
    simp [C_law_1, LIM]
  have hl4 : (r4.map partD).length ≤ 16777216 := by simp [r4]; omega
  have hd4 : PyData.tuple (r4.map partD) = repD r4 := rfl
  have s_4 : HL_4 (callQ T 39) [some (.scr ns), some (.d (.int (j : Int))), some (.ref S.length), some (.d s.D), some (.d (cellD c)), some (.own [repD r1, repD r2, repD r3]), e6, e7, e8, e9, e10, none, none] S6 = .next [some (.scr ns), some (.d (.int (j : Int))), some (.ref S.length), some (.d s.D), some (.d (cellD c)), some (.own [repD r1, repD r2, repD r3, repD r4]), e6, e7, e8, e9, e10, none, none] S6 := by
    rw [← hd4]
    generalize r4.map partD = R4 at *
    generalize PyData.tuple (s.ls.map Light.D) = LL at *
    generalize s.D = G at *
    generalize cellD c = CC at *
    generalize repD r1 = R1 at *
    generalize repD r2 = R2 at *
    generalize repD r3 = R3 at *
    simp [HL_4, at2, ql, hr, notOwn, ec, hl4, LIM]
  have s_5 : HL_5 (callQ T 39) [some (.scr ns), some (.d (.int (j : Int))), some (.ref S.length), some (.d s.D), some (.d (cellD c)), some (.own [repD r1, repD r2, repD r3, repD r4]), e6, e7, e8, e9, e10, none, none] S6 = .next [some (.scr ns), some (.d (.int (j : Int))), some (.ref S.length), some (.d s.D), some (.d (cellD c)), some (.d (.list [repD r1, repD r2, repD r3, repD r4])), e6, e7, e8, e9, e10, none, none] S6 := by
    simp [HL_5]
  obtain ⟨_, S7, L, ⟨f6, f7, f8, f9, f10, rfl⟩, hS7⟩ := forL_all (t := .name 6) (body := B_law_3 (callQ T 39)) (ds := [repD r1, repD r2, repD r3, repD r4]) (env := [some (.scr ns), some (.d (.int (j : Int))), some (.ref S.length), some (.d s.D), some (.d (cellD c)), some (.d (.list [repD r1, repD r2, repD r3, repD r4])), e6, e7, e8, e9, e10, none, none]) (S := S6)
    (fun env S' => (∃ f6 f7 f8 f9 f10, env = [some (.scr ns), some (.d (.int (j : Int))), some (.ref S.length), some (.d s.D), some (.d (cellD c)), some (.d (.list [repD r1, repD r2, repD r3, repD r4])), f6, f7, f8, f9, f10, none, none]) ∧ tab0 S') ⟨⟨_, _, _, _, _, rfl⟩, p6.2.1⟩ (by
      rintro d hd env S' ⟨⟨f6, f7, f8, f9, f10, rfl⟩, hS'⟩
      obtain ⟨r, or, rfl⟩ : ∃ r, RepOk r s ∧ d = repD r := by
        simp at hd
        rcases hd with rfl | rfl | rfl | rfl
        · exact ⟨_, o1, rfl⟩
        · exact ⟨_, o2, rfl⟩
        · exact ⟨_, o3, rfl⟩
        · exact ⟨_, o4, rfl⟩
      obtain ⟨g7, g8, g9, g10, S8, e, q⟩ := w_rep23 hS' o or (some (.scr ns)) (some (.d (.int (j : Int)))) (some (.ref S.length)) (some (.d (cellD c))) (some (.d (.list [repD r1, repD r2, repD r3, repD r4]))) f7 f8 f9 f10 none none
      exact ⟨_, _, S8, rfl, .inl e, ⟨_, _, _, _, _, rfl⟩, q⟩)
  refine ⟨some (.ref S.length), some (.d s.D), some (.d (cellD c)), some (.d (.list [repD r1, repD r2, repD r3, repD r4])), f6, f7, f8, f9, f10, S7, ?_, hS7⟩
  rw [HL_form, seq_nx s_0, seq_nx s_1, seq_nx s_2, seq_nx s_3, seq_nx s_4, seq_nx s_5]
  generalize s.D = G at *
  generalize cellD c = CC at *
  generalize repD r1 = R1 at *
  generalize repD r2 = R2 at *
  generalize repD r3 = R3 at *
  generalize repD r4 = R4 at *
  simp [HL_6, L]
def zS : Sky := ⟨4, 1, [⟨0, 0, [0]⟩, ⟨1, 0, [0]⟩]⟩
theorem zS_ok : zS.Ok := by
  refine ⟨by decide, by decide, by decide, by decide, by decide, by decide, fun l hl => ?_⟩
  simp [zS] at hl
  rcases hl with rfl | rfl <;> exact ⟨by decide, by decide, by decide, by decide, by decide, by decide, by decide⟩
def z1 : List Part := [(0, some (0, 0)), (1, some (1, 0)), (0, some (1, 0)), (1, some (0, 0))]
def z2 : List Part := [(0, some (0, 0)), (1, none)]
def z4 : List Part := [(0, some (0, 0)), (1, some (1, 0))]
theorem z_ok {r : List Part} (h : r.length ≤ 6 ∧ ∀ p ∈ r, p.1 < 2 ∧ (match p.2 with | none => true | some q => zS.cell q.1 q.2) = true) : RepOk r zS := by
  refine ⟨h.1, fun p hp => ⟨(h.2 p hp).1, fun q hq => ?_⟩⟩
  have := (h.2 p hp).2
  rw [hq] at this
  exact this
theorem z_led {S : Sto} (hS : tab0 S) {r : List Part} (or : RepOk r zS) : callQ T 39 "led_back" [.d zS.D, .d (repD r)] S = .ok (.d (ledD zS 1 r)) (S ++ [.dcm (ldM (soI zS r) (allViews zS 1))]) :=
  p_led_back leT 30 hS zS_ok or (by omega) (by omega) (by decide) (fun j h1 h2 => by omega)
theorem z_l1 : ledD zS 1 z1 = .tuple [.str "never", .tuple [.int 0, .int 2]] := by
  have h : viewsOf zS 1 z1 = [] := by decide +kernel
  have hb : barI zS 1 z1 = [0, 2] := by decide +kernel
  unfold ledD; rw [h, hb]; rfl
theorem z_l2 : ledD zS 1 z2 = .tuple [.str "never", .tuple [.int 0, .int 1]] := by
  have h : viewsOf zS 1 z2 = [] := by decide +kernel
  have hb : barI zS 1 z2 = [0, 1] := by decide +kernel
  unfold ledD; rw [h, hb]; rfl
theorem led_seen {r : List Part} {v : View} (h : (viewsOf zS 1 r).head? = some v) : ledD zS 1 r = .tuple [.str "seen", viewD v] := by
  unfold ledD
  cases hv : viewsOf zS 1 r with
  | nil => rw [hv] at h; cases h
  | cons x xs => rw [hv] at h; simp at h; subst h; rfl
theorem z_l3 : ledD zS 1 [] = .tuple [.str "seen", .tuple [.int 0, .int 0, .int (-1)]] := led_seen (v := (0, 0, -1)) (by decide +kernel)
theorem z_l4 : ledD zS 1 z4 = .tuple [.str "seen", .tuple [.int 0, .int 0, .int 0]] := led_seen (v := (0, 0, 0)) (by decide +kernel)
theorem ne_same2 (S : Sto) (x : Str) (hx : PyData.strOk x = true) (a b : Int) : gNe (.d (.tuple [.str x, .tuple [.int a, .int b]])) (.d (.tuple [.str x, .tuple [.int a, .int b]])) S = .ok (.d (.bool false)) S := by
  simp [gNe, okEq, PyData.canLay0, PyData.canLayAll0, PyData.depth, PyData.depthAll, PyData.eqv, PyData.eqvAll, hx]
theorem ne_same3 (S : Sto) (x : Str) (hx : PyData.strOk x = true) (a b c : Int) : gNe (.d (.tuple [.str x, .tuple [.int a, .int b, .int c]])) (.d (.tuple [.str x, .tuple [.int a, .int b, .int c]])) S = .ok (.d (.bool false)) S := by
  simp [gNe, okEq, PyData.canLay0, PyData.canLayAll0, PyData.depth, PyData.depthAll, PyData.eqv, PyData.eqvAll, hx]
theorem eq_same3 (S : Sto) (x : Str) (hx : PyData.strOk x = true) (a b c : Int) : gEq (.d (.tuple [.str x, .tuple [.int a, .int b, .int c]])) (.d (.tuple [.str x, .tuple [.int a, .int b, .int c]])) S = .ok (.d (.bool true)) S := by
  simp [gEq, okEq, PyData.canLay0, PyData.canLayAll0, PyData.depth, PyData.depthAll, PyData.eqv, PyData.eqvAll, hx]
theorem law_true : ∀ ns : List Int, ns.length ≤ 63 → ∃ S', callQ T 40 "law" [.scr ns] [.tab "lots_of" "lots_of"] = .ok (.d (.bool true)) S' := by
  intro ns hns
  obtain ⟨_, S1, L, ⟨f1, f2, f3, f4, f5, f6, f7, f8, f9, f10, rfl⟩, hS1⟩ := forL_all (t := .name 1) (body := B_law_4 (callQ T 39)) (ds := rangeD 0 (if 1 < (if (3 : Int) < ns.length then 3 else (ns.length : Int)) then (if (3 : Int) < ns.length then 3 else (ns.length : Int)) else 1).toNat) (env := [some (.scr ns), none, none, none, none, none, none, none, none, none, none, none, none]) (S := [.tab "lots_of" "lots_of"])
    (fun env S' => (∃ e1 e2 e3 e4 e5 e6 e7 e8 e9 e10, env = [some (.scr ns), e1, e2, e3, e4, e5, e6, e7, e8, e9, e10, none, none]) ∧ tab0 S') ⟨⟨_, _, _, _, _, _, _, _, _, _, rfl⟩, rfl⟩ (by
      rintro d hd env S ⟨⟨e1, e2, e3, e4, e5, e6, e7, e8, e9, e10, rfl⟩, hS⟩
      obtain ⟨j, hj, rfl⟩ := rangeD_mem hd
      rw [Int.zero_add]
      obtain ⟨g2, g3, g4, g5, g6, g7, g8, g9, g10, S', e, q⟩ := w_turn23 ns j hS e2 e3 e4 e5 e6 e7 e8 e9 e10
      exact ⟨_, _, S', rfl, .inl e, ⟨_, _, _, _, _, _, _, _, _, _, rfl⟩, q⟩)
  have hr : inR (if 1 < (if (3 : Int) < ns.length then 3 else (ns.length : Int)) then (if (3 : Int) < ns.length then 3 else (ns.length : Int)) else 1) = true := inR_of (by split <;> split <;> omega) (by split <;> split <;> omega)
  have k1 := z_led hS1 (z_ok (r := z1) (by decide +kernel))
  have t1 := tab_app hS1 (.dcm (ldM (soI zS z1) (allViews zS 1)))
  generalize hD1 : O.dcm (ldM (soI zS z1) (allViews zS 1)) = D1 at k1 t1
  have k2 := z_led t1 (z_ok (r := z2) (by decide +kernel))
  have t2 := tab_app t1 (.dcm (ldM (soI zS z2) (allViews zS 1)))
  generalize hD2 : O.dcm (ldM (soI zS z2) (allViews zS 1)) = D2 at k2 t2
  have k3 := z_led t2 (z_ok (r := []) (by decide +kernel))
  have t3 := tab_app t2 (.dcm (ldM (soI zS []) (allViews zS 1)))
  generalize hD3 : O.dcm (ldM (soI zS []) (allViews zS 1)) = D3 at k3 t3
  have k4 := z_led t3 (z_ok (r := z4) (by decide +kernel))
  generalize hD4 : O.dcm (ldM (soI zS z4) (allViews zS 1)) = D4 at k4
  rw [z_l1] at k1; rw [z_l2] at k2; rw [z_l3] at k3; rw [z_l4] at k4
  simp [zS, Sky.D, Light.D, repD, z1, z2, z4, partD, cellD, pairD] at k1 k2 k3 k4
  have hsn : PyData.strOk "never" = true := by decide +kernel
  have hss : PyData.strOk "seen" = true := by decide +kernel
  have n1 := fun S a b => ne_same2 S "never" hsn a b
  have n3 := fun S a b c => ne_same3 S "seen" hss a b c
  have q3 := fun S a b c => eq_same3 S "seen" hss a b c
  have hst : startQ 13 [.scr ns] = [some (.scr ns), none, none, none, none, none, none, none, none, none, none, none, none] := rfl
  refine ⟨S1 ++ [D1] ++ [D2] ++ [D3] ++ [D4], ?_⟩
  rw [callQ_succ T_law rfl rfl, hst]
  show fin (F_law (callQ T 39) _ _) = _
  have s_0 : HF_0 (callQ T 39) [some (.scr ns), none, none, none, none, none, none, none, none, none, none, none, none] [.tab "lots_of" "lots_of"] = .next [some (.scr ns), f1, f2, f3, f4, f5, f6, f7, f8, f9, f10, none, none] S1 := by
    simp [HF_0, gLen, hr, L]
  rw [HF_form, seq_nx s_0]
  simp [HF_1, HF_2, HF_3, HF_4, k1, k2, k3, k4, n1, n3, q3, LIM]
end Q

namespace Q
open PySem PySem.Spec PyProof.Rows L2
/-- the module's names -/
structure GL (K : PySem.W.Frag) (mg : Str → Option Value) : Prop where
  f_abs : mg "abs" = none
  f_all : mg "all" = none
  f_any : mg "any" = none
  f_bool : mg "bool" = none
  f_enumerate : mg "enumerate" = none
  f_int : mg "int" = none
  f_isinstance : mg "isinstance" = none
  f_len : mg "len" = none
  f_list : mg "list" = none
  f_max : mg "max" = none
  f_min : mg "min" = none
  f_range : mg "range" = none
  f_repr : mg "repr" = none
  f_sorted : mg "sorted" = none
  f_tuple : mg "tuple" = none
  i_LEAST_WIDE : ∃ t, mg "LEAST_WIDE" = some (.int 4 t)
  i_MOST_HIGH : ∃ t, mg "MOST_HIGH" = some (.int 5 t)
  i_MOST_LIGHTS : ∃ t, mg "MOST_LIGHTS" = some (.int 6 t)
  i_MOST_PARTS : ∃ t, mg "MOST_PARTS" = some (.int 6 t)
  i_MOST_ROWS : ∃ t, mg "MOST_ROWS" = some (.int 4 t)
  i_MOST_SPEED : ∃ t, mg "MOST_SPEED" = some (.int 9 t)
  i_MOST_WIDE : ∃ t, mg "MOST_WIDE" = some (.int 12 t)
  i_NEVER : ∃ t, mg "NEVER" = some (.str "never" t)
  i_SEEN : ∃ t, mg "SEEN" = some (.str "seen" t)
  x_NoReport : ExcF K mg "NoReport"
  x_NoSky : ExcF K mg "NoSky"
structure CL (P : Program) (w : World) (K : PySem.W.Frag) (mg : Str → Option Value) (base : Heap) (cf : CF) (k : Nat) : Prop where
  c_is_whole : FnQ P w K mg base cf k "is_whole" 1
  c_is_among : FnQ P w K mg base cf k "is_among" 3
  c_is_row : FnQ P w K mg base cf k "is_row" 3
  c_is_light_of : FnQ P w K mg base cf k "is_light_of" 3
  c_is_sky : FnQ P w K mg base cf k "is_sky" 1
  c_need_sky : FnQ P w K mg base cf k "need_sky" 1
  c_stands_by : FnQ P w K mg base cf k "stands_by" 3
  c_is_back : FnQ P w K mg base cf k "is_back" 3
  c_round_of : FnQ P w K mg base cf k "round_of" 1
  c_half_of : FnQ P w K mg base cf k "half_of" 1
  c_is_cell : FnQ P w K mg base cf k "is_cell" 2
  c_up_by : FnQ P w K mg base cf k "up_by" 5
  c_is_part : FnQ P w K mg base cf k "is_part" 2
  c_need_report : FnQ P w K mg base cf k "need_report" 2
  c_places_of : FnQ P w K mg base cf k "places_of" 1
  c_all_views : FnQ P w K mg base cf k "all_views" 1
  c_so_at : FnQ P w K mg base cf k "so_at" 3
  c_lots_so : FnQ P w K mg base cf k "lots_so" 2
  c_lots_of : FnQ P w K mg base cf k "lots_of" 1
  c_are_apart : FnQ P w K mg base cf k "are_apart" 2
  c_led_back : FnQ P w K mg base cf k "led_back" 2
  c__law_cell_at : FnQ P w K mg base cf k "_law_cell_at" 2
  c__law_pen : FnQ P w K mg base cf k "_law_pen" 1
  c__law_draw : FnQ P w K mg base cf k "_law_draw" 2
  c__law_pick : FnQ P w K mg base cf k "_law_pick" 2
  c__law_sky : FnQ P w K mg base cf k "_law_sky" 2
  c__law_gcd : FnQ P w K mg base cf k "_law_gcd" 2
  c__law_round : FnQ P w K mg base cf k "_law_round" 1
  c__law_cell : FnQ P w K mg base cf k "_law_cell" 3
  c__law_places : FnQ P w K mg base cf k "_law_places" 1
  c__law_views : FnQ P w K mg base cf k "_law_views" 2
  c__law_view : FnQ P w K mg base cf k "_law_view" 2
  c__law_any_cell : FnQ P w K mg base cf k "_law_any_cell" 2
  c__law_report : FnQ P w K mg base cf k "_law_report" 4
  c__law_lots : FnQ P w K mg base cf k "_law_lots" 1
  c__law_least_bar : FnQ P w K mg base cf k "_law_least_bar" 2
  c_law : FnQ P w K mg base cf k "law" 1
section
variable {P : Program} {w : World} {K : PySem.W.Frag} {mg : Str → Option Value} {base : Heap} {cf : CF} {k : Nat} {f : Addr} {cdv : Value} {A : Around} {outer : List Env} {s : Shared} {H : Hp} {E : XK}
theorem nd_is_whole : (["thing"] : List Str).Nodup := by decide +kernel
theorem sc_is_whole : FnScope ["thing"] ["thing"] (defScope s_is_whole) := ⟨rfl, rfl, rfl, nd_is_whole, rfl, by decide +kernel, by decide +kernel⟩
theorem ok_is_whole (g : GL K mg) (C : CL P w K mg base cf k) (hA : A.guards = some []) (hr : Room k (A.deeper (envOfC "is_whole" (defScope s_is_whole) s.heap.objs.size f cdv))) :
    MSs (cxOf (L2.CX P w) P w K mg base ["thing"] "is_whole" (defScope s_is_whole) f cdv A outer s H E) cf (fun c d _ H => E c d H) (defBody s_is_whole) F_is_whole :=
  have nd := nd_is_whole
  have tk : Takes (cxOf (L2.CX P w) P w K mg base ["thing"] "is_whole" (defScope s_is_whole) f cdv A outer s H E) (fun c d _ H => E c d H) := takes_of rfl rfl rfl rfl
  (mss_one (ms_ret (me_and (me_isi (T := "int") (by decide) (by rfl) g.f_isinstance (me_var (pv 0)) (pe_bltn (by rfl) g.f_int (by decide +kernel) rfl)) (me_one (me_not (me_isi (T := "bool") (by decide) (by rfl) g.f_isinstance (me_var (pv 0)) (pe_bltn (by rfl) g.f_bool (by decide +kernel) rfl)))))))
theorem nd_is_among : (["thing", "low", "high"] : List Str).Nodup := by decide +kernel
theorem sc_is_among : FnScope ["thing", "low", "high"] ["thing", "low", "high"] (defScope s_is_among) := ⟨rfl, rfl, rfl, nd_is_among, rfl, by decide +kernel, by decide +kernel⟩
theorem ok_is_among (g : GL K mg) (C : CL P w K mg base cf k) (hA : A.guards = some []) (hr : Room k (A.deeper (envOfC "is_among" (defScope s_is_among) s.heap.objs.size f cdv))) :
    MSs (cxOf (L2.CX P w) P w K mg base ["thing", "low", "high"] "is_among" (defScope s_is_among) f cdv A outer s H E) cf (fun c d _ H => E c d H) (defBody s_is_among) F_is_among :=
  have nd := nd_is_among
  have tk : Takes (cxOf (L2.CX P w) P w K mg base ["thing", "low", "high"] "is_among" (defScope s_is_among) f cdv A outer s H E) (fun c d _ H => E c d H) := takes_of rfl rfl rfl rfl
  (mss_one (ms_ret (me_and (me_call C.c_is_whole hA hr tk (by rfl) (ma_cons (me_var (pv 0)) ma_nil)) (me_one (me_chain cm_le cm_le (me_var (pv 1)) (me_var (pv 0)) (me_var (pv 2)))))))
theorem nd_is_row : (["thing", "low", "high"] : List Str).Nodup := by decide +kernel
theorem sc_is_row : FnScope ["thing", "low", "high"] ["thing", "low", "high"] (defScope s_is_row) := ⟨rfl, rfl, rfl, nd_is_row, rfl, by decide +kernel, by decide +kernel⟩
theorem ok_is_row (g : GL K mg) (C : CL P w K mg base cf k) (hA : A.guards = some []) (hr : Room k (A.deeper (envOfC "is_row" (defScope s_is_row) s.heap.objs.size f cdv))) :
    MSs (cxOf (L2.CX P w) P w K mg base ["thing", "low", "high"] "is_row" (defScope s_is_row) f cdv A outer s H E) cf (fun c d _ H => E c d H) (defBody s_is_row) F_is_row :=
  have nd := nd_is_row
  have tk : Takes (cxOf (L2.CX P w) P w K mg base ["thing", "low", "high"] "is_row" (defScope s_is_row) f cdv A outer s H E) (fun c d _ H => E c d H) := takes_of rfl rfl rfl rfl
  (mss_one (ms_ret (me_and (me_isi (T := "tuple") (by decide) (by rfl) g.f_isinstance (me_var (pv 0)) (pe_bltn (by rfl) g.f_tuple (by decide +kernel) rfl)) (me_one (me_chain cm_le cm_le (me_var (pv 1)) (me_len (by rfl) g.f_len (ma_cons (me_var (pv 0)) ma_nil)) (me_var (pv 2)))))))
theorem nd_is_light_of : (["thing", "wide", "high", "row"] : List Str).Nodup := by decide +kernel
theorem sc_is_light_of : FnScope ["thing", "wide", "high", "row"] ["thing", "wide", "high"] (defScope s_is_light_of) := ⟨rfl, rfl, rfl, nd_is_light_of, rfl, by decide +kernel, by decide +kernel⟩
theorem ok_is_light_of (g : GL K mg) (C : CL P w K mg base cf k) (hA : A.guards = some []) (hr : Room k (A.deeper (envOfC "is_light_of" (defScope s_is_light_of) s.heap.objs.size f cdv))) :
    MSs (cxOf (L2.CX P w) P w K mg base ["thing", "wide", "high", "row"] "is_light_of" (defScope s_is_light_of) f cdv A outer s H E) cf (fun c d _ H => E c d H) (defBody s_is_light_of) F_is_light_of :=
  have nd := nd_is_light_of
  have tk : Takes (cxOf (L2.CX P w) P w K mg base ["thing", "wide", "high", "row"] "is_light_of" (defScope s_is_light_of) f cdv A outer s H E) (fun c d _ H => E c d H) := takes_of rfl rfl rfl rfl
  (mss_cons (ms_if (mt_w (mw_or (mt_not (mt_val (me_call C.c_is_row hA hr tk (by rfl) (ma_cons (me_var (pv 0)) (ma_cons me_int (ma_cons me_int ma_nil)))))) (mw_or1 (mt_not (mt_val (me_call C.c_is_among hA hr tk (by rfl) (ma_cons (me_at (me_var (pv 0)) me_int) (ma_cons me_int (ma_cons (me_sub (me_var (pv 1)) me_int) ma_nil)))))))))
  (mss_one (ms_ret me_bl))
  mss_nil)
  (mss_cons (ms_if (mt_w (mw_or (mt_not (mt_val (me_call C.c_is_among hA hr tk (by rfl) (ma_cons (me_at (me_var (pv 0)) me_int) (ma_cons (me_neg (me_globI (by rfl) g.i_MOST_SPEED)) (ma_cons (me_globI (by rfl) g.i_MOST_SPEED) ma_nil)))))) (mw_or1 (mt_not (mt_val (me_call C.c_is_row hA hr tk (by rfl) (ma_cons (me_at (me_var (pv 0)) me_int) (ma_cons me_int (ma_cons (me_globI (by rfl) g.i_MOST_ROWS) ma_nil)))))))))
  (mss_one (ms_ret me_bl))
  mss_nil)
  (mss_one (ms_ret (me_all rfl (by rfl) g.f_all (ma_cons (me_comp (own := [("row", 3)]) rfl nd (mi_seq (me_at (me_var (pv 0)) me_int)) (blkOk_by (N := ["thing", "wide", "high", "row"]) (sc := defScope s_is_light_of) (own := [("row", 3)]) (by decide +kernel)) (by decide) (fun _ _ _ _ _ => (mg_name (i := 3) nd rfl (by first | exact Or.inl rfl | exact Or.inr rfl))) (fun _ _ _ _ _ => mts_nil) (fun _ _ _ _ _ => (me_call C.c_is_among hA hr takes0 (by rfl) (ma_cons (me_var (pv 3)) (ma_cons me_int (ma_cons (me_sub (me_var (pv 2)) me_int) ma_nil)))))) ma_nil))))))
theorem nd_is_sky : (["thing", "light"] : List Str).Nodup := by decide +kernel
theorem sc_is_sky : FnScope ["thing", "light"] ["thing"] (defScope s_is_sky) := ⟨rfl, rfl, rfl, nd_is_sky, rfl, by decide +kernel, by decide +kernel⟩
theorem ok_is_sky (g : GL K mg) (C : CL P w K mg base cf k) (hA : A.guards = some []) (hr : Room k (A.deeper (envOfC "is_sky" (defScope s_is_sky) s.heap.objs.size f cdv))) :
    MSs (cxOf (L2.CX P w) P w K mg base ["thing", "light"] "is_sky" (defScope s_is_sky) f cdv A outer s H E) cf (fun c d _ H => E c d H) (defBody s_is_sky) F_is_sky :=
  have nd := nd_is_sky
  have tk : Takes (cxOf (L2.CX P w) P w K mg base ["thing", "light"] "is_sky" (defScope s_is_sky) f cdv A outer s H E) (fun c d _ H => E c d H) := takes_of rfl rfl rfl rfl
  (mss_cons (ms_if (mt_w (mw_or (mt_not (mt_val (me_call C.c_is_row hA hr tk (by rfl) (ma_cons (me_var (pv 0)) (ma_cons me_int (ma_cons me_int ma_nil)))))) (mw_or1 (mt_not (mt_val (me_call C.c_is_among hA hr tk (by rfl) (ma_cons (me_at (me_var (pv 0)) me_int) (ma_cons (me_globI (by rfl) g.i_LEAST_WIDE) (ma_cons (me_globI (by rfl) g.i_MOST_WIDE) ma_nil)))))))))
  (mss_one (ms_ret me_bl))
  mss_nil)
  (mss_cons (ms_if (mt_w (mw_or (mt_not (mt_val (me_call C.c_is_among hA hr tk (by rfl) (ma_cons (me_at (me_var (pv 0)) me_int) (ma_cons me_int (ma_cons (me_globI (by rfl) g.i_MOST_HIGH) ma_nil)))))) (mw_or1 (mt_not (mt_val (me_call C.c_is_row hA hr tk (by rfl) (ma_cons (me_at (me_var (pv 0)) me_int) (ma_cons me_int (ma_cons (me_globI (by rfl) g.i_MOST_LIGHTS) ma_nil)))))))))
  (mss_one (ms_ret me_bl))
  mss_nil)
  (mss_one (ms_ret (me_all rfl (by rfl) g.f_all (ma_cons (me_comp (own := [("light", 1)]) rfl nd (mi_seq (me_at (me_var (pv 0)) me_int)) (blkOk_by (N := ["thing", "light"]) (sc := defScope s_is_sky) (own := [("light", 1)]) (by decide +kernel)) (by decide) (fun _ _ _ _ _ => (mg_name (i := 1) nd rfl (by first | exact Or.inl rfl | exact Or.inr rfl))) (fun _ _ _ _ _ => mts_nil) (fun _ _ _ _ _ => (me_call C.c_is_light_of hA hr takes0 (by rfl) (ma_cons (me_var (pv 1)) (ma_cons (me_at (me_var (pv 0)) me_int) (ma_cons (me_at (me_var (pv 0)) me_int) ma_nil)))))) ma_nil))))))
theorem nd_need_sky : (["thing"] : List Str).Nodup := by decide +kernel
theorem sc_need_sky : FnScope ["thing"] ["thing"] (defScope s_need_sky) := ⟨rfl, rfl, rfl, nd_need_sky, rfl, by decide +kernel, by decide +kernel⟩
theorem ok_need_sky (g : GL K mg) (C : CL P w K mg base cf k) (hA : A.guards = some []) (hr : Room k (A.deeper (envOfC "need_sky" (defScope s_need_sky) s.heap.objs.size f cdv))) :
    MSs (cxOf (L2.CX P w) P w K mg base ["thing"] "need_sky" (defScope s_need_sky) f cdv A outer s H E) cf (fun c d _ H => E c d H) (defBody s_need_sky) F_need_sky :=
  have nd := nd_need_sky
  have tk : Takes (cxOf (L2.CX P w) P w K mg base ["thing"] "need_sky" (defScope s_need_sky) f cdv A outer s H E) (fun c d _ H => E c d H) := takes_of rfl rfl rfl rfl
  (mss_one (ms_if (mt_not (mt_val (me_call C.c_is_sky hA hr tk (by rfl) (ma_cons (me_var (pv 0)) ma_nil))))
  (mss_one (ms_raise g.x_NoSky rfl tk (by rfl)))
  mss_nil))
theorem nd_stands_by : (["sky", "light", "moment", "wide", "high", "lights", "column", "speed", "rows"] : List Str).Nodup := by decide +kernel
theorem sc_stands_by : FnScope ["sky", "light", "moment", "wide", "high", "lights", "column", "speed", "rows"] ["sky", "light", "moment"] (defScope s_stands_by) := ⟨rfl, rfl, rfl, nd_stands_by, rfl, by decide +kernel, by decide +kernel⟩
theorem ok_stands_by (g : GL K mg) (C : CL P w K mg base cf k) (hA : A.guards = some []) (hr : Room k (A.deeper (envOfC "stands_by" (defScope s_stands_by) s.heap.objs.size f cdv))) :
    MSs (cxOf (L2.CX P w) P w K mg base ["sky", "light", "moment", "wide", "high", "lights", "column", "speed", "rows"] "stands_by" (defScope s_stands_by) f cdv A outer s H E) cf (fun c d _ H => E c d H) (defBody s_stands_by) F_stands_by :=
  have nd := nd_stands_by
  have tk : Takes (cxOf (L2.CX P w) P w K mg base ["sky", "light", "moment", "wide", "high", "lights", "column", "speed", "rows"] "stands_by" (defScope s_stands_by) f cdv A outer s H E) (fun c d _ H => E c d H) := takes_of rfl rfl rfl rfl
  (mss_cons (ms_unp (me_var (pv 0)) (mg_names rfl (mgs_cons (mg_name (i := 3) nd rfl (by first | exact Or.inl rfl | exact Or.inr rfl)) (mgs_cons (mg_name (i := 4) nd rfl (by first | exact Or.inl rfl | exact Or.inr rfl)) (mgs_cons (mg_name (i := 5) nd rfl (by first | exact Or.inl rfl | exact Or.inr rfl)) mgs_nil)))))
  (mss_cons (ms_unp (me_at (me_var (pv 5)) (me_var (pv 1))) (mg_names rfl (mgs_cons (mg_name (i := 6) nd rfl (by first | exact Or.inl rfl | exact Or.inr rfl)) (mgs_cons (mg_name (i := 7) nd rfl (by first | exact Or.inl rfl | exact Or.inr rfl)) (mgs_cons (mg_name (i := 8) nd rfl (by first | exact Or.inl rfl | exact Or.inr rfl)) mgs_nil)))))
  (mss_one (ms_ret (me_tup (ma_cons (me_mod (me_add (me_var (pv 6)) (me_mul (me_var (pv 7)) (me_var (pv 2)))) (me_var (pv 3))) (ma_cons (me_at (me_var (pv 8)) (me_mod (me_var (pv 2)) (me_len (by rfl) g.f_len (ma_cons (me_var (pv 8)) ma_nil)))) ma_nil)))))))
theorem nd_is_back : (["light", "wide", "many", "column", "speed", "rows", "number", "row"] : List Str).Nodup := by decide +kernel
theorem sc_is_back : FnScope ["light", "wide", "many", "column", "speed", "rows", "number", "row"] ["light", "wide", "many"] (defScope s_is_back) := ⟨rfl, rfl, rfl, nd_is_back, rfl, by decide +kernel, by decide +kernel⟩
theorem ok_is_back (g : GL K mg) (C : CL P w K mg base cf k) (hA : A.guards = some []) (hr : Room k (A.deeper (envOfC "is_back" (defScope s_is_back) s.heap.objs.size f cdv))) :
    MSs (cxOf (L2.CX P w) P w K mg base ["light", "wide", "many", "column", "speed", "rows", "number", "row"] "is_back" (defScope s_is_back) f cdv A outer s H E) cf (fun c d _ H => E c d H) (defBody s_is_back) F_is_back :=
  have nd := nd_is_back
  have tk : Takes (cxOf (L2.CX P w) P w K mg base ["light", "wide", "many", "column", "speed", "rows", "number", "row"] "is_back" (defScope s_is_back) f cdv A outer s H E) (fun c d _ H => E c d H) := takes_of rfl rfl rfl rfl
  (mss_cons (ms_unp (me_var (pv 0)) (mg_names rfl (mgs_cons (mg_name (i := 3) nd rfl (by first | exact Or.inl rfl | exact Or.inr rfl)) (mgs_cons (mg_name (i := 4) nd rfl (by first | exact Or.inl rfl | exact Or.inr rfl)) (mgs_cons (mg_name (i := 5) nd rfl (by first | exact Or.inl rfl | exact Or.inr rfl)) mgs_nil)))))
  (mss_cons (ms_if (mt_c (cm_ne hr) (me_mod (me_mul (me_var (pv 4)) (me_var (pv 2))) (me_var (pv 1))) me_int (by rfl))
  (mss_one (ms_ret me_bl))
  mss_nil)
  (mss_one (ms_ret (me_all rfl (by rfl) g.f_all (ma_cons (me_comp (own := [("number", 6), ("row", 7)]) rfl nd (mi_enum (by rfl) g.f_enumerate (ma_cons (me_var (pv 5)) ma_nil)) (blkOk_by (N := ["light", "wide", "many", "column", "speed", "rows", "number", "row"]) (sc := defScope s_is_back) (own := [("number", 6), ("row", 7)]) (by decide +kernel)) (by decide) (fun _ _ _ _ _ => (mg_names rfl (mgs_cons (mg_name (i := 6) nd rfl (by first | exact Or.inl rfl | exact Or.inr rfl)) (mgs_cons (mg_name (i := 7) nd rfl (by first | exact Or.inl rfl | exact Or.inr rfl)) mgs_nil)))) (fun _ _ _ _ _ => mts_nil) (fun _ _ _ _ _ => (me_c (cm_eq hr) (me_at (me_var (pv 5)) (me_mod (me_add (me_var (pv 6)) (me_var (pv 2))) (me_len (by rfl) g.f_len (ma_cons (me_var (pv 5)) ma_nil)))) (me_var (pv 7)) (by rfl)))) ma_nil))))))
theorem nd_round_of : (["sky", "wide", "high", "lights", "many", "light"] : List Str).Nodup := by decide +kernel
theorem sc_round_of : FnScope ["sky", "wide", "high", "lights", "many", "light"] ["sky"] (defScope s_round_of) := ⟨rfl, rfl, rfl, nd_round_of, rfl, by decide +kernel, by decide +kernel⟩
theorem ok_round_of (g : GL K mg) (C : CL P w K mg base cf k) (hA : A.guards = some []) (hr : Room k (A.deeper (envOfC "round_of" (defScope s_round_of) s.heap.objs.size f cdv))) :
    MSs (cxOf (L2.CX P w) P w K mg base ["sky", "wide", "high", "lights", "many", "light"] "round_of" (defScope s_round_of) f cdv A outer s H E) cf (fun c d _ H => E c d H) (defBody s_round_of) F_round_of :=
  have nd := nd_round_of
  have tk : Takes (cxOf (L2.CX P w) P w K mg base ["sky", "wide", "high", "lights", "many", "light"] "round_of" (defScope s_round_of) f cdv A outer s H E) (fun c d _ H => E c d H) := takes_of rfl rfl rfl rfl
  (mss_cons (ms_expr (me_call C.c_need_sky hA hr tk (by rfl) (ma_cons (me_var (pv 0)) ma_nil)))
  (mss_cons (ms_unp (me_var (pv 0)) (mg_names rfl (mgs_cons (mg_name (i := 1) nd rfl (by first | exact Or.inl rfl | exact Or.inr rfl)) (mgs_cons (mg_name (i := 2) nd rfl (by first | exact Or.inl rfl | exact Or.inr rfl)) (mgs_cons (mg_name (i := 3) nd rfl (by first | exact Or.inl rfl | exact Or.inr rfl)) mgs_nil)))))
  (mss_cons (ms_set (i := 4) nd rfl (by first | exact Or.inl rfl | exact Or.inr rfl) me_int)
  (mss_cons (ms_while (passes_of rfl) (mt_not (mt_val (me_all rfl (by rfl) g.f_all (ma_cons (me_comp (own := [("light", 5)]) rfl nd (mi_seq (me_var (pv 3))) (blkOk_by (N := ["sky", "wide", "high", "lights", "many", "light"]) (sc := defScope s_round_of) (own := [("light", 5)]) (by decide +kernel)) (by decide) (fun _ _ _ _ _ => (mg_name (i := 5) nd rfl (by first | exact Or.inl rfl | exact Or.inr rfl))) (fun _ _ _ _ _ => mts_nil) (fun _ _ _ _ _ => (me_call C.c_is_back hA hr takes0 (by rfl) (ma_cons (me_var (pv 5)) (ma_cons (me_var (pv 1)) (ma_cons (me_var (pv 4)) ma_nil)))))) ma_nil))))
  (mss_one (ms_augAdd (i := 4) nd rfl (by first | exact Or.inl rfl | exact Or.inr rfl) me_int)))
  (mss_one (ms_ret (me_var (pv 4))))))))
theorem nd_half_of : (["sky"] : List Str).Nodup := by decide +kernel
theorem sc_half_of : FnScope ["sky"] ["sky"] (defScope s_half_of) := ⟨rfl, rfl, rfl, nd_half_of, rfl, by decide +kernel, by decide +kernel⟩
theorem ok_half_of (g : GL K mg) (C : CL P w K mg base cf k) (hA : A.guards = some []) (hr : Room k (A.deeper (envOfC "half_of" (defScope s_half_of) s.heap.objs.size f cdv))) :
    MSs (cxOf (L2.CX P w) P w K mg base ["sky"] "half_of" (defScope s_half_of) f cdv A outer s H E) cf (fun c d _ H => E c d H) (defBody s_half_of) F_half_of :=
  have nd := nd_half_of
  have tk : Takes (cxOf (L2.CX P w) P w K mg base ["sky"] "half_of" (defScope s_half_of) f cdv A outer s H E) (fun c d _ H => E c d H) := takes_of rfl rfl rfl rfl
  (mss_one (ms_ret (me_div (me_at (me_var (pv 0)) me_int) me_int)))
theorem nd_is_cell : (["sky", "thing"] : List Str).Nodup := by decide +kernel
theorem sc_is_cell : FnScope ["sky", "thing"] ["sky", "thing"] (defScope s_is_cell) := ⟨rfl, rfl, rfl, nd_is_cell, rfl, by decide +kernel, by decide +kernel⟩
theorem ok_is_cell (g : GL K mg) (C : CL P w K mg base cf k) (hA : A.guards = some []) (hr : Room k (A.deeper (envOfC "is_cell" (defScope s_is_cell) s.heap.objs.size f cdv))) :
    MSs (cxOf (L2.CX P w) P w K mg base ["sky", "thing"] "is_cell" (defScope s_is_cell) f cdv A outer s H E) cf (fun c d _ H => E c d H) (defBody s_is_cell) F_is_cell :=
  have nd := nd_is_cell
  have tk : Takes (cxOf (L2.CX P w) P w K mg base ["sky", "thing"] "is_cell" (defScope s_is_cell) f cdv A outer s H E) (fun c d _ H => E c d H) := takes_of rfl rfl rfl rfl
  (mss_one (ms_ret (me_and (me_call C.c_is_row hA hr tk (by rfl) (ma_cons (me_var (pv 1)) (ma_cons me_int (ma_cons me_int ma_nil)))) (me_and (me_call C.c_is_among hA hr tk (by rfl) (ma_cons (me_at (me_var (pv 1)) me_int) (ma_cons me_int (ma_cons (me_sub (me_call C.c_half_of hA hr tk (by rfl) (ma_cons (me_var (pv 0)) ma_nil)) me_int) ma_nil)))) (me_one (me_call C.c_is_among hA hr tk (by rfl) (ma_cons (me_at (me_var (pv 1)) me_int) (ma_cons me_int (ma_cons (me_sub (me_at (me_var (pv 0)) me_int) me_int) ma_nil)))))))))
theorem nd_up_by : (["sky", "light", "east", "north", "moment", "column", "row", "cell"] : List Str).Nodup := by decide +kernel
theorem sc_up_by : FnScope ["sky", "light", "east", "north", "moment", "column", "row", "cell"] ["sky", "light", "east", "north", "moment"] (defScope s_up_by) := ⟨rfl, rfl, rfl, nd_up_by, rfl, by decide +kernel, by decide +kernel⟩
theorem ok_up_by (g : GL K mg) (C : CL P w K mg base cf k) (hA : A.guards = some []) (hr : Room k (A.deeper (envOfC "up_by" (defScope s_up_by) s.heap.objs.size f cdv))) :
    MSs (cxOf (L2.CX P w) P w K mg base ["sky", "light", "east", "north", "moment", "column", "row", "cell"] "up_by" (defScope s_up_by) f cdv A outer s H E) cf (fun c d _ H => E c d H) (defBody s_up_by) F_up_by :=
  have nd := nd_up_by
  have tk : Takes (cxOf (L2.CX P w) P w K mg base ["sky", "light", "east", "north", "moment", "column", "row", "cell"] "up_by" (defScope s_up_by) f cdv A outer s H E) (fun c d _ H => E c d H) := takes_of rfl rfl rfl rfl
  (mss_cons (ms_unp (me_call C.c_stands_by hA hr tk (by rfl) (ma_cons (me_var (pv 0)) (ma_cons (me_var (pv 1)) (ma_cons (me_var (pv 4)) ma_nil)))) (mg_names rfl (mgs_cons (mg_name (i := 5) nd rfl (by first | exact Or.inl rfl | exact Or.inr rfl)) (mgs_cons (mg_name (i := 6) nd rfl (by first | exact Or.inl rfl | exact Or.inr rfl)) mgs_nil))))
  (mss_cons (ms_set (i := 7) nd rfl (by first | exact Or.inl rfl | exact Or.inr rfl) (me_tup (ma_cons (me_mod (me_add (me_var (pv 5)) (me_var (pv 2))) (me_at (me_var (pv 0)) me_int)) (ma_cons (me_add (me_var (pv 6)) (me_var (pv 3))) ma_nil))))
  (mss_one (ms_ret (me_if (mt_val (me_call C.c_is_cell hA hr tk (by rfl) (ma_cons (me_var (pv 0)) (ma_cons (me_var (pv 7)) ma_nil)))) (me_var (pv 7)) me_non)))))
theorem nd_is_part : (["sky", "thing"] : List Str).Nodup := by decide +kernel
theorem sc_is_part : FnScope ["sky", "thing"] ["sky", "thing"] (defScope s_is_part) := ⟨rfl, rfl, rfl, nd_is_part, rfl, by decide +kernel, by decide +kernel⟩
theorem ok_is_part (g : GL K mg) (C : CL P w K mg base cf k) (hA : A.guards = some []) (hr : Room k (A.deeper (envOfC "is_part" (defScope s_is_part) s.heap.objs.size f cdv))) :
    MSs (cxOf (L2.CX P w) P w K mg base ["sky", "thing"] "is_part" (defScope s_is_part) f cdv A outer s H E) cf (fun c d _ H => E c d H) (defBody s_is_part) F_is_part :=
  have nd := nd_is_part
  have tk : Takes (cxOf (L2.CX P w) P w K mg base ["sky", "thing"] "is_part" (defScope s_is_part) f cdv A outer s H E) (fun c d _ H => E c d H) := takes_of rfl rfl rfl rfl
  (mss_cons (ms_if (mt_w (mw_or (mt_not (mt_val (me_call C.c_is_row hA hr tk (by rfl) (ma_cons (me_var (pv 1)) (ma_cons me_int (ma_cons me_int ma_nil)))))) (mw_or1 (mt_not (mt_val (me_call C.c_is_among hA hr tk (by rfl) (ma_cons (me_at (me_var (pv 1)) me_int) (ma_cons me_int (ma_cons (me_sub (me_len (by rfl) g.f_len (ma_cons (me_at (me_var (pv 0)) me_int) ma_nil)) me_int) ma_nil)))))))))
  (mss_one (ms_ret me_bl))
  mss_nil)
  (mss_one (ms_ret (me_or (me_isN (me_at (me_var (pv 1)) me_int)) (me_one (me_call C.c_is_cell hA hr tk (by rfl) (ma_cons (me_var (pv 0)) (ma_cons (me_at (me_var (pv 1)) me_int) ma_nil))))))))
theorem nd_need_report : (["sky", "thing", "part"] : List Str).Nodup := by decide +kernel
theorem sc_need_report : FnScope ["sky", "thing", "part"] ["sky", "thing"] (defScope s_need_report) := ⟨rfl, rfl, rfl, nd_need_report, rfl, by decide +kernel, by decide +kernel⟩
theorem ok_need_report (g : GL K mg) (C : CL P w K mg base cf k) (hA : A.guards = some []) (hr : Room k (A.deeper (envOfC "need_report" (defScope s_need_report) s.heap.objs.size f cdv))) :
    MSs (cxOf (L2.CX P w) P w K mg base ["sky", "thing", "part"] "need_report" (defScope s_need_report) f cdv A outer s H E) cf (fun c d _ H => E c d H) (defBody s_need_report) F_need_report :=
  have nd := nd_need_report
  have tk : Takes (cxOf (L2.CX P w) P w K mg base ["sky", "thing", "part"] "need_report" (defScope s_need_report) f cdv A outer s H E) (fun c d _ H => E c d H) := takes_of rfl rfl rfl rfl
  (mss_cons (ms_expr (me_call C.c_need_sky hA hr tk (by rfl) (ma_cons (me_var (pv 0)) ma_nil)))
  (mss_one (ms_if (mt_w (mw_or (mt_not (mt_val (me_call C.c_is_row hA hr tk (by rfl) (ma_cons (me_var (pv 1)) (ma_cons me_int (ma_cons (me_globI (by rfl) g.i_MOST_PARTS) ma_nil)))))) (mw_or1 (mt_not (mt_val (me_all rfl (by rfl) g.f_all (ma_cons (me_comp (own := [("part", 2)]) rfl nd (mi_seq (me_var (pv 1))) (blkOk_by (N := ["sky", "thing", "part"]) (sc := defScope s_need_report) (own := [("part", 2)]) (by decide +kernel)) (by decide) (fun _ _ _ _ _ => (mg_name (i := 2) nd rfl (by first | exact Or.inl rfl | exact Or.inr rfl))) (fun _ _ _ _ _ => mts_nil) (fun _ _ _ _ _ => (me_call C.c_is_part hA hr takes0 (by rfl) (ma_cons (me_var (pv 0)) (ma_cons (me_var (pv 2)) ma_nil))))) ma_nil)))))))
  (mss_one (ms_raise g.x_NoReport rfl tk (by rfl)))
  mss_nil)))
theorem nd_places_of : (["sky", "wide", "high", "lights", "east", "north"] : List Str).Nodup := by decide +kernel
theorem sc_places_of : FnScope ["sky", "wide", "high", "lights", "east", "north"] ["sky"] (defScope s_places_of) := ⟨rfl, rfl, rfl, nd_places_of, rfl, by decide +kernel, by decide +kernel⟩
theorem ok_places_of (g : GL K mg) (C : CL P w K mg base cf k) (hA : A.guards = some []) (hr : Room k (A.deeper (envOfC "places_of" (defScope s_places_of) s.heap.objs.size f cdv))) :
    MSs (cxOf (L2.CX P w) P w K mg base ["sky", "wide", "high", "lights", "east", "north"] "places_of" (defScope s_places_of) f cdv A outer s H E) cf (fun c d _ H => E c d H) (defBody s_places_of) F_places_of :=
  have nd := nd_places_of
  have tk : Takes (cxOf (L2.CX P w) P w K mg base ["sky", "wide", "high", "lights", "east", "north"] "places_of" (defScope s_places_of) f cdv A outer s H E) (fun c d _ H => E c d H) := takes_of rfl rfl rfl rfl
  (mss_cons (ms_unp (me_var (pv 0)) (mg_names rfl (mgs_cons (mg_name (i := 1) nd rfl (by first | exact Or.inl rfl | exact Or.inr rfl)) (mgs_cons (mg_name (i := 2) nd rfl (by first | exact Or.inl rfl | exact Or.inr rfl)) (mgs_cons (mg_name (i := 3) nd rfl (by first | exact Or.inl rfl | exact Or.inr rfl)) mgs_nil)))))
  (mss_one (ms_ret (me_comp2 (own := [("east", 4), ("north", 5)]) (vs1 := [5]) rfl nd (mi_range1 (by rfl) g.f_range (ma_cons (me_var (pv 1)) ma_nil)) (blkOk_by (N := ["sky", "wide", "high", "lights", "east", "north"]) (sc := defScope s_places_of) (own := [("east", 4), ("north", 5)]) (by decide +kernel)) (by decide) (by decide) (by decide) (fun _ _ _ _ _ => (mg_name (i := 4) nd rfl (by first | exact Or.inl rfl | exact Or.inr rfl))) (fun _ _ _ _ _ => mts_nil) (fun _ _ _ _ _ => (mi_range2 (by rfl) g.f_range (ma_cons (me_neg (me_var (pv 2))) (ma_cons (me_add (me_var (pv 2)) me_int) ma_nil)))) (fun _ _ _ _ _ => (mg_name (i := 5) nd rfl (by first | exact Or.inl rfl | exact Or.inr rfl))) (fun _ _ _ _ _ => mts_nil) (fun _ _ _ _ _ => (me_tup (ma_cons (me_var (pv 4)) (ma_cons (me_var (pv 5)) ma_nil))))))))
theorem nd_all_views : (["sky", "places", "moment", "place"] : List Str).Nodup := by decide +kernel
theorem sc_all_views : FnScope ["sky", "places", "moment", "place"] ["sky"] (defScope s_all_views) := ⟨rfl, rfl, rfl, nd_all_views, rfl, by decide +kernel, by decide +kernel⟩
theorem ok_all_views (g : GL K mg) (C : CL P w K mg base cf k) (hA : A.guards = some []) (hr : Room k (A.deeper (envOfC "all_views" (defScope s_all_views) s.heap.objs.size f cdv))) :
    MSs (cxOf (L2.CX P w) P w K mg base ["sky", "places", "moment", "place"] "all_views" (defScope s_all_views) f cdv A outer s H E) cf (fun c d _ H => E c d H) (defBody s_all_views) F_all_views :=
  have nd := nd_all_views
  have tk : Takes (cxOf (L2.CX P w) P w K mg base ["sky", "places", "moment", "place"] "all_views" (defScope s_all_views) f cdv A outer s H E) (fun c d _ H => E c d H) := takes_of rfl rfl rfl rfl
  (mss_cons (ms_set (i := 1) nd rfl (by first | exact Or.inl rfl | exact Or.inr rfl) (me_call C.c_places_of hA hr tk (by rfl) (ma_cons (me_var (pv 0)) ma_nil)))
  (mss_one (ms_ret (me_comp2 (own := [("moment", 2), ("place", 3)]) (vs1 := [3]) rfl nd (mi_range1 (by rfl) g.f_range (ma_cons (me_call C.c_round_of hA hr tk (by rfl) (ma_cons (me_var (pv 0)) ma_nil)) ma_nil)) (blkOk_by (N := ["sky", "places", "moment", "place"]) (sc := defScope s_all_views) (own := [("moment", 2), ("place", 3)]) (by decide +kernel)) (by decide) (by decide) (by decide) (fun _ _ _ _ _ => (mg_name (i := 2) nd rfl (by first | exact Or.inl rfl | exact Or.inr rfl))) (fun _ _ _ _ _ => mts_nil) (fun _ _ _ _ _ => (mi_seq (me_var (pv 1)))) (fun _ _ _ _ _ => (mg_name (i := 3) nd rfl (by first | exact Or.inl rfl | exact Or.inr rfl))) (fun _ _ _ _ _ => mts_nil) (fun _ _ _ _ _ => (me_add (me_tup (ma_cons (me_var (pv 2)) ma_nil)) (me_var (pv 3))))))))
theorem nd_so_at : (["sky", "report", "view", "moment", "east", "north", "found", "light", "cell", "number", "own"] : List Str).Nodup := by decide +kernel
theorem sc_so_at : FnScope ["sky", "report", "view", "moment", "east", "north", "found", "light", "cell", "number", "own"] ["sky", "report", "view"] (defScope s_so_at) := ⟨rfl, rfl, rfl, nd_so_at, rfl, by decide +kernel, by decide +kernel⟩
theorem ok_so_at (g : GL K mg) (C : CL P w K mg base cf k) (hA : A.guards = some []) (hr : Room k (A.deeper (envOfC "so_at" (defScope s_so_at) s.heap.objs.size f cdv))) :
    MSs (cxOf (L2.CX P w) P w K mg base ["sky", "report", "view", "moment", "east", "north", "found", "light", "cell", "number", "own"] "so_at" (defScope s_so_at) f cdv A outer s H E) cf (fun c d _ H => E c d H) (defBody s_so_at) F_so_at :=
  have nd := nd_so_at
  have tk : Takes (cxOf (L2.CX P w) P w K mg base ["sky", "report", "view", "moment", "east", "north", "found", "light", "cell", "number", "own"] "so_at" (defScope s_so_at) f cdv A outer s H E) (fun c d _ H => E c d H) := takes_of rfl rfl rfl rfl
  (mss_cons (ms_unp (me_var (pv 2)) (mg_names rfl (mgs_cons (mg_name (i := 3) nd rfl (by first | exact Or.inl rfl | exact Or.inr rfl)) (mgs_cons (mg_name (i := 4) nd rfl (by first | exact Or.inl rfl | exact Or.inr rfl)) (mgs_cons (mg_name (i := 5) nd rfl (by first | exact Or.inl rfl | exact Or.inr rfl)) mgs_nil)))))
  (mss_cons (ms_setComp (i := 6) (own := [("light", 7), ("cell", 8)]) rfl nd rfl rfl (sw_true rfl rfl rfl (by decide +kernel)) (mi_seq (me_var (pv 1))) (blkOk_by (N := ["sky", "report", "view", "moment", "east", "north", "found", "light", "cell", "number", "own"]) (sc := defScope s_so_at) (own := [("light", 7), ("cell", 8)]) (by decide +kernel)) (by decide) (fun _ _ _ _ _ => (mg_names rfl (mgs_cons (mg_name (i := 7) nd rfl (by first | exact Or.inl rfl | exact Or.inr rfl)) (mgs_cons (mg_name (i := 8) nd rfl (by first | exact Or.inl rfl | exact Or.inr rfl)) mgs_nil)))) (fun _ _ _ _ _ => mts_nil) (fun _ _ _ _ _ => (me_c (cm_eq hr) (me_call C.c_up_by hA hr takes0 (by rfl) (ma_cons (me_var (pv 0)) (ma_cons (me_var (pv 7)) (ma_cons (me_var (pv 4)) (ma_cons (me_var (pv 5)) (ma_cons (me_var (pv 3)) ma_nil)))))) (me_var (pv 8)) (by rfl))))
  (mss_one (ms_ret (me_tuple (by rfl) g.f_tuple (ma_cons (me_comp (own := [("number", 9), ("own", 10)]) rfl nd (mi_enum (by rfl) g.f_enumerate (ma_cons (me_var (pv 6)) ma_nil)) (blkOk_by (N := ["sky", "report", "view", "moment", "east", "north", "found", "light", "cell", "number", "own"]) (sc := defScope s_so_at) (own := [("number", 9), ("own", 10)]) (by decide +kernel)) (by decide) (fun _ _ _ _ _ => (mg_names rfl (mgs_cons (mg_name (i := 9) nd rfl (by first | exact Or.inl rfl | exact Or.inr rfl)) (mgs_cons (mg_name (i := 10) nd rfl (by first | exact Or.inl rfl | exact Or.inr rfl)) mgs_nil)))) (fun _ _ _ _ _ => (mts_one (mt_val (me_var (pv 10))))) (fun _ _ _ _ _ => (me_var (pv 9)))) ma_nil))))))
theorem nd_lots_so : (["sky", "report", "found", "view"] : List Str).Nodup := by decide +kernel
theorem sc_lots_so : FnScope ["sky", "report", "found", "view"] ["sky", "report"] (defScope s_lots_so) := ⟨rfl, rfl, rfl, nd_lots_so, rfl, by decide +kernel, by decide +kernel⟩
theorem ok_lots_so (g : GL K mg) (C : CL P w K mg base cf k) (hA : A.guards = some []) (hr : Room k (A.deeper (envOfC "lots_so" (defScope s_lots_so) s.heap.objs.size f cdv))) :
    MSs (cxOf (L2.CX P w) P w K mg base ["sky", "report", "found", "view"] "lots_so" (defScope s_lots_so) f cdv A outer s H E) cf (fun c d _ H => E c d H) (defBody s_lots_so) F_lots_so :=
  have nd := nd_lots_so
  have tk : Takes (cxOf (L2.CX P w) P w K mg base ["sky", "report", "found", "view"] "lots_so" (defScope s_lots_so) f cdv A outer s H E) (fun c d _ H => E c d H) := takes_of rfl rfl rfl rfl
  (mss_cons (ms_set (i := 2) nd rfl (by first | exact Or.inl rfl | exact Or.inr rfl) me_newM)
  (mss_cons (ms_for (passes_of rfl) rfl (mi_seq (me_call C.c_all_views hA hr tk (by rfl) (ma_cons (me_var (pv 0)) ma_nil))) (mg_name (i := 3) nd rfl (by first | exact Or.inl rfl | exact Or.inr rfl))
  (mss_one (ms_expr (me_setdM hr (me_var (pv 2)) (me_call C.c_so_at hA hr tk (by rfl) (ma_cons (me_var (pv 0)) (ma_cons (me_var (pv 1)) (ma_cons (me_var (pv 3)) ma_nil)))) (me_var (pv 3))))))
  (mss_one (ms_ret (me_var (pv 2))))))
theorem nd_lots_of : (["many", "found", "number", "lot"] : List Str).Nodup := by decide +kernel
theorem sc_lots_of : FnScope ["many", "found", "number", "lot"] ["many"] (defScope s_lots_of) := ⟨rfl, rfl, rfl, nd_lots_of, rfl, by decide +kernel, by decide +kernel⟩
theorem ok_lots_of (g : GL K mg) (C : CL P w K mg base cf k) (tb : TBx K mg base "lots_of") (hcd : cdv = .ref (He.cT K (Str.ofString "lots_of", none)).1) (hA : A.guards = some []) (hr : Room k (A.deeper (envOfC "lots_of" (defScope s_lots_of) s.heap.objs.size f cdv))) :
    MSs (cxOf (L2.CX P w) P w K mg base ["many", "found", "number", "lot"] "lots_of" (defScope s_lots_of) f cdv A outer s H E) cf (fun c d _ H => E c d H) (defBody s_lots_of) F_lots_of :=
  have nd := nd_lots_of
  have tk : Takes (cxOf (L2.CX P w) P w K mg base ["many", "found", "number", "lot"] "lots_of" (defScope s_lots_of) f cdv A outer s H E) (fun c d _ H => E c d H) := takes_of rfl rfl rfl rfl
  (mss_cons (ms_set (i := 1) nd rfl (by first | exact Or.inl rfl | exact Or.inr rfl) (me_lst (ma_cons (me_tup ma_nil) ma_nil)))
  (mss_cons (ms_for (passes_of rfl) rfl (mi_range1 (by rfl) g.f_range (ma_cons (me_var (pv 0)) ma_nil)) (mg_name (i := 2) nd rfl (by first | exact Or.inl rfl | exact Or.inr rfl))
  (mss_one (ms_set (i := 1) nd rfl (by first | exact Or.inl rfl | exact Or.inr rfl) (me_add (me_var (pv 1)) (me_comp (own := [("lot", 3)]) rfl nd (mi_seq (me_var (pv 1))) (blkOk_by (N := ["many", "found", "number", "lot"]) (sc := defScope s_lots_of) (own := [("lot", 3)]) (by decide +kernel)) (by decide) (fun _ _ _ _ _ => (mg_name (i := 3) nd rfl (by first | exact Or.inl rfl | exact Or.inr rfl))) (fun _ _ _ _ _ => mts_nil) (fun _ _ _ _ _ => (me_add (me_var (pv 3)) (me_tup (ma_cons (me_var (pv 2)) ma_nil)))))))))
  (mss_one (ms_ret (me_sortLot tb hcd rfl ⟨rfl, rfl, rfl, by decide, rfl, rfl, fun _ _ _ _ _ => rfl, by decide⟩ rfl rfl (by rfl) g.f_sorted g.f_len hr (me_var (pv 1)))))))
theorem nd_are_apart : (["lot", "some", "row", "number"] : List Str).Nodup := by decide +kernel
theorem sc_are_apart : FnScope ["lot", "some", "row", "number"] ["lot", "some"] (defScope s_are_apart) := ⟨rfl, rfl, rfl, nd_are_apart, rfl, by decide +kernel, by decide +kernel⟩
theorem ok_are_apart (g : GL K mg) (C : CL P w K mg base cf k) (hA : A.guards = some []) (hr : Room k (A.deeper (envOfC "are_apart" (defScope s_are_apart) s.heap.objs.size f cdv))) :
    MSs (cxOf (L2.CX P w) P w K mg base ["lot", "some", "row", "number"] "are_apart" (defScope s_are_apart) f cdv A outer s H E) cf (fun c d _ H => E c d H) (defBody s_are_apart) F_are_apart :=
  have nd := nd_are_apart
  have tk : Takes (cxOf (L2.CX P w) P w K mg base ["lot", "some", "row", "number"] "are_apart" (defScope s_are_apart) f cdv A outer s H E) (fun c d _ H => E c d H) := takes_of rfl rfl rfl rfl
  (mss_one (ms_ret (me_not (me_any rfl (by rfl) g.f_any (ma_cons (me_comp (own := [("row", 2)]) rfl nd (mi_seq (me_var (pv 1))) (blkOk_by (N := ["lot", "some", "row", "number"]) (sc := defScope s_are_apart) (own := [("row", 2)]) (by decide +kernel)) (by decide) (fun _ _ _ _ _ => (mg_name (i := 2) nd rfl (by first | exact Or.inl rfl | exact Or.inr rfl))) (fun _ _ _ _ _ => mts_nil) (fun _ _ _ _ _ => (me_all rfl (by rfl) g.f_all (ma_cons (me_comp (own := [("number", 3)]) rfl nd (mi_seq (me_var (pv 0))) (blkOk_by (by kernel_rfl)) (by decide) (fun _ _ _ _ _ => (mg_name (i := 3) nd rfl (by first | exact Or.inl rfl | exact Or.inr rfl))) (fun _ _ _ _ _ => mts_nil) (fun _ _ _ _ _ => (me_c (cm_in hr) (me_var (pv 3)) (me_var (pv 2)) (by rfl)))) ma_nil)))) ma_nil)))))
theorem nd_led_back : (["sky", "report", "found", "every", "lot"] : List Str).Nodup := by decide +kernel
theorem sc_led_back : FnScope ["sky", "report", "found", "every", "lot"] ["sky", "report"] (defScope s_led_back) := ⟨rfl, rfl, rfl, nd_led_back, rfl, by decide +kernel, by decide +kernel⟩
theorem ok_led_back (g : GL K mg) (C : CL P w K mg base cf k) (hA : A.guards = some []) (hr : Room k (A.deeper (envOfC "led_back" (defScope s_led_back) s.heap.objs.size f cdv))) :
    MSs (cxOf (L2.CX P w) P w K mg base ["sky", "report", "found", "every", "lot"] "led_back" (defScope s_led_back) f cdv A outer s H E) cf (fun c d _ H => E c d H) (defBody s_led_back) F_led_back :=
  have nd := nd_led_back
  have tk : Takes (cxOf (L2.CX P w) P w K mg base ["sky", "report", "found", "every", "lot"] "led_back" (defScope s_led_back) f cdv A outer s H E) (fun c d _ H => E c d H) := takes_of rfl rfl rfl rfl
  (mss_cons (ms_expr (me_call C.c_need_report hA hr tk (by rfl) (ma_cons (me_var (pv 0)) (ma_cons (me_var (pv 1)) ma_nil))))
  (mss_cons (ms_unpW (i := 2) (j := 3) rfl (me_tup (ma_cons (me_call C.c_lots_so hA hr tk (by rfl) (ma_cons (me_var (pv 0)) (ma_cons (me_var (pv 1)) ma_nil))) (ma_cons (me_tupRg rfl (by rfl) g.f_tuple (by rfl) g.f_range (me_len (by rfl) g.f_len (ma_cons (me_var (pv 1)) ma_nil))) ma_nil))) (mg_nameW (i := 2) nd rfl (by first | exact Or.inl rfl | exact Or.inr rfl)) (mg_nameW (i := 3) nd rfl (by first | exact Or.inl rfl | exact Or.inr rfl)))
  (mss_cons (ms_if (mt_c (cm_inM hr) (me_var (pv 3)) (me_var (pv 2)) (by rfl))
  (mss_one (ms_ret (me_tup (ma_cons (me_globS (by rfl) g.i_SEEN) (ma_cons (me_atM hr (me_var (pv 2)) (me_var (pv 3))) ma_nil)))))
  mss_nil)
  (mss_one (ms_ret (me_tup (ma_cons (me_globS (by rfl) g.i_NEVER) (ma_cons (me_at (me_comp (own := [("lot", 4)]) rfl nd (mi_seq (me_call C.c_lots_of hA hr tk (by rfl) (ma_cons (me_len (by rfl) g.f_len (ma_cons (me_var (pv 1)) ma_nil)) ma_nil))) (blkOk_by (N := ["sky", "report", "found", "every", "lot"]) (sc := defScope s_led_back) (own := [("lot", 4)]) (by decide +kernel)) (by decide) (fun _ _ _ _ _ => (mg_name (i := 4) nd rfl (by first | exact Or.inl rfl | exact Or.inr rfl))) (fun _ _ _ _ _ => (mts_one (mt_val (me_call C.c_are_apart hA hr takes0 (by rfl) (ma_cons (me_var (pv 4)) (ma_cons (me_keysM rfl (by rfl) g.f_list (ma_cons (me_var (pv 2)) ma_nil)) ma_nil)))))) (fun _ _ _ _ _ => (me_var (pv 4)))) me_int) ma_nil))))))))
theorem nd__law_cell_at : (["_law_script", "_law_k"] : List Str).Nodup := by decide +kernel
theorem sc__law_cell_at : FnScope ["_law_script", "_law_k"] ["_law_script", "_law_k"] (defScope s__law_cell_at) := ⟨rfl, rfl, rfl, nd__law_cell_at, rfl, by decide +kernel, by decide +kernel⟩
theorem ok__law_cell_at (g : GL K mg) (C : CL P w K mg base cf k) (hA : A.guards = some []) (hr : Room k (A.deeper (envOfC "_law_cell_at" (defScope s__law_cell_at) s.heap.objs.size f cdv))) :
    MSs (cxOf (L2.CX P w) P w K mg base ["_law_script", "_law_k"] "_law_cell_at" (defScope s__law_cell_at) f cdv A outer s H E) cf (fun c d _ H => E c d H) (defBody s__law_cell_at) F__law_cell_at :=
  have nd := nd__law_cell_at
  have tk : Takes (cxOf (L2.CX P w) P w K mg base ["_law_script", "_law_k"] "_law_cell_at" (defScope s__law_cell_at) f cdv A outer s H E) (fun c d _ H => E c d H) := takes_of rfl rfl rfl rfl
  (mss_cons (ms_if (mt_c cm_lt (me_var (pv 1)) (me_len (by rfl) g.f_len (ma_cons (me_var (pv 0)) ma_nil)) (by rfl))
  (mss_one (ms_ret (me_at (me_var (pv 0)) (me_var (pv 1)))))
  mss_nil)
  (mss_one (ms_ret me_int)))
theorem nd__law_pen : (["_law_cell_here"] : List Str).Nodup := by decide +kernel
theorem sc__law_pen : FnScope ["_law_cell_here"] ["_law_cell_here"] (defScope s__law_pen) := ⟨rfl, rfl, rfl, nd__law_pen, rfl, by decide +kernel, by decide +kernel⟩
theorem ok__law_pen (g : GL K mg) (C : CL P w K mg base cf k) (hA : A.guards = some []) (hr : Room k (A.deeper (envOfC "_law_pen" (defScope s__law_pen) s.heap.objs.size f cdv))) :
    MSs (cxOf (L2.CX P w) P w K mg base ["_law_cell_here"] "_law_pen" (defScope s__law_pen) f cdv A outer s H E) cf (fun c d _ H => E c d H) (defBody s__law_pen) F__law_pen :=
  have nd := nd__law_pen
  have tk : Takes (cxOf (L2.CX P w) P w K mg base ["_law_cell_here"] "_law_pen" (defScope s__law_pen) f cdv A outer s H E) (fun c d _ H => E c d H) := takes_of rfl rfl rfl rfl
  (mss_one (ms_ret (me_newL (ma_cons (me_max2 rfl (by rfl) g.f_max (ma_cons me_int (ma_cons (me_sub (me_var (pv 0)) (me_pow me_int me_int)) ma_nil))) (ma_cons (me_add (me_mod (me_var (pv 0)) me_int) me_int) (ma_cons me_int ma_nil))))))
theorem nd__law_draw : (["_law_pen_here", "_law_many", "_law_found", "_law_stirred"] : List Str).Nodup := by decide +kernel
theorem sc__law_draw : FnScope ["_law_pen_here", "_law_many", "_law_found", "_law_stirred"] ["_law_pen_here", "_law_many"] (defScope s__law_draw) := ⟨rfl, rfl, rfl, nd__law_draw, rfl, by decide +kernel, by decide +kernel⟩
theorem ok__law_draw (g : GL K mg) (C : CL P w K mg base cf k) (hA : A.guards = some []) (hr : Room k (A.deeper (envOfC "_law_draw" (defScope s__law_draw) s.heap.objs.size f cdv))) :
    MSs (cxOf (L2.CX P w) P w K mg base ["_law_pen_here", "_law_many", "_law_found", "_law_stirred"] "_law_draw" (defScope s__law_draw) f cdv A outer s H E) cf (fun c d _ H => E c d H) (defBody s__law_draw) F__law_draw :=
  have nd := nd__law_draw
  have tk : Takes (cxOf (L2.CX P w) P w K mg base ["_law_pen_here", "_law_many", "_law_found", "_law_stirred"] "_law_draw" (defScope s__law_draw) f cdv A outer s H E) (fun c d _ H => E c d H) := takes_of rfl rfl rfl rfl
  (mss_cons (ms_if (mt_c cm_gt (me_at (me_var (pv 0)) me_int) me_int (by rfl))
  (mss_cons (ms_set (i := 2) nd rfl (by first | exact Or.inl rfl | exact Or.inr rfl) (me_mod (me_at (me_var (pv 0)) me_int) (me_var (pv 1))))
  (mss_cons (ms_setIx (me_div (me_at (me_var (pv 0)) me_int) (me_var (pv 1))) (me_var (pv 0)) me_int)
  (mss_one (ms_ret (me_var (pv 2))))))
  mss_nil)
  (mss_cons (ms_setIx (me_add (me_at (me_var (pv 0)) me_int) me_int) (me_var (pv 0)) me_int)
  (mss_cons (ms_setIx (me_mod (me_add (me_add (me_mul (me_at (me_var (pv 0)) me_int) me_int) (me_mul me_int (me_at (me_var (pv 0)) me_int))) me_int) me_int) (me_var (pv 0)) me_int)
  (mss_cons (ms_set (i := 3) nd rfl (by first | exact Or.inl rfl | exact Or.inr rfl) (me_mod (me_add (me_add (me_mul (me_at (me_var (pv 0)) me_int) (me_at (me_var (pv 0)) me_int)) (me_mul me_int (me_at (me_var (pv 0)) me_int))) me_int) me_int))
  (mss_one (ms_ret (me_mod (me_div (me_mod (me_mul (me_var (pv 3)) me_int) me_int) me_int) (me_var (pv 1)))))))))
theorem nd__law_pick : (["_law_pen_here", "_law_some"] : List Str).Nodup := by decide +kernel
theorem sc__law_pick : FnScope ["_law_pen_here", "_law_some"] ["_law_pen_here", "_law_some"] (defScope s__law_pick) := ⟨rfl, rfl, rfl, nd__law_pick, rfl, by decide +kernel, by decide +kernel⟩
theorem ok__law_pick (g : GL K mg) (C : CL P w K mg base cf k) (hA : A.guards = some []) (hr : Room k (A.deeper (envOfC "_law_pick" (defScope s__law_pick) s.heap.objs.size f cdv))) :
    MSs (cxOf (L2.CX P w) P w K mg base ["_law_pen_here", "_law_some"] "_law_pick" (defScope s__law_pick) f cdv A outer s H E) cf (fun c d _ H => E c d H) (defBody s__law_pick) F__law_pick :=
  have nd := nd__law_pick
  have tk : Takes (cxOf (L2.CX P w) P w K mg base ["_law_pen_here", "_law_some"] "_law_pick" (defScope s__law_pick) f cdv A outer s H E) (fun c d _ H => E c d H) := takes_of rfl rfl rfl rfl
  (mss_one (ms_ret (me_at (me_var (pv 1)) (me_call C.c__law_draw hA hr tk (by rfl) (ma_cons (me_var (pv 0)) (ma_cons (me_len (by rfl) g.f_len (ma_cons (me_var (pv 1)) ma_nil)) ma_nil))))))
theorem nd__law_sky : (["_law_pen_here", "_law_most", "_law_wide", "_law_high", "_law_lights", "_law_longs", "_law_lap", "_law_speed", "_law_rows", "_law_turn"] : List Str).Nodup := by decide +kernel
theorem sc__law_sky : FnScope ["_law_pen_here", "_law_most", "_law_wide", "_law_high", "_law_lights", "_law_longs", "_law_lap", "_law_speed", "_law_rows", "_law_turn"] ["_law_pen_here", "_law_most"] (defScope s__law_sky) := ⟨rfl, rfl, rfl, nd__law_sky, rfl, by decide +kernel, by decide +kernel⟩
theorem ok__law_sky (g : GL K mg) (C : CL P w K mg base cf k) (hA : A.guards = some []) (hr : Room k (A.deeper (envOfC "_law_sky" (defScope s__law_sky) s.heap.objs.size f cdv))) :
    MSs (cxOf (L2.CX P w) P w K mg base ["_law_pen_here", "_law_most", "_law_wide", "_law_high", "_law_lights", "_law_longs", "_law_lap", "_law_speed", "_law_rows", "_law_turn"] "_law_sky" (defScope s__law_sky) f cdv A outer s H E) cf (fun c d _ H => E c d H) (defBody s__law_sky) F__law_sky :=
  have nd := nd__law_sky
  have tk : Takes (cxOf (L2.CX P w) P w K mg base ["_law_pen_here", "_law_most", "_law_wide", "_law_high", "_law_lights", "_law_longs", "_law_lap", "_law_speed", "_law_rows", "_law_turn"] "_law_sky" (defScope s__law_sky) f cdv A outer s H E) (fun c d _ H => E c d H) := takes_of rfl rfl rfl rfl
  (mss_cons (ms_parX (is := [2, 3, 4]) rfl (mao_p (me_call C.c__law_pick hA hr tk (by rfl) (ma_cons (me_var (pv 0)) (ma_cons (me_lst (ma_cons me_int (ma_cons me_int (ma_cons me_int (ma_cons me_int (ma_cons me_int (ma_cons me_int (ma_cons me_int ma_nil)))))))) ma_nil))) (mao_p (me_add me_int (me_call C.c__law_draw hA hr tk (by rfl) (ma_cons (me_var (pv 0)) (ma_cons me_int ma_nil)))) (mao_o ma_nil mao_nil))) (pgs_cons (pg_name (i := 2) nd rfl (by first | exact Or.inl rfl | exact Or.inr rfl)) (pgs_cons (pg_name (i := 3) nd rfl (by first | exact Or.inl rfl | exact Or.inr rfl)) (pgs_cons (pg_name (i := 4) nd rfl (by first | exact Or.inl rfl | exact Or.inr rfl)) pgs_nil))))
  (mss_cons (ms_set (i := 5) nd rfl (by first | exact Or.inl rfl | exact Or.inr rfl) (me_call C.c__law_pick hA hr tk (by rfl) (ma_cons (me_var (pv 0)) (ma_cons (me_lst (ma_cons (me_lst (ma_cons me_int (ma_cons me_int ma_nil))) (ma_cons (me_lst (ma_cons me_int (ma_cons me_int (ma_cons me_int ma_nil)))) (ma_cons (me_lst (ma_cons me_int (ma_cons me_int ma_nil))) (ma_cons (me_lst (ma_cons me_int (ma_cons me_int (ma_cons me_int ma_nil)))) ma_nil))))) ma_nil))))
  (mss_cons (ms_for (passes_of rfl) rfl (mi_range1 (by rfl) g.f_range (ma_cons (me_add me_int (me_call C.c__law_draw hA hr tk (by rfl) (ma_cons (me_var (pv 0)) (ma_cons (me_var (pv 1)) ma_nil)))) ma_nil)) (mg_name (i := 6) nd rfl (by first | exact Or.inl rfl | exact Or.inr rfl))
  (mss_cons (ms_set (i := 7) nd rfl (by first | exact Or.inl rfl | exact Or.inr rfl) (me_if (mt_c cm_gt (me_call C.c__law_draw hA hr tk (by rfl) (ma_cons (me_var (pv 0)) (ma_cons me_int ma_nil))) me_int (by rfl)) (me_sub (me_call C.c__law_draw hA hr tk (by rfl) (ma_cons (me_var (pv 0)) (ma_cons me_int ma_nil))) me_int) (me_sub (me_call C.c__law_draw hA hr tk (by rfl) (ma_cons (me_var (pv 0)) (ma_cons me_int ma_nil))) me_int)))
  (mss_cons (ms_set (i := 8) nd rfl (by first | exact Or.inl rfl | exact Or.inr rfl) (me_tuple (by rfl) g.f_tuple (ma_cons (me_comp (own := [("_law_turn", 9)]) rfl nd (mi_range1 (by rfl) g.f_range (ma_cons (me_call C.c__law_pick hA hr tk (by rfl) (ma_cons (me_var (pv 0)) (ma_cons (me_var (pv 5)) ma_nil))) ma_nil)) (blkOk_by (N := ["_law_pen_here", "_law_most", "_law_wide", "_law_high", "_law_lights", "_law_longs", "_law_lap", "_law_speed", "_law_rows", "_law_turn"]) (sc := defScope s__law_sky) (own := [("_law_turn", 9)]) (by decide +kernel)) (by decide) (fun _ _ _ _ _ => (mg_name (i := 9) nd rfl (by first | exact Or.inl rfl | exact Or.inr rfl))) (fun _ _ _ _ _ => mts_nil) (fun _ _ _ _ _ => (me_call C.c__law_draw hA hr takes0 (by rfl) (ma_cons (me_var (pv 0)) (ma_cons (me_var (pv 3)) ma_nil))))) ma_nil)))
  (mss_one (ms_app (pv 4) (me_tup (ma_cons (me_call C.c__law_draw hA hr tk (by rfl) (ma_cons (me_var (pv 0)) (ma_cons (me_var (pv 2)) ma_nil))) (ma_cons (me_var (pv 7)) (ma_cons (me_var (pv 8)) ma_nil)))))))))
  (mss_one (ms_ret (me_tup (ma_cons (me_var (pv 2)) (ma_cons (me_var (pv 3)) (ma_cons (me_tuple (by rfl) g.f_tuple (ma_one (me_own (pv 4)))) ma_nil)))))))))
theorem nd__law_gcd : (["_law_one", "_law_other"] : List Str).Nodup := by decide +kernel
theorem sc__law_gcd : FnScope ["_law_one", "_law_other"] ["_law_one", "_law_other"] (defScope s__law_gcd) := ⟨rfl, rfl, rfl, nd__law_gcd, rfl, by decide +kernel, by decide +kernel⟩
theorem ok__law_gcd (g : GL K mg) (C : CL P w K mg base cf k) (hA : A.guards = some []) (hr : Room k (A.deeper (envOfC "_law_gcd" (defScope s__law_gcd) s.heap.objs.size f cdv))) :
    MSs (cxOf (L2.CX P w) P w K mg base ["_law_one", "_law_other"] "_law_gcd" (defScope s__law_gcd) f cdv A outer s H E) cf (fun c d _ H => E c d H) (defBody s__law_gcd) F__law_gcd :=
  have nd := nd__law_gcd
  have tk : Takes (cxOf (L2.CX P w) P w K mg base ["_law_one", "_law_other"] "_law_gcd" (defScope s__law_gcd) f cdv A outer s H E) (fun c d _ H => E c d H) := takes_of rfl rfl rfl rfl
  (mss_cons (ms_while (passes_of rfl) (mt_c cm_gt (me_var (pv 1)) me_int (by rfl))
  (mss_one (ms_par2 (i := 0) (j := 1) rfl nd rfl rfl (by decide) rfl rfl (ma_cons (me_var (pv 1)) (ma_cons (me_mod (me_var (pv 0)) (me_var (pv 1))) ma_nil)) rfl)))
  (mss_one (ms_ret (me_var (pv 0)))))
theorem nd__law_round : (["_law_sky_here", "_law_found", "_law_column", "_law_speed", "_law_rows", "_law_many", "_law_one", "_law_more"] : List Str).Nodup := by decide +kernel
theorem sc__law_round : FnScope ["_law_sky_here", "_law_found", "_law_column", "_law_speed", "_law_rows", "_law_many", "_law_one", "_law_more"] ["_law_sky_here"] (defScope s__law_round) := ⟨rfl, rfl, rfl, nd__law_round, rfl, by decide +kernel, by decide +kernel⟩
theorem ok__law_round (g : GL K mg) (C : CL P w K mg base cf k) (hA : A.guards = some []) (hr : Room k (A.deeper (envOfC "_law_round" (defScope s__law_round) s.heap.objs.size f cdv))) :
    MSs (cxOf (L2.CX P w) P w K mg base ["_law_sky_here", "_law_found", "_law_column", "_law_speed", "_law_rows", "_law_many", "_law_one", "_law_more"] "_law_round" (defScope s__law_round) f cdv A outer s H E) cf (fun c d _ H => E c d H) (defBody s__law_round) F__law_round :=
  have nd := nd__law_round
  have tk : Takes (cxOf (L2.CX P w) P w K mg base ["_law_sky_here", "_law_found", "_law_column", "_law_speed", "_law_rows", "_law_many", "_law_one", "_law_more"] "_law_round" (defScope s__law_round) f cdv A outer s H E) (fun c d _ H => E c d H) := takes_of rfl rfl rfl rfl
  (mss_cons (ms_set (i := 1) nd rfl (by first | exact Or.inl rfl | exact Or.inr rfl) me_int)
  (mss_cons (ms_for (passes_of rfl) rfl (mi_seq (me_at (me_var (pv 0)) me_int)) (mg_names rfl (mgs_cons (mg_name (i := 2) nd rfl (by first | exact Or.inl rfl | exact Or.inr rfl)) (mgs_cons (mg_name (i := 3) nd rfl (by first | exact Or.inl rfl | exact Or.inr rfl)) (mgs_cons (mg_name (i := 4) nd rfl (by first | exact Or.inl rfl | exact Or.inr rfl)) mgs_nil))))
  (mss_cons (ms_setComp (i := 5) (own := [("_law_more", 7)]) rfl nd rfl rfl (sw_true rfl rfl rfl (by decide +kernel)) (mi_range2 (by rfl) g.f_range (ma_cons me_int (ma_cons (me_add (me_len (by rfl) g.f_len (ma_cons (me_var (pv 4)) ma_nil)) me_int) ma_nil))) (blkOk_by (N := ["_law_sky_here", "_law_found", "_law_column", "_law_speed", "_law_rows", "_law_many", "_law_one", "_law_more"]) (sc := defScope s__law_round) (own := [("_law_more", 7)]) (by decide +kernel)) (by decide) (fun _ _ _ _ _ => (mg_name (i := 7) nd rfl (by first | exact Or.inl rfl | exact Or.inr rfl))) (fun _ _ _ _ _ => (mts_one (mt_c (cm_eq hr) (me_var (pv 4)) (me_add (me_slice (me_var (pv 4)) (mo_some (me_mod (me_var (pv 7)) (me_len (by rfl) g.f_len (ma_cons (me_var (pv 4)) ma_nil)))) mo_none) (me_slice (me_var (pv 4)) mo_none (mo_some (me_mod (me_var (pv 7)) (me_len (by rfl) g.f_len (ma_cons (me_var (pv 4)) ma_nil)))))) (by rfl)))) (fun _ _ _ _ _ => (me_var (pv 7))))
  (mss_one (ms_for (passes_of rfl) rfl (mi_seq (me_lst (ma_cons (me_div (me_at (me_var (pv 0)) me_int) (me_call C.c__law_gcd hA hr tk (by rfl) (ma_cons (me_at (me_var (pv 0)) me_int) (ma_cons (me_abs (by rfl) g.f_abs (ma_cons (me_var (pv 3)) ma_nil)) ma_nil)))) (ma_cons (me_at (me_var (pv 5)) me_int) ma_nil)))) (mg_name (i := 6) nd rfl (by first | exact Or.inl rfl | exact Or.inr rfl))
  (mss_one (ms_set (i := 1) nd rfl (by first | exact Or.inl rfl | exact Or.inr rfl) (me_div (me_mul (me_var (pv 1)) (me_var (pv 6))) (me_call C.c__law_gcd hA hr tk (by rfl) (ma_cons (me_var (pv 1)) (ma_cons (me_var (pv 6)) ma_nil))))))))))
  (mss_one (ms_ret (me_var (pv 1))))))
theorem nd__law_cell : (["_law_sky_here", "_law_light", "_law_view_here", "_law_column", "_law_speed", "_law_rows", "_law_across", "_law_up"] : List Str).Nodup := by decide +kernel
theorem sc__law_cell : FnScope ["_law_sky_here", "_law_light", "_law_view_here", "_law_column", "_law_speed", "_law_rows", "_law_across", "_law_up"] ["_law_sky_here", "_law_light", "_law_view_here"] (defScope s__law_cell) := ⟨rfl, rfl, rfl, nd__law_cell, rfl, by decide +kernel, by decide +kernel⟩
theorem ok__law_cell (g : GL K mg) (C : CL P w K mg base cf k) (hA : A.guards = some []) (hr : Room k (A.deeper (envOfC "_law_cell" (defScope s__law_cell) s.heap.objs.size f cdv))) :
    MSs (cxOf (L2.CX P w) P w K mg base ["_law_sky_here", "_law_light", "_law_view_here", "_law_column", "_law_speed", "_law_rows", "_law_across", "_law_up"] "_law_cell" (defScope s__law_cell) f cdv A outer s H E) cf (fun c d _ H => E c d H) (defBody s__law_cell) F__law_cell :=
  have nd := nd__law_cell
  have tk : Takes (cxOf (L2.CX P w) P w K mg base ["_law_sky_here", "_law_light", "_law_view_here", "_law_column", "_law_speed", "_law_rows", "_law_across", "_law_up"] "_law_cell" (defScope s__law_cell) f cdv A outer s H E) (fun c d _ H => E c d H) := takes_of rfl rfl rfl rfl
  (mss_cons (ms_unp (me_at (me_at (me_var (pv 0)) me_int) (me_var (pv 1))) (mg_names rfl (mgs_cons (mg_name (i := 3) nd rfl (by first | exact Or.inl rfl | exact Or.inr rfl)) (mgs_cons (mg_name (i := 4) nd rfl (by first | exact Or.inl rfl | exact Or.inr rfl)) (mgs_cons (mg_name (i := 5) nd rfl (by first | exact Or.inl rfl | exact Or.inr rfl)) mgs_nil)))))
  (mss_cons (ms_set (i := 6) nd rfl (by first | exact Or.inl rfl | exact Or.inr rfl) (me_mod (me_add (me_add (me_var (pv 3)) (me_mul (me_var (pv 4)) (me_at (me_var (pv 2)) me_int))) (me_at (me_var (pv 2)) me_int)) (me_at (me_var (pv 0)) me_int)))
  (mss_cons (ms_set (i := 7) nd rfl (by first | exact Or.inl rfl | exact Or.inr rfl) (me_add (me_at (me_var (pv 5)) (me_mod (me_at (me_var (pv 2)) me_int) (me_len (by rfl) g.f_len (ma_cons (me_var (pv 5)) ma_nil)))) (me_at (me_var (pv 2)) me_int)))
  (mss_one (ms_ret (me_if (mt_w (mw_and (mt_c cm_lt (me_var (pv 6)) (me_div (me_at (me_var (pv 0)) me_int) me_int) (by rfl)) (mw_and1 (mt_chain cm_le cm_lt me_int (me_var (pv 7)) (me_at (me_var (pv 0)) me_int))))) (me_tup (ma_cons (me_var (pv 6)) (ma_cons (me_var (pv 7)) ma_nil))) me_non))))))
theorem nd__law_places : (["_law_sky_here", "_law_found", "_law_east", "_law_north"] : List Str).Nodup := by decide +kernel
theorem sc__law_places : FnScope ["_law_sky_here", "_law_found", "_law_east", "_law_north"] ["_law_sky_here"] (defScope s__law_places) := ⟨rfl, rfl, rfl, nd__law_places, rfl, by decide +kernel, by decide +kernel⟩
theorem ok__law_places (g : GL K mg) (C : CL P w K mg base cf k) (hA : A.guards = some []) (hr : Room k (A.deeper (envOfC "_law_places" (defScope s__law_places) s.heap.objs.size f cdv))) :
    MSs (cxOf (L2.CX P w) P w K mg base ["_law_sky_here", "_law_found", "_law_east", "_law_north"] "_law_places" (defScope s__law_places) f cdv A outer s H E) cf (fun c d _ H => E c d H) (defBody s__law_places) F__law_places :=
  have nd := nd__law_places
  have tk : Takes (cxOf (L2.CX P w) P w K mg base ["_law_sky_here", "_law_found", "_law_east", "_law_north"] "_law_places" (defScope s__law_places) f cdv A outer s H E) (fun c d _ H => E c d H) := takes_of rfl rfl rfl rfl
  (mss_cons (ms_new (i := 1) nd rfl (by first | exact Or.inl rfl | exact Or.inr rfl) ma_nil)
  (mss_cons (ms_for (passes_of rfl) rfl (mi_range1 (by rfl) g.f_range (ma_cons (me_at (me_var (pv 0)) me_int) ma_nil)) (mg_name (i := 2) nd rfl (by first | exact Or.inl rfl | exact Or.inr rfl))
  (mss_one (ms_ext (pv 1) (me_comp (own := [("_law_north", 3)]) rfl nd (mi_range2 (by rfl) g.f_range (ma_cons (me_sub me_int (me_at (me_var (pv 0)) me_int)) (ma_cons (me_add (me_at (me_var (pv 0)) me_int) me_int) ma_nil))) (blkOk_by (N := ["_law_sky_here", "_law_found", "_law_east", "_law_north"]) (sc := defScope s__law_places) (own := [("_law_north", 3)]) (by decide +kernel)) (by decide) (fun _ _ _ _ _ => (mg_name (i := 3) nd rfl (by first | exact Or.inl rfl | exact Or.inr rfl))) (fun _ _ _ _ _ => mts_nil) (fun _ _ _ _ _ => (me_tup (ma_cons (me_var (pv 2)) (ma_cons (me_var (pv 3)) ma_nil))))))))
  (mss_one (ms_retO (pv 1)))))
theorem nd__law_views : (["_law_sky_here", "_law_report_here", "_law_found", "_law_moment", "_law_some", "_law_light", "_law_cell_here", "_law_place"] : List Str).Nodup := by decide +kernel
theorem sc__law_views : FnScope ["_law_sky_here", "_law_report_here", "_law_found", "_law_moment", "_law_some", "_law_light", "_law_cell_here", "_law_place"] ["_law_sky_here", "_law_report_here"] (defScope s__law_views) := ⟨rfl, rfl, rfl, nd__law_views, rfl, by decide +kernel, by decide +kernel⟩
theorem ok__law_views (g : GL K mg) (C : CL P w K mg base cf k) (hA : A.guards = some []) (hr : Room k (A.deeper (envOfC "_law_views" (defScope s__law_views) s.heap.objs.size f cdv))) :
    MSs (cxOf (L2.CX P w) P w K mg base ["_law_sky_here", "_law_report_here", "_law_found", "_law_moment", "_law_some", "_law_light", "_law_cell_here", "_law_place"] "_law_views" (defScope s__law_views) f cdv A outer s H E) cf (fun c d _ H => E c d H) (defBody s__law_views) F__law_views :=
  have nd := nd__law_views
  have tk : Takes (cxOf (L2.CX P w) P w K mg base ["_law_sky_here", "_law_report_here", "_law_found", "_law_moment", "_law_some", "_law_light", "_law_cell_here", "_law_place"] "_law_views" (defScope s__law_views) f cdv A outer s H E) (fun c d _ H => E c d H) := takes_of rfl rfl rfl rfl
  (mss_cons (ms_new (i := 2) nd rfl (by first | exact Or.inl rfl | exact Or.inr rfl) ma_nil)
  (mss_cons (ms_for (passes_of rfl) rfl (mi_range1 (by rfl) g.f_range (ma_cons (me_call C.c__law_round hA hr tk (by rfl) (ma_cons (me_var (pv 0)) ma_nil)) ma_nil)) (mg_name (i := 3) nd rfl (by first | exact Or.inl rfl | exact Or.inr rfl))
  (mss_cons (ms_set (i := 4) nd rfl (by first | exact Or.inl rfl | exact Or.inr rfl) (me_call C.c__law_places hA hr tk (by rfl) (ma_cons (me_var (pv 0)) ma_nil)))
  (mss_cons (ms_for (passes_of rfl) rfl (mi_seq (me_var (pv 1))) (mg_names rfl (mgs_cons (mg_name (i := 5) nd rfl (by first | exact Or.inl rfl | exact Or.inr rfl)) (mgs_cons (mg_name (i := 6) nd rfl (by first | exact Or.inl rfl | exact Or.inr rfl)) mgs_nil)))
  (mss_one (ms_setComp (i := 4) (own := [("_law_place", 7)]) rfl nd rfl rfl (sw_true rfl rfl rfl (by decide +kernel)) (mi_seq (me_var (pv 4))) (blkOk_by (N := ["_law_sky_here", "_law_report_here", "_law_found", "_law_moment", "_law_some", "_law_light", "_law_cell_here", "_law_place"]) (sc := defScope s__law_views) (own := [("_law_place", 7)]) (by decide +kernel)) (by decide) (fun _ _ _ _ _ => (mg_name (i := 7) nd rfl (by first | exact Or.inl rfl | exact Or.inr rfl))) (fun _ _ _ _ _ => (mts_one (mt_c (cm_eq hr) (me_call C.c__law_cell hA hr takes0 (by rfl) (ma_cons (me_var (pv 0)) (ma_cons (me_var (pv 5)) (ma_cons (me_add (me_tup (ma_cons (me_var (pv 3)) ma_nil)) (me_var (pv 7))) ma_nil)))) (me_var (pv 6)) (by rfl)))) (fun _ _ _ _ _ => (me_var (pv 7))))))
  (mss_one (ms_ext (pv 2) (me_comp (own := [("_law_place", 7)]) rfl nd (mi_seq (me_var (pv 4))) (blkOk_by (N := ["_law_sky_here", "_law_report_here", "_law_found", "_law_moment", "_law_some", "_law_light", "_law_cell_here", "_law_place"]) (sc := defScope s__law_views) (own := [("_law_place", 7)]) (by decide +kernel)) (by decide) (fun _ _ _ _ _ => (mg_name (i := 7) nd rfl (by first | exact Or.inl rfl | exact Or.inr rfl))) (fun _ _ _ _ _ => mts_nil) (fun _ _ _ _ _ => (me_add (me_tup (ma_cons (me_var (pv 3)) ma_nil)) (me_var (pv 7))))))))))
  (mss_one (ms_retO (pv 2)))))
theorem nd__law_view : (["_law_pen_here", "_law_sky_here", "_law_east", "_law_north"] : List Str).Nodup := by decide +kernel
theorem sc__law_view : FnScope ["_law_pen_here", "_law_sky_here", "_law_east", "_law_north"] ["_law_pen_here", "_law_sky_here"] (defScope s__law_view) := ⟨rfl, rfl, rfl, nd__law_view, rfl, by decide +kernel, by decide +kernel⟩
theorem ok__law_view (g : GL K mg) (C : CL P w K mg base cf k) (hA : A.guards = some []) (hr : Room k (A.deeper (envOfC "_law_view" (defScope s__law_view) s.heap.objs.size f cdv))) :
    MSs (cxOf (L2.CX P w) P w K mg base ["_law_pen_here", "_law_sky_here", "_law_east", "_law_north"] "_law_view" (defScope s__law_view) f cdv A outer s H E) cf (fun c d _ H => E c d H) (defBody s__law_view) F__law_view :=
  have nd := nd__law_view
  have tk : Takes (cxOf (L2.CX P w) P w K mg base ["_law_pen_here", "_law_sky_here", "_law_east", "_law_north"] "_law_view" (defScope s__law_view) f cdv A outer s H E) (fun c d _ H => E c d H) := takes_of rfl rfl rfl rfl
  (mss_cons (ms_par2 (i := 2) (j := 3) rfl nd rfl rfl (by decide) rfl rfl (ma_cons (me_call C.c__law_draw hA hr tk (by rfl) (ma_cons (me_var (pv 0)) (ma_cons (me_at (me_var (pv 1)) me_int) ma_nil))) (ma_cons (me_sub (me_call C.c__law_draw hA hr tk (by rfl) (ma_cons (me_var (pv 0)) (ma_cons (me_add (me_mul me_int (me_at (me_var (pv 1)) me_int)) me_int) ma_nil))) (me_at (me_var (pv 1)) me_int)) ma_nil)) rfl)
  (mss_one (ms_ret (me_tup (ma_cons (me_call C.c__law_draw hA hr tk (by rfl) (ma_cons (me_var (pv 0)) (ma_cons (me_call C.c__law_round hA hr tk (by rfl) (ma_cons (me_var (pv 1)) ma_nil)) ma_nil))) (ma_cons (me_var (pv 2)) (ma_cons (me_at (me_lst (ma_cons (me_var (pv 3)) (ma_cons me_int ma_nil))) (me_call C.c__law_draw hA hr tk (by rfl) (ma_cons (me_var (pv 0)) (ma_cons me_int ma_nil)))) ma_nil)))))))
theorem nd__law_any_cell : (["_law_pen_here", "_law_sky_here", "_law_cell_here"] : List Str).Nodup := by decide +kernel
theorem sc__law_any_cell : FnScope ["_law_pen_here", "_law_sky_here", "_law_cell_here"] ["_law_pen_here", "_law_sky_here"] (defScope s__law_any_cell) := ⟨rfl, rfl, rfl, nd__law_any_cell, rfl, by decide +kernel, by decide +kernel⟩
theorem ok__law_any_cell (g : GL K mg) (C : CL P w K mg base cf k) (hA : A.guards = some []) (hr : Room k (A.deeper (envOfC "_law_any_cell" (defScope s__law_any_cell) s.heap.objs.size f cdv))) :
    MSs (cxOf (L2.CX P w) P w K mg base ["_law_pen_here", "_law_sky_here", "_law_cell_here"] "_law_any_cell" (defScope s__law_any_cell) f cdv A outer s H E) cf (fun c d _ H => E c d H) (defBody s__law_any_cell) F__law_any_cell :=
  have nd := nd__law_any_cell
  have tk : Takes (cxOf (L2.CX P w) P w K mg base ["_law_pen_here", "_law_sky_here", "_law_cell_here"] "_law_any_cell" (defScope s__law_any_cell) f cdv A outer s H E) (fun c d _ H => E c d H) := takes_of rfl rfl rfl rfl
  (mss_cons (ms_set (i := 2) nd rfl (by first | exact Or.inl rfl | exact Or.inr rfl) (me_tup (ma_cons (me_call C.c__law_draw hA hr tk (by rfl) (ma_cons (me_var (pv 0)) (ma_cons (me_div (me_at (me_var (pv 1)) me_int) me_int) ma_nil))) (ma_cons (me_call C.c__law_draw hA hr tk (by rfl) (ma_cons (me_var (pv 0)) (ma_cons (me_at (me_var (pv 1)) me_int) ma_nil))) ma_nil))))
  (mss_one (ms_ret (me_if (mt_c (cm_eq hr) (me_call C.c__law_draw hA hr tk (by rfl) (ma_cons (me_var (pv 0)) (ma_cons me_int ma_nil))) me_int (by rfl)) me_non (me_var (pv 2))))))
theorem nd__law_report : (["_law_pen_here", "_law_sky_here", "_law_most", "_law_lies", "_law_view_here", "_law_found", "_law_lap", "_law_light", "_law_cell_here"] : List Str).Nodup := by decide +kernel
theorem sc__law_report : FnScope ["_law_pen_here", "_law_sky_here", "_law_most", "_law_lies", "_law_view_here", "_law_found", "_law_lap", "_law_light", "_law_cell_here"] ["_law_pen_here", "_law_sky_here", "_law_most", "_law_lies"] (defScope s__law_report) := ⟨rfl, rfl, rfl, nd__law_report, rfl, by decide +kernel, by decide +kernel⟩
theorem ok__law_report (g : GL K mg) (C : CL P w K mg base cf k) (hA : A.guards = some []) (hr : Room k (A.deeper (envOfC "_law_report" (defScope s__law_report) s.heap.objs.size f cdv))) :
    MSs (cxOf (L2.CX P w) P w K mg base ["_law_pen_here", "_law_sky_here", "_law_most", "_law_lies", "_law_view_here", "_law_found", "_law_lap", "_law_light", "_law_cell_here"] "_law_report" (defScope s__law_report) f cdv A outer s H E) cf (fun c d _ H => E c d H) (defBody s__law_report) F__law_report :=
  have nd := nd__law_report
  have tk : Takes (cxOf (L2.CX P w) P w K mg base ["_law_pen_here", "_law_sky_here", "_law_most", "_law_lies", "_law_view_here", "_law_found", "_law_lap", "_law_light", "_law_cell_here"] "_law_report" (defScope s__law_report) f cdv A outer s H E) (fun c d _ H => E c d H) := takes_of rfl rfl rfl rfl
  (mss_cons (ms_parX2 (i := 4) (j := 5) rfl nd rfl rfl (by decide) rfl rfl (mao_p (me_call C.c__law_view hA hr tk (by rfl) (ma_cons (me_var (pv 0)) (ma_cons (me_var (pv 1)) ma_nil))) (mao_o ma_nil mao_nil)) rfl)
  (mss_cons (ms_for (passes_of rfl) rfl (mi_range1 (by rfl) g.f_range (ma_cons (me_call C.c__law_draw hA hr tk (by rfl) (ma_cons (me_var (pv 0)) (ma_cons (me_add (me_var (pv 2)) me_int) ma_nil))) ma_nil)) (mg_name (i := 6) nd rfl (by first | exact Or.inl rfl | exact Or.inr rfl))
  (mss_cons (ms_set (i := 7) nd rfl (by first | exact Or.inl rfl | exact Or.inr rfl) (me_call C.c__law_draw hA hr tk (by rfl) (ma_cons (me_var (pv 0)) (ma_cons (me_len (by rfl) g.f_len (ma_cons (me_at (me_var (pv 1)) me_int) ma_nil)) ma_nil))))
  (mss_cons (ms_set (i := 8) nd rfl (by first | exact Or.inl rfl | exact Or.inr rfl) (me_call C.c__law_cell hA hr tk (by rfl) (ma_cons (me_var (pv 1)) (ma_cons (me_var (pv 7)) (ma_cons (me_var (pv 4)) ma_nil)))))
  (mss_cons (ms_if (mt_w (mw_and (mt_c cm_gt (me_var (pv 3)) me_int (by rfl)) (mw_and1 (mt_c (cm_eq hr) (me_call C.c__law_draw hA hr tk (by rfl) (ma_cons (me_var (pv 0)) (ma_cons me_int ma_nil))) me_int (by rfl)))))
  (mss_one (ms_set (i := 8) nd rfl (by first | exact Or.inl rfl | exact Or.inr rfl) (me_call C.c__law_any_cell hA hr tk (by rfl) (ma_cons (me_var (pv 0)) (ma_cons (me_var (pv 1)) ma_nil)))))
  mss_nil)
  (mss_one (ms_app (pv 5) (me_tup (ma_cons (me_var (pv 7)) (ma_cons (me_var (pv 8)) ma_nil)))))))))
  (mss_one (ms_ret (me_tuple (by rfl) g.f_tuple (ma_one (me_own (pv 5))))))))
theorem nd__law_lots : (["_law_many", "_law_found", "_law_number", "_law_size", "_law_lot"] : List Str).Nodup := by decide +kernel
theorem sc__law_lots : FnScope ["_law_many", "_law_found", "_law_number", "_law_size", "_law_lot"] ["_law_many"] (defScope s__law_lots) := ⟨rfl, rfl, rfl, nd__law_lots, rfl, by decide +kernel, by decide +kernel⟩
theorem ok__law_lots (g : GL K mg) (C : CL P w K mg base cf k) (hA : A.guards = some []) (hr : Room k (A.deeper (envOfC "_law_lots" (defScope s__law_lots) s.heap.objs.size f cdv))) :
    MSs (cxOf (L2.CX P w) P w K mg base ["_law_many", "_law_found", "_law_number", "_law_size", "_law_lot"] "_law_lots" (defScope s__law_lots) f cdv A outer s H E) cf (fun c d _ H => E c d H) (defBody s__law_lots) F__law_lots :=
  have nd := nd__law_lots
  have tk : Takes (cxOf (L2.CX P w) P w K mg base ["_law_many", "_law_found", "_law_number", "_law_size", "_law_lot"] "_law_lots" (defScope s__law_lots) f cdv A outer s H E) (fun c d _ H => E c d H) := takes_of rfl rfl rfl rfl
  (mss_cons (ms_set (i := 1) nd rfl (by first | exact Or.inl rfl | exact Or.inr rfl) (me_lst (ma_cons (me_tup ma_nil) ma_nil)))
  (mss_cons (ms_for (passes_of rfl) rfl (mi_range1 (by rfl) g.f_range (ma_cons (me_var (pv 0)) ma_nil)) (mg_name (i := 2) nd rfl (by first | exact Or.inl rfl | exact Or.inr rfl))
  (mss_one (ms_set (i := 1) nd rfl (by first | exact Or.inl rfl | exact Or.inr rfl) (me_add (me_var (pv 1)) (me_comp (own := [("_law_lot", 4)]) rfl nd (mi_seq (me_var (pv 1))) (blkOk_by (N := ["_law_many", "_law_found", "_law_number", "_law_size", "_law_lot"]) (sc := defScope s__law_lots) (own := [("_law_lot", 4)]) (by decide +kernel)) (by decide) (fun _ _ _ _ _ => (mg_name (i := 4) nd rfl (by first | exact Or.inl rfl | exact Or.inr rfl))) (fun _ _ _ _ _ => mts_nil) (fun _ _ _ _ _ => (me_add (me_var (pv 4)) (me_tup (ma_cons (me_var (pv 2)) ma_nil)))))))))
  (mss_one (ms_ret (me_comp (own := [("_law_size", 3), ("_law_lot", 4)]) rfl nd (mi_seq (me_sortND hr (by rfl) g.f_sorted (ma_cons (me_comp (own := [("_law_lot", 4)]) rfl nd (mi_seq (me_var (pv 1))) (blkOk_by (N := ["_law_many", "_law_found", "_law_number", "_law_size", "_law_lot"]) (sc := defScope s__law_lots) (own := [("_law_lot", 4)]) (by decide +kernel)) (by decide) (fun _ _ _ _ _ => (mg_name (i := 4) nd rfl (by first | exact Or.inl rfl | exact Or.inr rfl))) (fun _ _ _ _ _ => mts_nil) (fun _ _ _ _ _ => (me_tup (ma_cons (me_len (by rfl) g.f_len (ma_cons (me_var (pv 4)) ma_nil)) (ma_cons (me_var (pv 4)) ma_nil))))) ma_nil))) (blkOk_by (N := ["_law_many", "_law_found", "_law_number", "_law_size", "_law_lot"]) (sc := defScope s__law_lots) (own := [("_law_size", 3), ("_law_lot", 4)]) (by decide +kernel)) (by decide) (fun _ _ _ _ _ => (mg_names rfl (mgs_cons (mg_name (i := 3) nd rfl (by first | exact Or.inl rfl | exact Or.inr rfl)) (mgs_cons (mg_name (i := 4) nd rfl (by first | exact Or.inl rfl | exact Or.inr rfl)) mgs_nil)))) (fun _ _ _ _ _ => mts_nil) (fun _ _ _ _ _ => (me_var (pv 4))))))))
theorem nd__law_least_bar : (["_law_sky_here", "_law_report_here", "_law_lot", "_law_number"] : List Str).Nodup := by decide +kernel
theorem sc__law_least_bar : FnScope ["_law_sky_here", "_law_report_here", "_law_lot", "_law_number"] ["_law_sky_here", "_law_report_here"] (defScope s__law_least_bar) := ⟨rfl, rfl, rfl, nd__law_least_bar, rfl, by decide +kernel, by decide +kernel⟩
theorem ok__law_least_bar (g : GL K mg) (C : CL P w K mg base cf k) (hA : A.guards = some []) (hr : Room k (A.deeper (envOfC "_law_least_bar" (defScope s__law_least_bar) s.heap.objs.size f cdv))) :
    MSs (cxOf (L2.CX P w) P w K mg base ["_law_sky_here", "_law_report_here", "_law_lot", "_law_number"] "_law_least_bar" (defScope s__law_least_bar) f cdv A outer s H E) cf (fun c d _ H => E c d H) (defBody s__law_least_bar) F__law_least_bar :=
  have nd := nd__law_least_bar
  have tk : Takes (cxOf (L2.CX P w) P w K mg base ["_law_sky_here", "_law_report_here", "_law_lot", "_law_number"] "_law_least_bar" (defScope s__law_least_bar) f cdv A outer s H E) (fun c d _ H => E c d H) := takes_of rfl rfl rfl rfl
  (mss_cons (ms_for (passes_of rfl) rfl (mi_seq (me_call C.c__law_lots hA hr tk (by rfl) (ma_cons (me_len (by rfl) g.f_len (ma_cons (me_var (pv 1)) ma_nil)) ma_nil))) (mg_name (i := 2) nd rfl (by first | exact Or.inl rfl | exact Or.inr rfl))
  (mss_one (ms_if (mt_c (cm_eq hr) (me_call C.c__law_views hA hr tk (by rfl) (ma_cons (me_var (pv 0)) (ma_cons (me_comp (own := [("_law_number", 3)]) rfl nd (mi_seq (me_var (pv 2))) (blkOk_by (N := ["_law_sky_here", "_law_report_here", "_law_lot", "_law_number"]) (sc := defScope s__law_least_bar) (own := [("_law_number", 3)]) (by decide +kernel)) (by decide) (fun _ _ _ _ _ => (mg_name (i := 3) nd rfl (by first | exact Or.inl rfl | exact Or.inr rfl))) (fun _ _ _ _ _ => mts_nil) (fun _ _ _ _ _ => (me_at (me_var (pv 1)) (me_var (pv 3))))) ma_nil))) (me_lst ma_nil) (by rfl))
  (mss_one (ms_ret (me_var (pv 2))))
  mss_nil)))
  (mss_one (ms_ret me_non)))
theorem nd_law : (["_law_script", "_law_k", "_law_pen_here", "_law_sky_here", "_law_one", "_law_reports", "_law_report_here", "_law_kept", "_law_some", "_law_due", "_law_lap", "_law_fixed", "_law_light"] : List Str).Nodup := by decide +kernel
theorem sc_law : FnScope ["_law_script", "_law_k", "_law_pen_here", "_law_sky_here", "_law_one", "_law_reports", "_law_report_here", "_law_kept", "_law_some", "_law_due", "_law_lap", "_law_fixed", "_law_light"] ["_law_script"] (defScope s_law) := ⟨rfl, rfl, rfl, nd_law, rfl, by decide +kernel, by decide +kernel⟩
theorem ok_law (g : GL K mg) (C : CL P w K mg base cf k) (hA : A.guards = some []) (hr : Room k (A.deeper (envOfC "law" (defScope s_law) s.heap.objs.size f cdv))) :
    MSs (cxOf (L2.CX P w) P w K mg base ["_law_script", "_law_k", "_law_pen_here", "_law_sky_here", "_law_one", "_law_reports", "_law_report_here", "_law_kept", "_law_some", "_law_due", "_law_lap", "_law_fixed", "_law_light"] "law" (defScope s_law) f cdv A outer s H E) cf (fun c d _ H => E c d H) (defBody s_law) F_law :=
  have nd := nd_law
  have tk : Takes (cxOf (L2.CX P w) P w K mg base ["_law_script", "_law_k", "_law_pen_here", "_law_sky_here", "_law_one", "_law_reports", "_law_report_here", "_law_kept", "_law_some", "_law_due", "_law_lap", "_law_fixed", "_law_light"] "law" (defScope s_law) f cdv A outer s H E) (fun c d _ H => E c d H) := takes_of rfl rfl rfl rfl
  (mss_cons (ms_for (passes_of rfl) rfl (mi_range1 (by rfl) g.f_range (ma_cons (me_max2 rfl (by rfl) g.f_max (ma_cons me_int (ma_cons (me_min2 rfl (by rfl) g.f_min (ma_cons (me_len (by rfl) g.f_len (ma_cons (me_var (pv 0)) ma_nil)) (ma_cons me_int ma_nil))) ma_nil))) ma_nil)) (mg_name (i := 1) nd rfl (by first | exact Or.inl rfl | exact Or.inr rfl))
  (mss_cons (ms_set (i := 2) nd rfl (by first | exact Or.inl rfl | exact Or.inr rfl) (me_call C.c__law_pen hA hr tk (by rfl) (ma_cons (me_call C.c__law_cell_at hA hr tk (by rfl) (ma_cons (me_var (pv 0)) (ma_cons (me_var (pv 1)) ma_nil))) ma_nil)))
  (mss_cons (ms_set (i := 3) nd rfl (by first | exact Or.inl rfl | exact Or.inr rfl) (me_call C.c__law_sky hA hr tk (by rfl) (ma_cons (me_var (pv 2)) (ma_cons me_int ma_nil))))
  (mss_cons (ms_set (i := 4) nd rfl (by first | exact Or.inl rfl | exact Or.inr rfl) (me_call C.c__law_any_cell hA hr tk (by rfl) (ma_cons (me_var (pv 2)) (ma_cons (me_var (pv 3)) ma_nil))))
  (mss_cons (ms_new (i := 5) nd rfl (by first | exact Or.inl rfl | exact Or.inr rfl) (ma_cons (me_call C.c__law_report hA hr tk (by rfl) (ma_cons (me_var (pv 2)) (ma_cons (me_var (pv 3)) (ma_cons me_int (ma_cons me_int ma_nil))))) (ma_cons (me_call C.c__law_report hA hr tk (by rfl) (ma_cons (me_var (pv 2)) (ma_cons (me_var (pv 3)) (ma_cons me_int (ma_cons me_int ma_nil))))) (ma_cons (me_call C.c__law_report hA hr tk (by rfl) (ma_cons (me_var (pv 2)) (ma_cons (me_var (pv 3)) (ma_cons me_int (ma_cons me_int ma_nil))))) ma_nil))))
  (mss_cons (ms_app (pv 5) (me_tuple (by rfl) g.f_tuple (ma_cons (me_comp (own := [("_law_light", 12)]) rfl nd (mi_range1 (by rfl) g.f_range (ma_cons (me_len (by rfl) g.f_len (ma_cons (me_at (me_var (pv 3)) me_int) ma_nil)) ma_nil)) (blkOk_by (N := ["_law_script", "_law_k", "_law_pen_here", "_law_sky_here", "_law_one", "_law_reports", "_law_report_here", "_law_kept", "_law_some", "_law_due", "_law_lap", "_law_fixed", "_law_light"]) (sc := defScope s_law) (own := [("_law_light", 12)]) (by decide +kernel)) (by decide) (fun _ _ _ _ _ => (mg_name (i := 12) nd rfl (by first | exact Or.inl rfl | exact Or.inr rfl))) (fun _ _ _ _ _ => mts_nil) (fun _ _ _ _ _ => (me_tup (ma_cons (me_var (pv 12)) (ma_cons (me_var (pv 4)) ma_nil))))) ma_nil)))
  (mss_freeze (mss_one (ms_for (passes_of rfl) rfl (mi_seq (me_var (pv 5))) (mg_name (i := 6) nd rfl (by first | exact Or.inl rfl | exact Or.inr rfl))
  (mss_cons (ms_par2 (i := 7) (j := 8) rfl nd rfl rfl (by decide) rfl rfl (ma_cons (me_repr hA hr (by rfl) g.f_repr (ma_cons (me_tup (ma_cons (me_var (pv 3)) (ma_cons (me_var (pv 6)) ma_nil))) ma_nil)) (ma_cons (me_call C.c__law_views hA hr tk (by rfl) (ma_cons (me_var (pv 3)) (ma_cons (me_var (pv 6)) ma_nil))) ma_nil)) rfl)
  (mss_cons (ms_set (i := 9) nd rfl (by first | exact Or.inl rfl | exact Or.inr rfl) (me_repr hA hr (by rfl) g.f_repr (ma_cons (me_if (mt_c (cm_ne hr) (me_var (pv 8)) (me_lst ma_nil) (by rfl)) (me_tup (ma_cons me_str (ma_cons (me_at (me_var (pv 8)) me_int) ma_nil))) (me_tup (ma_cons me_str (ma_cons (me_call C.c__law_least_bar hA hr tk (by rfl) (ma_cons (me_var (pv 3)) (ma_cons (me_var (pv 6)) ma_nil))) ma_nil)))) ma_nil)))
  (mss_one (ms_for (passes_of rfl) rfl (mi_range1 (by rfl) g.f_range (ma_cons me_int ma_nil)) (mg_name (i := 10) nd rfl (by first | exact Or.inl rfl | exact Or.inr rfl))
  (mss_one (ms_if (mt_w (mw_or (mt_c (cm_ne hr) (me_repr hA hr (by rfl) g.f_repr (ma_cons (me_call C.c_led_back hA hr tk (by rfl) (ma_cons (me_var (pv 3)) (ma_cons (me_var (pv 6)) ma_nil))) ma_nil)) (me_var (pv 9)) (by rfl)) (mw_or1 (mt_c (cm_ne hr) (me_repr hA hr (by rfl) g.f_repr (ma_cons (me_tup (ma_cons (me_var (pv 3)) (ma_cons (me_var (pv 6)) ma_nil))) ma_nil)) (me_var (pv 7)) (by rfl)))))
  (mss_one (ms_ret me_bl))
  mss_nil)))))))))))))))
  (mss_cons (ms_set (i := 11) nd rfl (by first | exact Or.inl rfl | exact Or.inr rfl) (me_tup (ma_cons me_int (ma_cons me_int (ma_cons (me_tup (ma_cons (me_tup (ma_cons me_int (ma_cons me_int (ma_cons (me_tup (ma_cons me_int ma_nil)) ma_nil)))) (ma_cons (me_tup (ma_cons me_int (ma_cons me_int (ma_cons (me_tup (ma_cons me_int ma_nil)) ma_nil)))) ma_nil))) ma_nil)))))
  (mss_cons (ms_if (mt_c (cm_ne hr) (me_call C.c_led_back hA hr tk (by rfl) (ma_cons (me_var (pv 11)) (ma_cons (me_tup (ma_cons (me_tup (ma_cons me_int (ma_cons (me_tup (ma_cons me_int (ma_cons me_int ma_nil))) ma_nil))) (ma_cons (me_tup (ma_cons me_int (ma_cons (me_tup (ma_cons me_int (ma_cons me_int ma_nil))) ma_nil))) (ma_cons (me_tup (ma_cons me_int (ma_cons (me_tup (ma_cons me_int (ma_cons me_int ma_nil))) ma_nil))) (ma_cons (me_tup (ma_cons me_int (ma_cons (me_tup (ma_cons me_int (ma_cons me_int ma_nil))) ma_nil))) ma_nil))))) ma_nil))) (me_tup (ma_cons me_str (ma_cons (me_tup (ma_cons me_int (ma_cons me_int ma_nil))) ma_nil))) (by rfl))
  (mss_one (ms_ret me_bl))
  mss_nil)
  (mss_cons (ms_if (mt_w (mw_or (mt_c (cm_ne hr) (me_call C.c_led_back hA hr tk (by rfl) (ma_cons (me_var (pv 11)) (ma_cons (me_tup (ma_cons (me_tup (ma_cons me_int (ma_cons (me_tup (ma_cons me_int (ma_cons me_int ma_nil))) ma_nil))) (ma_cons (me_tup (ma_cons me_int (ma_cons me_non ma_nil))) ma_nil))) ma_nil))) (me_tup (ma_cons me_str (ma_cons (me_tup (ma_cons me_int (ma_cons me_int ma_nil))) ma_nil))) (by rfl)) (mw_or1 (mt_c (cm_ne hr) (me_call C.c_led_back hA hr tk (by rfl) (ma_cons (me_var (pv 11)) (ma_cons (me_tup ma_nil) ma_nil))) (me_tup (ma_cons me_str (ma_cons (me_tup (ma_cons me_int (ma_cons me_int (ma_cons (me_neg me_int) ma_nil)))) ma_nil))) (by rfl)))))
  (mss_one (ms_ret me_bl))
  mss_nil)
  (mss_one (ms_ret (me_c (cm_eq hr) (me_call C.c_led_back hA hr tk (by rfl) (ma_cons (me_var (pv 11)) (ma_cons (me_tup (ma_cons (me_tup (ma_cons me_int (ma_cons (me_tup (ma_cons me_int (ma_cons me_int ma_nil))) ma_nil))) (ma_cons (me_tup (ma_cons me_int (ma_cons (me_tup (ma_cons me_int (ma_cons me_int ma_nil))) ma_nil))) ma_nil))) ma_nil))) (me_tup (ma_cons me_str (ma_cons (me_tup (ma_cons me_int (ma_cons me_int (ma_cons me_int ma_nil)))) ma_nil))) (by rfl))))))))
end
end Q

set_option maxHeartbeats 0
namespace Q
open PySem PySem.Spec PyProof.Rows L2
theorem ob_eq (s : PySem.W.SharedT) : ob s = hk.obs s.abs := He.obsX_eq (HandSHeadRun.getT_eq s)
structure DL (K : PySem.W.Frag) (mg : Str → Option Value) : Prop where
  d_is_whole : ∃ fd, DQ K mg "is_whole" "is_whole" "is_whole" (defArgs s_is_whole) (defBody s_is_whole) (defScope s_is_whole) ["thing"] ["thing"] (He.ga K "is_whole") fd
  d_is_among : ∃ fd, DQ K mg "is_among" "is_among" "is_among" (defArgs s_is_among) (defBody s_is_among) (defScope s_is_among) ["thing", "low", "high"] ["thing", "low", "high"] (He.ga K "is_among") fd
  d_is_row : ∃ fd, DQ K mg "is_row" "is_row" "is_row" (defArgs s_is_row) (defBody s_is_row) (defScope s_is_row) ["thing", "low", "high"] ["thing", "low", "high"] (He.ga K "is_row") fd
  d_is_light_of : ∃ fd, DQ K mg "is_light_of" "is_light_of" "is_light_of" (defArgs s_is_light_of) (defBody s_is_light_of) (defScope s_is_light_of) ["thing", "wide", "high", "row"] ["thing", "wide", "high"] (He.ga K "is_light_of") fd
  d_is_sky : ∃ fd, DQ K mg "is_sky" "is_sky" "is_sky" (defArgs s_is_sky) (defBody s_is_sky) (defScope s_is_sky) ["thing", "light"] ["thing"] (He.ga K "is_sky") fd
  d_need_sky : ∃ fd, DQ K mg "need_sky" "need_sky" "need_sky" (defArgs s_need_sky) (defBody s_need_sky) (defScope s_need_sky) ["thing"] ["thing"] (He.ga K "need_sky") fd
  d_stands_by : ∃ fd, DQ K mg "stands_by" "stands_by" "stands_by" (defArgs s_stands_by) (defBody s_stands_by) (defScope s_stands_by) ["sky", "light", "moment", "wide", "high", "lights", "column", "speed", "rows"] ["sky", "light", "moment"] (He.ga K "stands_by") fd
  d_is_back : ∃ fd, DQ K mg "is_back" "is_back" "is_back" (defArgs s_is_back) (defBody s_is_back) (defScope s_is_back) ["light", "wide", "many", "column", "speed", "rows", "number", "row"] ["light", "wide", "many"] (He.ga K "is_back") fd
  d_round_of : ∃ fd, DQ K mg "round_of" "round_of" "round_of" (defArgs s_round_of) (defBody s_round_of) (defScope s_round_of) ["sky", "wide", "high", "lights", "many", "light"] ["sky"] (He.ga K "round_of") fd
  d_half_of : ∃ fd, DQ K mg "half_of" "half_of" "half_of" (defArgs s_half_of) (defBody s_half_of) (defScope s_half_of) ["sky"] ["sky"] (He.ga K "half_of") fd
  d_is_cell : ∃ fd, DQ K mg "is_cell" "is_cell" "is_cell" (defArgs s_is_cell) (defBody s_is_cell) (defScope s_is_cell) ["sky", "thing"] ["sky", "thing"] (He.ga K "is_cell") fd
  d_up_by : ∃ fd, DQ K mg "up_by" "up_by" "up_by" (defArgs s_up_by) (defBody s_up_by) (defScope s_up_by) ["sky", "light", "east", "north", "moment", "column", "row", "cell"] ["sky", "light", "east", "north", "moment"] (He.ga K "up_by") fd
  d_is_part : ∃ fd, DQ K mg "is_part" "is_part" "is_part" (defArgs s_is_part) (defBody s_is_part) (defScope s_is_part) ["sky", "thing"] ["sky", "thing"] (He.ga K "is_part") fd
  d_need_report : ∃ fd, DQ K mg "need_report" "need_report" "need_report" (defArgs s_need_report) (defBody s_need_report) (defScope s_need_report) ["sky", "thing", "part"] ["sky", "thing"] (He.ga K "need_report") fd
  d_places_of : ∃ fd, DQ K mg "places_of" "places_of" "places_of" (defArgs s_places_of) (defBody s_places_of) (defScope s_places_of) ["sky", "wide", "high", "lights", "east", "north"] ["sky"] (He.ga K "places_of") fd
  d_all_views : ∃ fd, DQ K mg "all_views" "all_views" "all_views" (defArgs s_all_views) (defBody s_all_views) (defScope s_all_views) ["sky", "places", "moment", "place"] ["sky"] (He.ga K "all_views") fd
  d_so_at : ∃ fd, DQ K mg "so_at" "so_at" "so_at" (defArgs s_so_at) (defBody s_so_at) (defScope s_so_at) ["sky", "report", "view", "moment", "east", "north", "found", "light", "cell", "number", "own"] ["sky", "report", "view"] (He.ga K "so_at") fd
  d_lots_so : ∃ fd, DQ K mg "lots_so" "lots_so" "lots_so" (defArgs s_lots_so) (defBody s_lots_so) (defScope s_lots_so) ["sky", "report", "found", "view"] ["sky", "report"] (He.ga K "lots_so") fd
  d_lots_of : ∃ fd, DQ K mg "lots_of" "lots_of" "lots_of" (defArgs s_lots_of) (defBody s_lots_of) (defScope s_lots_of) ["many", "found", "number", "lot"] ["many"] (He.ga K "lots_of") fd
  d_are_apart : ∃ fd, DQ K mg "are_apart" "are_apart" "are_apart" (defArgs s_are_apart) (defBody s_are_apart) (defScope s_are_apart) ["lot", "some", "row", "number"] ["lot", "some"] (He.ga K "are_apart") fd
  d_led_back : ∃ fd, DQ K mg "led_back" "led_back" "led_back" (defArgs s_led_back) (defBody s_led_back) (defScope s_led_back) ["sky", "report", "found", "every", "lot"] ["sky", "report"] (He.ga K "led_back") fd
  d__law_cell_at : ∃ fd, DQ K mg "_law_cell_at" "_law_cell_at" "_law_cell_at" (defArgs s__law_cell_at) (defBody s__law_cell_at) (defScope s__law_cell_at) ["_law_script", "_law_k"] ["_law_script", "_law_k"] (He.ga K "_law_cell_at") fd
  d__law_pen : ∃ fd, DQ K mg "_law_pen" "_law_pen" "_law_pen" (defArgs s__law_pen) (defBody s__law_pen) (defScope s__law_pen) ["_law_cell_here"] ["_law_cell_here"] (He.ga K "_law_pen") fd
  d__law_draw : ∃ fd, DQ K mg "_law_draw" "_law_draw" "_law_draw" (defArgs s__law_draw) (defBody s__law_draw) (defScope s__law_draw) ["_law_pen_here", "_law_many", "_law_found", "_law_stirred"] ["_law_pen_here", "_law_many"] (He.ga K "_law_draw") fd
  d__law_pick : ∃ fd, DQ K mg "_law_pick" "_law_pick" "_law_pick" (defArgs s__law_pick) (defBody s__law_pick) (defScope s__law_pick) ["_law_pen_here", "_law_some"] ["_law_pen_here", "_law_some"] (He.ga K "_law_pick") fd
  d__law_sky : ∃ fd, DQ K mg "_law_sky" "_law_sky" "_law_sky" (defArgs s__law_sky) (defBody s__law_sky) (defScope s__law_sky) ["_law_pen_here", "_law_most", "_law_wide", "_law_high", "_law_lights", "_law_longs", "_law_lap", "_law_speed", "_law_rows", "_law_turn"] ["_law_pen_here", "_law_most"] (He.ga K "_law_sky") fd
  d__law_gcd : ∃ fd, DQ K mg "_law_gcd" "_law_gcd" "_law_gcd" (defArgs s__law_gcd) (defBody s__law_gcd) (defScope s__law_gcd) ["_law_one", "_law_other"] ["_law_one", "_law_other"] (He.ga K "_law_gcd") fd
  d__law_round : ∃ fd, DQ K mg "_law_round" "_law_round" "_law_round" (defArgs s__law_round) (defBody s__law_round) (defScope s__law_round) ["_law_sky_here", "_law_found", "_law_column", "_law_speed", "_law_rows", "_law_many", "_law_one", "_law_more"] ["_law_sky_here"] (He.ga K "_law_round") fd
  d__law_cell : ∃ fd, DQ K mg "_law_cell" "_law_cell" "_law_cell" (defArgs s__law_cell) (defBody s__law_cell) (defScope s__law_cell) ["_law_sky_here", "_law_light", "_law_view_here", "_law_column", "_law_speed", "_law_rows", "_law_across", "_law_up"] ["_law_sky_here", "_law_light", "_law_view_here"] (He.ga K "_law_cell") fd
  d__law_places : ∃ fd, DQ K mg "_law_places" "_law_places" "_law_places" (defArgs s__law_places) (defBody s__law_places) (defScope s__law_places) ["_law_sky_here", "_law_found", "_law_east", "_law_north"] ["_law_sky_here"] (He.ga K "_law_places") fd
  d__law_views : ∃ fd, DQ K mg "_law_views" "_law_views" "_law_views" (defArgs s__law_views) (defBody s__law_views) (defScope s__law_views) ["_law_sky_here", "_law_report_here", "_law_found", "_law_moment", "_law_some", "_law_light", "_law_cell_here", "_law_place"] ["_law_sky_here", "_law_report_here"] (He.ga K "_law_views") fd
  d__law_view : ∃ fd, DQ K mg "_law_view" "_law_view" "_law_view" (defArgs s__law_view) (defBody s__law_view) (defScope s__law_view) ["_law_pen_here", "_law_sky_here", "_law_east", "_law_north"] ["_law_pen_here", "_law_sky_here"] (He.ga K "_law_view") fd
  d__law_any_cell : ∃ fd, DQ K mg "_law_any_cell" "_law_any_cell" "_law_any_cell" (defArgs s__law_any_cell) (defBody s__law_any_cell) (defScope s__law_any_cell) ["_law_pen_here", "_law_sky_here", "_law_cell_here"] ["_law_pen_here", "_law_sky_here"] (He.ga K "_law_any_cell") fd
  d__law_report : ∃ fd, DQ K mg "_law_report" "_law_report" "_law_report" (defArgs s__law_report) (defBody s__law_report) (defScope s__law_report) ["_law_pen_here", "_law_sky_here", "_law_most", "_law_lies", "_law_view_here", "_law_found", "_law_lap", "_law_light", "_law_cell_here"] ["_law_pen_here", "_law_sky_here", "_law_most", "_law_lies"] (He.ga K "_law_report") fd
  d__law_lots : ∃ fd, DQ K mg "_law_lots" "_law_lots" "_law_lots" (defArgs s__law_lots) (defBody s__law_lots) (defScope s__law_lots) ["_law_many", "_law_found", "_law_number", "_law_size", "_law_lot"] ["_law_many"] (He.ga K "_law_lots") fd
  d__law_least_bar : ∃ fd, DQ K mg "_law_least_bar" "_law_least_bar" "_law_least_bar" (defArgs s__law_least_bar) (defBody s__law_least_bar) (defScope s__law_least_bar) ["_law_sky_here", "_law_report_here", "_law_lot", "_law_number"] ["_law_sky_here", "_law_report_here"] (He.ga K "_law_least_bar") fd
  d_law : ∃ fd, DQ K mg "law" "law" "law" (defArgs s_law) (defBody s_law) (defScope s_law) ["_law_script", "_law_k", "_law_pen_here", "_law_sky_here", "_law_one", "_law_reports", "_law_report_here", "_law_kept", "_law_some", "_law_due", "_law_lap", "_law_fixed", "_law_light"] ["_law_script"] (He.ga K "law") fd
theorem facts {K : PySem.W.Frag} {h : Heap} {mg : Str → Option Value} (X : K.In h) (G : h.Ns mainGlobals mg) (cx : He.SaysD fa fn K ∧ consB cs K = true) : GL K mg ∧ DL K mg := by
  obtain ⟨c, cx⟩ := cx
  refine ⟨⟨?_, ?_, ?_, ?_, ?_, ?_, ?_, ?_, ?_, ?_, ?_, ?_, ?_, ?_, ?_, ?_, ?_, ?_, ?_, ?_, ?_, ?_, ?_, ?_, ?_, ?_⟩, ⟨?_, ?_, ?_, ?_, ?_, ?_, ?_, ?_, ?_, ?_, ?_, ?_, ?_, ?_, ?_, ?_, ?_, ?_, ?_, ?_, ?_, ?_, ?_, ?_, ?_, ?_, ?_, ?_, ?_, ?_, ?_, ?_, ?_, ?_, ?_, ?_, ?_⟩⟩
  · exact He.free_ok X G (c.fact 37 (f := .free "abs") rfl)
  · exact He.free_ok X G (c.fact 38 (f := .free "all") rfl)
  · exact He.free_ok X G (c.fact 39 (f := .free "any") rfl)
  · exact He.free_ok X G (c.fact 40 (f := .free "bool") rfl)
  · exact He.free_ok X G (c.fact 41 (f := .free "enumerate") rfl)
  · exact He.free_ok X G (c.fact 42 (f := .free "int") rfl)
  · exact He.free_ok X G (c.fact 43 (f := .free "isinstance") rfl)
  · exact He.free_ok X G (c.fact 44 (f := .free "len") rfl)
  · exact He.free_ok X G (c.fact 45 (f := .free "list") rfl)
  · exact He.free_ok X G (c.fact 46 (f := .free "max") rfl)
  · exact He.free_ok X G (c.fact 47 (f := .free "min") rfl)
  · exact He.free_ok X G (c.fact 48 (f := .free "range") rfl)
  · exact He.free_ok X G (c.fact 49 (f := .free "repr") rfl)
  · exact He.free_ok X G (c.fact 50 (f := .free "sorted") rfl)
  · exact He.free_ok X G (c.fact 51 (f := .free "tuple") rfl)
  · exact He.int_ok X G (c.fact 52 (f := .int "LEAST_WIDE" 4) rfl)
  · exact He.int_ok X G (c.fact 53 (f := .int "MOST_HIGH" 5) rfl)
  · exact He.int_ok X G (c.fact 54 (f := .int "MOST_LIGHTS" 6) rfl)
  · exact He.int_ok X G (c.fact 55 (f := .int "MOST_PARTS" 6) rfl)
  · exact He.int_ok X G (c.fact 56 (f := .int "MOST_ROWS" 4) rfl)
  · exact He.int_ok X G (c.fact 57 (f := .int "MOST_SPEED" 9) rfl)
  · exact He.int_ok X G (c.fact 58 (f := .int "MOST_WIDE" 12) rfl)
  · exact He.str_ok X G (c.fact 59 (f := .str "NEVER" "never") rfl)
  · exact He.str_ok X G (c.fact 60 (f := .str "SEEN" "seen") rfl)
  · exact ⟨_, He.glo_ok X G (c.fact 61 (f := .glo "NoReport") rfl), He.exc_ok (c.fact 62 (f := .exc "NoReport") rfl)⟩
  · exact ⟨_, He.glo_ok X G (c.fact 63 (f := .glo "NoSky") rfl), He.exc_ok (c.fact 64 (f := .exc "NoSky") rfl)⟩
  · obtain ⟨fd, F⟩ := c.def_ 0 (d := d_is_whole) rfl
    exact ⟨fd, F, sc_is_whole, He.glo_ok X G (c.fact 0 (f := .glo "is_whole") rfl), F.bindsN fun _ _ _ _ _ _ us hl => match us, hl with | [_], _ => rfl⟩
  · obtain ⟨fd, F⟩ := c.def_ 1 (d := d_is_among) rfl
    exact ⟨fd, F, sc_is_among, He.glo_ok X G (c.fact 1 (f := .glo "is_among") rfl), F.bindsN fun _ _ _ _ _ _ us hl => match us, hl with | [_, _, _], _ => rfl⟩
  · obtain ⟨fd, F⟩ := c.def_ 2 (d := d_is_row) rfl
    exact ⟨fd, F, sc_is_row, He.glo_ok X G (c.fact 2 (f := .glo "is_row") rfl), F.bindsN fun _ _ _ _ _ _ us hl => match us, hl with | [_, _, _], _ => rfl⟩
  · obtain ⟨fd, F⟩ := c.def_ 3 (d := d_is_light_of) rfl
    exact ⟨fd, F, sc_is_light_of, He.glo_ok X G (c.fact 3 (f := .glo "is_light_of") rfl), F.bindsN fun _ _ _ _ _ _ us hl => match us, hl with | [_, _, _], _ => rfl⟩
  · obtain ⟨fd, F⟩ := c.def_ 4 (d := d_is_sky) rfl
    exact ⟨fd, F, sc_is_sky, He.glo_ok X G (c.fact 4 (f := .glo "is_sky") rfl), F.bindsN fun _ _ _ _ _ _ us hl => match us, hl with | [_], _ => rfl⟩
  · obtain ⟨fd, F⟩ := c.def_ 5 (d := d_need_sky) rfl
    exact ⟨fd, F, sc_need_sky, He.glo_ok X G (c.fact 5 (f := .glo "need_sky") rfl), F.bindsN fun _ _ _ _ _ _ us hl => match us, hl with | [_], _ => rfl⟩
  · obtain ⟨fd, F⟩ := c.def_ 6 (d := d_stands_by) rfl
    exact ⟨fd, F, sc_stands_by, He.glo_ok X G (c.fact 6 (f := .glo "stands_by") rfl), F.bindsN fun _ _ _ _ _ _ us hl => match us, hl with | [_, _, _], _ => rfl⟩
  · obtain ⟨fd, F⟩ := c.def_ 7 (d := d_is_back) rfl
    exact ⟨fd, F, sc_is_back, He.glo_ok X G (c.fact 7 (f := .glo "is_back") rfl), F.bindsN fun _ _ _ _ _ _ us hl => match us, hl with | [_, _, _], _ => rfl⟩
  · obtain ⟨fd, F⟩ := c.def_ 8 (d := d_round_of) rfl
    exact ⟨fd, F, sc_round_of, He.glo_ok X G (c.fact 8 (f := .glo "round_of") rfl), F.bindsN fun _ _ _ _ _ _ us hl => match us, hl with | [_], _ => rfl⟩
  · obtain ⟨fd, F⟩ := c.def_ 9 (d := d_half_of) rfl
    exact ⟨fd, F, sc_half_of, He.glo_ok X G (c.fact 9 (f := .glo "half_of") rfl), F.bindsN fun _ _ _ _ _ _ us hl => match us, hl with | [_], _ => rfl⟩
  · obtain ⟨fd, F⟩ := c.def_ 10 (d := d_is_cell) rfl
    exact ⟨fd, F, sc_is_cell, He.glo_ok X G (c.fact 10 (f := .glo "is_cell") rfl), F.bindsN fun _ _ _ _ _ _ us hl => match us, hl with | [_, _], _ => rfl⟩
  · obtain ⟨fd, F⟩ := c.def_ 11 (d := d_up_by) rfl
    exact ⟨fd, F, sc_up_by, He.glo_ok X G (c.fact 11 (f := .glo "up_by") rfl), F.bindsN fun _ _ _ _ _ _ us hl => match us, hl with | [_, _, _, _, _], _ => rfl⟩
  · obtain ⟨fd, F⟩ := c.def_ 12 (d := d_is_part) rfl
    exact ⟨fd, F, sc_is_part, He.glo_ok X G (c.fact 12 (f := .glo "is_part") rfl), F.bindsN fun _ _ _ _ _ _ us hl => match us, hl with | [_, _], _ => rfl⟩
  · obtain ⟨fd, F⟩ := c.def_ 13 (d := d_need_report) rfl
    exact ⟨fd, F, sc_need_report, He.glo_ok X G (c.fact 13 (f := .glo "need_report") rfl), F.bindsN fun _ _ _ _ _ _ us hl => match us, hl with | [_, _], _ => rfl⟩
  · obtain ⟨fd, F⟩ := c.def_ 14 (d := d_places_of) rfl
    exact ⟨fd, F, sc_places_of, He.glo_ok X G (c.fact 14 (f := .glo "places_of") rfl), F.bindsN fun _ _ _ _ _ _ us hl => match us, hl with | [_], _ => rfl⟩
  · obtain ⟨fd, F⟩ := c.def_ 15 (d := d_all_views) rfl
    exact ⟨fd, F, sc_all_views, He.glo_ok X G (c.fact 15 (f := .glo "all_views") rfl), F.bindsN fun _ _ _ _ _ _ us hl => match us, hl with | [_], _ => rfl⟩
  · obtain ⟨fd, F⟩ := c.def_ 16 (d := d_so_at) rfl
    exact ⟨fd, F, sc_so_at, He.glo_ok X G (c.fact 16 (f := .glo "so_at") rfl), F.bindsN fun _ _ _ _ _ _ us hl => match us, hl with | [_, _, _], _ => rfl⟩
  · obtain ⟨fd, F⟩ := c.def_ 17 (d := d_lots_so) rfl
    exact ⟨fd, F, sc_lots_so, He.glo_ok X G (c.fact 17 (f := .glo "lots_so") rfl), F.bindsN fun _ _ _ _ _ _ us hl => match us, hl with | [_, _], _ => rfl⟩
  · obtain ⟨fd, F⟩ := c.def_ 18 (d := d_lots_of) rfl
    exact ⟨fd, F, sc_lots_of, He.glo_ok X G (c.fact 18 (f := .glo "lots_of") rfl), F.bindsN fun _ _ _ _ _ _ us hl => match us, hl with | [_], _ => rfl⟩
  · obtain ⟨fd, F⟩ := c.def_ 19 (d := d_are_apart) rfl
    exact ⟨fd, F, sc_are_apart, He.glo_ok X G (c.fact 19 (f := .glo "are_apart") rfl), F.bindsN fun _ _ _ _ _ _ us hl => match us, hl with | [_, _], _ => rfl⟩
  · obtain ⟨fd, F⟩ := c.def_ 20 (d := d_led_back) rfl
    exact ⟨fd, F, sc_led_back, He.glo_ok X G (c.fact 20 (f := .glo "led_back") rfl), F.bindsN fun _ _ _ _ _ _ us hl => match us, hl with | [_, _], _ => rfl⟩
  · obtain ⟨fd, F⟩ := c.def_ 21 (d := d__law_cell_at) rfl
    exact ⟨fd, F, sc__law_cell_at, He.glo_ok X G (c.fact 21 (f := .glo "_law_cell_at") rfl), F.bindsN fun _ _ _ _ _ _ us hl => match us, hl with | [_, _], _ => rfl⟩
  · obtain ⟨fd, F⟩ := c.def_ 22 (d := d__law_pen) rfl
    exact ⟨fd, F, sc__law_pen, He.glo_ok X G (c.fact 22 (f := .glo "_law_pen") rfl), F.bindsN fun _ _ _ _ _ _ us hl => match us, hl with | [_], _ => rfl⟩
  · obtain ⟨fd, F⟩ := c.def_ 23 (d := d__law_draw) rfl
    exact ⟨fd, F, sc__law_draw, He.glo_ok X G (c.fact 23 (f := .glo "_law_draw") rfl), F.bindsN fun _ _ _ _ _ _ us hl => match us, hl with | [_, _], _ => rfl⟩
  · obtain ⟨fd, F⟩ := c.def_ 24 (d := d__law_pick) rfl
    exact ⟨fd, F, sc__law_pick, He.glo_ok X G (c.fact 24 (f := .glo "_law_pick") rfl), F.bindsN fun _ _ _ _ _ _ us hl => match us, hl with | [_, _], _ => rfl⟩
  · obtain ⟨fd, F⟩ := c.def_ 25 (d := d__law_sky) rfl
    exact ⟨fd, F, sc__law_sky, He.glo_ok X G (c.fact 25 (f := .glo "_law_sky") rfl), F.bindsN fun _ _ _ _ _ _ us hl => match us, hl with | [_, _], _ => rfl⟩
  · obtain ⟨fd, F⟩ := c.def_ 26 (d := d__law_gcd) rfl
    exact ⟨fd, F, sc__law_gcd, He.glo_ok X G (c.fact 26 (f := .glo "_law_gcd") rfl), F.bindsN fun _ _ _ _ _ _ us hl => match us, hl with | [_, _], _ => rfl⟩
  · obtain ⟨fd, F⟩ := c.def_ 27 (d := d__law_round) rfl
    exact ⟨fd, F, sc__law_round, He.glo_ok X G (c.fact 27 (f := .glo "_law_round") rfl), F.bindsN fun _ _ _ _ _ _ us hl => match us, hl with | [_], _ => rfl⟩
  · obtain ⟨fd, F⟩ := c.def_ 28 (d := d__law_cell) rfl
    exact ⟨fd, F, sc__law_cell, He.glo_ok X G (c.fact 28 (f := .glo "_law_cell") rfl), F.bindsN fun _ _ _ _ _ _ us hl => match us, hl with | [_, _, _], _ => rfl⟩
  · obtain ⟨fd, F⟩ := c.def_ 29 (d := d__law_places) rfl
    exact ⟨fd, F, sc__law_places, He.glo_ok X G (c.fact 29 (f := .glo "_law_places") rfl), F.bindsN fun _ _ _ _ _ _ us hl => match us, hl with | [_], _ => rfl⟩
  · obtain ⟨fd, F⟩ := c.def_ 30 (d := d__law_views) rfl
    exact ⟨fd, F, sc__law_views, He.glo_ok X G (c.fact 30 (f := .glo "_law_views") rfl), F.bindsN fun _ _ _ _ _ _ us hl => match us, hl with | [_, _], _ => rfl⟩
  · obtain ⟨fd, F⟩ := c.def_ 31 (d := d__law_view) rfl
    exact ⟨fd, F, sc__law_view, He.glo_ok X G (c.fact 31 (f := .glo "_law_view") rfl), F.bindsN fun _ _ _ _ _ _ us hl => match us, hl with | [_, _], _ => rfl⟩
  · obtain ⟨fd, F⟩ := c.def_ 32 (d := d__law_any_cell) rfl
    exact ⟨fd, F, sc__law_any_cell, He.glo_ok X G (c.fact 32 (f := .glo "_law_any_cell") rfl), F.bindsN fun _ _ _ _ _ _ us hl => match us, hl with | [_, _], _ => rfl⟩
  · obtain ⟨fd, F⟩ := c.def_ 33 (d := d__law_report) rfl
    exact ⟨fd, F, sc__law_report, He.glo_ok X G (c.fact 33 (f := .glo "_law_report") rfl), F.bindsN fun _ _ _ _ _ _ us hl => match us, hl with | [_, _, _, _], _ => rfl⟩
  · obtain ⟨fd, F⟩ := c.def_ 34 (d := d__law_lots) rfl
    exact ⟨fd, F, sc__law_lots, He.glo_ok X G (c.fact 34 (f := .glo "_law_lots") rfl), F.bindsN fun _ _ _ _ _ _ us hl => match us, hl with | [_], _ => rfl⟩
  · obtain ⟨fd, F⟩ := c.def_ 35 (d := d__law_least_bar) rfl
    exact ⟨fd, F, sc__law_least_bar, He.glo_ok X G (c.fact 35 (f := .glo "_law_least_bar") rfl), F.bindsN fun _ _ _ _ _ _ us hl => match us, hl with | [_, _], _ => rfl⟩
  · obtain ⟨fd, F⟩ := c.def_ 36 (d := d_law) rfl
    exact ⟨fd, F, sc_law, He.glo_ok X G (c.fact 36 (f := .glo "law") rfl), F.bindsN fun _ _ _ _ _ _ us hl => match us, hl with | [_], _ => rfl⟩
section
variable {P : Program} {w : World} {K : PySem.W.Frag} {mg : Str → Option Value} {base : Heap}
theorem all_k (g : GL K mg) (D : DL K mg) (tb_lots_of : TBx K mg base "lots_of") : ∀ k, CL P w K mg base (callQ T k) k
  | 0 => ⟨D.d_is_whole.elim fun _ d => fn_zero d, D.d_is_among.elim fun _ d => fn_zero d, D.d_is_row.elim fun _ d => fn_zero d, D.d_is_light_of.elim fun _ d => fn_zero d, D.d_is_sky.elim fun _ d => fn_zero d, D.d_need_sky.elim fun _ d => fn_zero d, D.d_stands_by.elim fun _ d => fn_zero d, D.d_is_back.elim fun _ d => fn_zero d, D.d_round_of.elim fun _ d => fn_zero d, D.d_half_of.elim fun _ d => fn_zero d, D.d_is_cell.elim fun _ d => fn_zero d, D.d_up_by.elim fun _ d => fn_zero d, D.d_is_part.elim fun _ d => fn_zero d, D.d_need_report.elim fun _ d => fn_zero d, D.d_places_of.elim fun _ d => fn_zero d, D.d_all_views.elim fun _ d => fn_zero d, D.d_so_at.elim fun _ d => fn_zero d, D.d_lots_so.elim fun _ d => fn_zero d, D.d_lots_of.elim fun _ d => fn_zero d, D.d_are_apart.elim fun _ d => fn_zero d, D.d_led_back.elim fun _ d => fn_zero d, D.d__law_cell_at.elim fun _ d => fn_zero d, D.d__law_pen.elim fun _ d => fn_zero d, D.d__law_draw.elim fun _ d => fn_zero d, D.d__law_pick.elim fun _ d => fn_zero d, D.d__law_sky.elim fun _ d => fn_zero d, D.d__law_gcd.elim fun _ d => fn_zero d, D.d__law_round.elim fun _ d => fn_zero d, D.d__law_cell.elim fun _ d => fn_zero d, D.d__law_places.elim fun _ d => fn_zero d, D.d__law_views.elim fun _ d => fn_zero d, D.d__law_view.elim fun _ d => fn_zero d, D.d__law_any_cell.elim fun _ d => fn_zero d, D.d__law_report.elim fun _ d => fn_zero d, D.d__law_lots.elim fun _ d => fn_zero d, D.d__law_least_bar.elim fun _ d => fn_zero d, D.d_law.elim fun _ d => fn_zero d⟩
  | k + 1 => by
    have C := all_k g D tb_lots_of k
    exact ⟨D.d_is_whole.elim fun _ d => fn_succ d T_is_whole rfl rfl (by decide) fun _ _ _ _ _ _ hA hr => ok_is_whole g C hA hr,
      D.d_is_among.elim fun _ d => fn_succ d T_is_among rfl rfl (by decide) fun _ _ _ _ _ _ hA hr => ok_is_among g C hA hr,
      D.d_is_row.elim fun _ d => fn_succ d T_is_row rfl rfl (by decide) fun _ _ _ _ _ _ hA hr => ok_is_row g C hA hr,
      D.d_is_light_of.elim fun _ d => fn_succ d T_is_light_of rfl rfl (by decide) fun _ _ _ _ _ _ hA hr => ok_is_light_of g C hA hr,
      D.d_is_sky.elim fun _ d => fn_succ d T_is_sky rfl rfl (by decide) fun _ _ _ _ _ _ hA hr => ok_is_sky g C hA hr,
      D.d_need_sky.elim fun _ d => fn_succ d T_need_sky rfl rfl (by decide) fun _ _ _ _ _ _ hA hr => ok_need_sky g C hA hr,
      D.d_stands_by.elim fun _ d => fn_succ d T_stands_by rfl rfl (by decide) fun _ _ _ _ _ _ hA hr => ok_stands_by g C hA hr,
      D.d_is_back.elim fun _ d => fn_succ d T_is_back rfl rfl (by decide) fun _ _ _ _ _ _ hA hr => ok_is_back g C hA hr,
      D.d_round_of.elim fun _ d => fn_succ d T_round_of rfl rfl (by decide) fun _ _ _ _ _ _ hA hr => ok_round_of g C hA hr,
      D.d_half_of.elim fun _ d => fn_succ d T_half_of rfl rfl (by decide) fun _ _ _ _ _ _ hA hr => ok_half_of g C hA hr,
      D.d_is_cell.elim fun _ d => fn_succ d T_is_cell rfl rfl (by decide) fun _ _ _ _ _ _ hA hr => ok_is_cell g C hA hr,
      D.d_up_by.elim fun _ d => fn_succ d T_up_by rfl rfl (by decide) fun _ _ _ _ _ _ hA hr => ok_up_by g C hA hr,
      D.d_is_part.elim fun _ d => fn_succ d T_is_part rfl rfl (by decide) fun _ _ _ _ _ _ hA hr => ok_is_part g C hA hr,
      D.d_need_report.elim fun _ d => fn_succ d T_need_report rfl rfl (by decide) fun _ _ _ _ _ _ hA hr => ok_need_report g C hA hr,
      D.d_places_of.elim fun _ d => fn_succ d T_places_of rfl rfl (by decide) fun _ _ _ _ _ _ hA hr => ok_places_of g C hA hr,
      D.d_all_views.elim fun _ d => fn_succ d T_all_views rfl rfl (by decide) fun _ _ _ _ _ _ hA hr => ok_all_views g C hA hr,
      D.d_so_at.elim fun _ d => fn_succ d T_so_at rfl rfl (by decide) fun _ _ _ _ _ _ hA hr => ok_so_at g C hA hr,
      D.d_lots_so.elim fun _ d => fn_succ d T_lots_so rfl rfl (by decide) fun _ _ _ _ _ _ hA hr => ok_lots_so g C hA hr,
      D.d_lots_of.elim fun _ d => fn_succT d T_lots_of rfl rfl (by decide) fun _ _ _ _ _ _ hcd hA hr => ok_lots_of g C tb_lots_of hcd hA hr,
      D.d_are_apart.elim fun _ d => fn_succ d T_are_apart rfl rfl (by decide) fun _ _ _ _ _ _ hA hr => ok_are_apart g C hA hr,
      D.d_led_back.elim fun _ d => fn_succ d T_led_back rfl rfl (by decide) fun _ _ _ _ _ _ hA hr => ok_led_back g C hA hr,
      D.d__law_cell_at.elim fun _ d => fn_succ d T__law_cell_at rfl rfl (by decide) fun _ _ _ _ _ _ hA hr => ok__law_cell_at g C hA hr,
      D.d__law_pen.elim fun _ d => fn_succ d T__law_pen rfl rfl (by decide) fun _ _ _ _ _ _ hA hr => ok__law_pen g C hA hr,
      D.d__law_draw.elim fun _ d => fn_succ d T__law_draw rfl rfl (by decide) fun _ _ _ _ _ _ hA hr => ok__law_draw g C hA hr,
      D.d__law_pick.elim fun _ d => fn_succ d T__law_pick rfl rfl (by decide) fun _ _ _ _ _ _ hA hr => ok__law_pick g C hA hr,
      D.d__law_sky.elim fun _ d => fn_succ d T__law_sky rfl rfl (by decide) fun _ _ _ _ _ _ hA hr => ok__law_sky g C hA hr,
      D.d__law_gcd.elim fun _ d => fn_succ d T__law_gcd rfl rfl (by decide) fun _ _ _ _ _ _ hA hr => ok__law_gcd g C hA hr,
      D.d__law_round.elim fun _ d => fn_succ d T__law_round rfl rfl (by decide) fun _ _ _ _ _ _ hA hr => ok__law_round g C hA hr,
      D.d__law_cell.elim fun _ d => fn_succ d T__law_cell rfl rfl (by decide) fun _ _ _ _ _ _ hA hr => ok__law_cell g C hA hr,
      D.d__law_places.elim fun _ d => fn_succ d T__law_places rfl rfl (by decide) fun _ _ _ _ _ _ hA hr => ok__law_places g C hA hr,
      D.d__law_views.elim fun _ d => fn_succ d T__law_views rfl rfl (by decide) fun _ _ _ _ _ _ hA hr => ok__law_views g C hA hr,
      D.d__law_view.elim fun _ d => fn_succ d T__law_view rfl rfl (by decide) fun _ _ _ _ _ _ hA hr => ok__law_view g C hA hr,
      D.d__law_any_cell.elim fun _ d => fn_succ d T__law_any_cell rfl rfl (by decide) fun _ _ _ _ _ _ hA hr => ok__law_any_cell g C hA hr,
      D.d__law_report.elim fun _ d => fn_succ d T__law_report rfl rfl (by decide) fun _ _ _ _ _ _ hA hr => ok__law_report g C hA hr,
      D.d__law_lots.elim fun _ d => fn_succ d T__law_lots rfl rfl (by decide) fun _ _ _ _ _ _ hA hr => ok__law_lots g C hA hr,
      D.d__law_least_bar.elim fun _ d => fn_succ d T__law_least_bar rfl rfl (by decide) fun _ _ _ _ _ _ hA hr => ok__law_least_bar g C hA hr,
      D.d_law.elim fun _ d => fn_succ d T_law rfl rfl (by decide) fun _ _ _ _ _ _ hA hr => ok_law g C hA hr⟩
end
end Q

open PySem PySem.W PySem.Calls PyProof.Rows
theorem PySem.Challenge.cw_domelights_k23_led_back_or_barred_holds : PySem.Challenge.rw_domelights_k23_led_back_or_barred.Holds := by
  w_on; o_law
  refine HandSHeadRun.head_any (r := OpenLaw.row PySem.Challenge.rw_domelights_k23_led_back_or_barred) (q := view (OpenLaw.row PySem.Challenge.rw_domelights_k23_led_back_or_barred).prog [53]) (H := Q.hk) (ob := Q.ob) (M := 40000) (loose := Q.loose) (d := HandSHeadRun.topDef (OpenLaw.row PySem.Challenge.rw_domelights_k23_led_back_or_barred).prog 53) (kwd := []) Q.ob_eq
    (by kernel_rfl) (fun s => by kernel_rfl) Q.run (by kernel_rfl) (by kernel_rfl) (by kernel_rfl) (by rfl) (by first | assumption | decide +kernel) (by decide +kernel) ⟨rfl, rfl, rfl, rfl, rfl, by decide +kernel⟩ ?hw ?hc
  case hw => w_witness2
  case hc =>
    refine Q.walk_GT (l := PySem.Challenge.rw_domelights_k23_led_back_or_barred) (n := 63) (k := 40) (x := "_law_script") rfl (by decide) (by kernel_rfl) ⟨rfl, by decide, by decide⟩ ?F
    intro w mg fa h Y G hmg0
    obtain ⟨K, KX, c⟩ := Y
    have hmg : mg ("law" : PySem.Str) = some (.ref fa) := by
      have e : (HandSHeadRun.topDef (OpenLaw.row PySem.Challenge.rw_domelights_k23_led_back_or_barred).prog 53).name = ("law" : PySem.Str) := by kernel_rfl
      rw [← e]
      exact hmg0
    obtain ⟨g, D⟩ := Q.facts KX G ⟨c.t.d, (Q.exT_ok c.more).1⟩
    obtain ⟨fd, dl⟩ := D.d_law
    have e := hmg.symm.trans dl.g
    cases e
    have b := L2.FunD.bindsA (ps := ["_law_script"]) dl.F fun _ _ _ _ _ _ us hl => match us, hl with | [_], _ => rfl
    exact ⟨K, fd, Q.csT K Q.lamTF, _, KX, Q.csT_all (fun p hp => c.empty p hp), Q.csT_all (fun p hp => c.out p hp), Q.csT_all (fun p hp => PySem.W.codeHd_of_K KX (c.hd p hp)), fun s v => b s [v] rfl,
      fun H a ns hl hO hA hS => Q.law_spT (mg := mg) (k := 40) (tf := Q.lamTF) Q.law_true H a ns hl (Q.exT_ok c.more).2 (fun p hp => hO _ (List.mem_map.mpr ⟨p, hp, rfl⟩)) (by rw [← Q.csT_snd]; exact hA) hS,
      fun base _ _ tb => Q.fn_succG dl Q.T_law rfl rfl (by decide) fun _ _ _ _ _ _ hA hr => Q.ok_law g (Q.all_k g D (tb _ (Q.mem_csT (K := K) (tf := Q.lamTF) 0 (p := ("lots_of", "lots_of")) rfl)) 39) hA hr⟩
